/- Part 6 of the claim's own texts: the words and the printed functions that the proof reaches. No conditions. -/
import Derived.Test.YtoaepfgfbfgcdaaZke
namespace Go.Proofs.Ytoaepfgfbfgcdaa.Q
open Go.RowKit Go.Proofs.YtoaepfgfbfgcdaaW.PrintWords Go.Proofs.YtoaepfgfbfgcdaaW.PrintLast Go.Proofs.YtoaepfgfbfgcdaaW.PrintMore
attribute [local go_sem] max2_int min2_int max_two min_two max_three min_three max_four min_four
set_option linter.unusedVariables false
set_option linter.unusedSimpArgs false
attribute [local go_sem high] eqA28
mutual
def steeplelaw21_ZeroCorners.j0 : Nat → Int → Bool → List (List (S149)) → List (List (S28)) → Int → Int → List (S28) → Int → Int → Option (Bool)
 | 0, _, _, _, _, _, _, _, _, _ => none
 | k + 1, x0, x32, x940000, x940001, x941000, x941001, x941002, x941003, x941004 => if x32 = true then ((steeplelaw21_awake.f k).bind fun t943 => (some t943)) else (if 0 < (x940001.length : Int) then (if (IntKind.u64.wrap (((rd_L11 x940001 0).length : Int))) = 0 then (none) else (steeplelaw21_ZeroCorners.l0 k x0 (wrap64 (Int.tmod x941004 (IntKind.u64.wrap (((rd_L11 x940001 0).length : Int))))) ([] : List (S28)) (wrap64 (Int.tmod x941004 (IntKind.u64.wrap (((rd_L11 x940001 0).length : Int))))) x940000 x940001 x941000 x941001 x941002 x941003 x941004)) else (none))
def steeplelaw21_ZeroCorners.j2 : Nat → Int → Int → List (S28) → List (S28) → List (List (S149)) → List (List (S28)) → Int → Int → List (S28) → Int → Int → Option (Bool)
 | 0, _, _, _, _, _, _, _, _, _, _, _ => none
 | k + 1, x0, x7, x8, x9, x940000, x940001, x941000, x941001, x941002, x941003, x941004 => (zero_Sum.f k x0 x940000 x940001 x941000 x941001 x8).bind fun bt949 => (if bt949.2.2 = 0 then (steeplelaw21_ZeroCorners.l1 k x0 x7 x9 0 x940000 x940001 x941000 x941001 x941002 x941003 x941004 bt949.1 bt949.2.1) else ((steeplelaw21_awake.f k).bind fun t953 => (some t953)))
def steeplelaw21_ZeroCorners.l1 : Nat → Int → Int → List (S28) → Int → List (List (S149)) → List (List (S28)) → Int → Int → List (S28) → Int → Int → Int → Int → Option (Bool)
 | 0, _, _, _, _, _, _, _, _, _, _, _, _, _ => none
 | k + 1, x0, x7, x9, x13, x940000, x940001, x941000, x941001, x941002, x941003, x941004, x953000, x953001 => if x13 < (x940001.length : Int) then (if 0 ≤ x13 then (if 0 ≤ x7 then (if x7 < ((rd_L11 x940001 x13).length : Int) then (if x9.length < 8796093022208 then (steeplelaw21_ZeroCorners.l1 k x0 x7 (x9 ++ [(⟨(rd_T28 (rd_L11 x940001 x13) x7).f0, (rd_T28 (rd_L11 x940001 x13) x7).f1⟩ : S28)]) (wrap64 (x13 + 1)) x940000 x940001 x941000 x941001 x941002 x941003 x941004 x953000 x953001) else (none)) else (none)) else (none)) else (none)) else ((zero_Value.f k x0 x940000 x9 x941000 x941001 0 1).bind fun bt959 => ((steeplelaw21_awake.f k).bind fun t963 => (if t963 = true then (if bt959.2.2 = 0 then (some (bt959.1 == x953000 && (bt959.2.1 == x953001))) else (some false)) else (some false))))
def steeplelaw21_ZeroCorners.l0 : Nat → Int → Int → List (S28) → Int → List (List (S149)) → List (List (S28)) → Int → Int → List (S28) → Int → Int → Option (Bool)
 | 0, _, _, _, _, _, _, _, _, _, _, _ => none
 | k + 1, x0, x7, x8, x10, x940000, x940001, x941000, x941001, x941002, x941003, x941004 => if 0 < (x940001.length : Int) then (if 0 ≤ (IntKind.u64.wrap ((x8.length : Int))) then (if ((rd_L11 x940001 0).length : Int) > (shl .i64 1 (IntKind.u64.wrap ((x8.length : Int)))) then (if (x8.length : Int) < 5 then (if x8.length < 8796093022208 then (steeplelaw21_ZeroCorners.l0 k x0 x7 (x8 ++ [(⟨0, IntKind.u64.wrap (Int.tmod x10 2)⟩ : S28)]) (wrap64 (Int.tdiv x10 2)) x940000 x940001 x941000 x941001 x941002 x941003 x941004) else (none)) else (steeplelaw21_ZeroCorners.j2 k x0 x7 x8 ([] : List (S28)) x940000 x940001 x941000 x941001 x941002 x941003 x941004)) else (steeplelaw21_ZeroCorners.j2 k x0 x7 x8 ([] : List (S28)) x940000 x940001 x941000 x941001 x941002 x941003 x941004)) else (none)) else (none)
end
def steeplelaw21_ZeroCorners.f (k : Nat) (a0 : Int) (l1_0 : List (List (S149))) (l1_1 : List (List (S28))) (a2_0 : Int) (a2_1 : Int) (l2_2 : List (S28)) (a2_3 : Int) (a2_4 : Int) : Option (Bool) := (steeplelaw21_Few.f k l1_0 l1_1).bind fun t941 => (if t941 = true then (if (l1_1.length : Int) = 0 then (steeplelaw21_ZeroCorners.j0 k a0 true l1_0 l1_1 a2_0 a2_1 l2_2 a2_3 a2_4) else (if 0 < (l1_1.length : Int) then (steeplelaw21_ZeroCorners.j0 k a0 (((rd_L11 l1_1 0).length : Int) == 0) l1_0 l1_1 a2_0 a2_1 l2_2 a2_3 a2_4) else (none))) else (steeplelaw21_ZeroCorners.j0 k a0 true l1_0 l1_1 a2_0 a2_1 l2_2 a2_3 a2_4))
set_option maxHeartbeats 8000000 in
set_option maxRecDepth 100000 in
theorem steeplelaw21_ZeroCorners.calls (k : Nat) (a0 : Int) (A1_0 : Option Addr) (c1_0 : Nat) (l1_0 : List (List (S149))) (A1_1 : Option Addr) (c1_1 : Nat) (l1_1 : List (List (S28))) (a2_0 : Int) (a2_1 : Int) (A2_2 : Option Addr) (c2_2 : Nat) (l2_2 : List (S28)) (a2_3 : Int) (a2_4 : Int) (r : Bool) (w : World) (hr1_0 : Kd.C (Kd.slice 149 k149) w A1_0 l1_0.length l1_0) (hc1_0 : l1_0.length ≤ c1_0) (hr1_1 : Kd.C (Kd.slice 28 k28) w A1_1 l1_1.length l1_1) (hc1_1 : l1_1.length ≤ c1_1) (hr2_2 : Kd.C k28 w A2_2 l2_2.length l2_2) (hc2_2 : l2_2.length ≤ c2_2) (h : steeplelaw21_ZeroCorners.f k a0 l1_0 l1_1 a2_0 a2_1 l2_2 a2_3 a2_4 = some r) :
  Calls Try.prog 8 #[.int .i64 a0, .agg #[.slice A1_0 l1_0.length c1_0, .slice A1_1 l1_1.length c1_1], .agg #[.int .u64 a2_0, .int .u64 a2_1, .slice A2_2 l2_2.length c2_2, .int .u64 a2_3, .int .u64 a2_4]] w fun e w' => e = .returned (.bool r) ∧ Below w.heap.size w w' := by
 have hu59 := Try.underlying59
 have hu61 := Try.underlying61
 have hu28 := Try.underlying28
 have HR1_0 := Aside0.mk hr1_0
 have HC1_0 := Aside0.mk hc1_0
 clear hr1_0 hc1_0
 have HR1_1 := Aside0.mk hr1_1
 have HC1_1 := Aside0.mk hc1_1
 clear hr1_1 hc1_1
 have HR2_2 := Aside0.mk hr2_2
 have HC2_2 := Aside0.mk hc2_2
 clear hr2_2 hc2_2
 have HB := Aside0.mk (Below.refl w.heap.size w)
 have H : ((steeplelaw21_Few.f k l1_0 l1_1).bind fun t941 => (if t941 = true then (if (l1_1.length : Int) = 0 then (steeplelaw21_ZeroCorners.j0 k a0 true l1_0 l1_1 a2_0 a2_1 l2_2 a2_3 a2_4) else (if 0 < (l1_1.length : Int) then (steeplelaw21_ZeroCorners.j0 k a0 (((rd_L11 l1_1 0).length : Int) == 0) l1_0 l1_1 a2_0 a2_1 l2_2 a2_3 a2_4) else (none))) else (steeplelaw21_ZeroCorners.j0 k a0 true l1_0 l1_1 a2_0 a2_1 l2_2 a2_3 a2_4))) = some r := h
 clear h
 have HC4 := Aside0.mk H
 clear H
 go_enter Try.func8, Try.ntmps8
 go_upto_region 1 with (first | ((with_reducible refine gate_dst (N := 4) rfl ?_); (try (refine gate_guard (by rfl) ?_; dsimp only)); refine box_event ?hg (N := 4) ?hd (cs := #[.slice A1_0 l1_0.length c1_0, .slice A1_1 l1_1.length c1_1]) (t := 59) ?hr ?_; (case hd => rfl); (case hg => rfl); (case hr => first | (go_simp; done) | (go_simp; rfl)); intro gb939 hg w5 hbox hb; have n0_ := Aside0.mk (below_step (by exact lF HB.out) hb); have n1_ := Aside0.mk (hbox); have n2_ := Aside0.mk ((by rw [hg]; exact (below_size (by exact lF HB.out)) : w.heap.size ≤ gb939)); have n3_ := Aside0.mk ((by rw [hg]; exact (below_size (by exact lF HB.out)) : w.heap.size ≤ gb939)); clear HB; have HB := n0_; have BK939 := n1_; have GW939 := n2_; have GE939 := n3_; clear n0_ n1_ n2_ n3_; clear hb hbox hg) | ((with_reducible refine gate_dst (N := 5) rfl ?_); (try (refine gate_guard (by rfl) ?_; dsimp only)); refine box_event ?hg (N := 5) ?hd (cs := #[.int .u64 a2_0, .int .u64 a2_1, .slice A2_2 l2_2.length c2_2, .int .u64 a2_3, .int .u64 a2_4]) (t := 61) ?hr ?_; (case hd => rfl); (case hg => rfl); (case hr => first | (go_simp; done) | (go_simp; rfl)); intro gb940 hg w6 hbox hb; have n0_ := Aside0.mk (blk_below (g := gb939) (o := .cells #[.slice A1_0 l1_0.length c1_0, .slice A1_1 l1_1.length c1_1] 59 (0, 0)) (by exact bF BK939.out) hb); have n1_ := Aside0.mk (below_step (by repeat (first | (with_reducible first | exact HB.out | apply bA | apply bN | apply bD | refine bS ?_ GE939.out) | exact HB.out)) hb); have n2_ := Aside0.mk (hbox); have n3_ := Aside0.mk ((by rw [hg]; exact (below_size (by repeat (first | (with_reducible first | exact HB.out | apply bA | apply bN | apply bD | refine bS ?_ GE939.out) | exact HB.out))) : w.heap.size ≤ gb940)); have n4_ := Aside0.mk ((by rw [hg]; exact (below_size (by repeat (first | (with_reducible first | exact HB.out | apply bA | apply bN | apply bD | refine bS ?_ GE939.out) | exact HB.out))) : w.heap.size ≤ gb940)); have n5_ := Aside0.mk ((by rw [hg]; exact Nat.ne_of_lt (blk_lt (g := gb939) (o := .cells #[.slice A1_0 l1_0.length c1_0, .slice A1_1 l1_1.length c1_1] 59 (0, 0)) (by exact bF BK939.out)) : gb939 ≠ gb940)); have n6_ := Aside0.mk ((by rw [hg]; exact Nat.ne_of_gt (blk_lt (g := gb939) (o := .cells #[.slice A1_0 l1_0.length c1_0, .slice A1_1 l1_1.length c1_1] 59 (0, 0)) (by exact bF BK939.out)) : gb940 ≠ gb939)); clear BK939; clear HB; have BK939 := n0_; have HB := n1_; have BK940 := n2_; have GW940 := n3_; have GE940 := n4_; have NB939_940 := n5_; have NB940_939 := n6_; clear n0_ n1_ n2_ n3_ n4_ n5_ n6_; clear hb hbox hg))
 repeat (go_quiet (first | ((with_reducible refine gate_dst (N := 4) rfl ?_); (try (refine gate_guard (by rfl) ?_; dsimp only)); refine box_event ?hg (N := 4) ?hd (cs := #[.slice A1_0 l1_0.length c1_0, .slice A1_1 l1_1.length c1_1]) (t := 59) ?hr ?_; (case hd => rfl); (case hg => rfl); (case hr => first | (go_simp; done) | (go_simp; rfl)); intro gb939 hg w5 hbox hb; have n0_ := Aside0.mk (below_step (by exact lF HB.out) hb); have n1_ := Aside0.mk (hbox); have n2_ := Aside0.mk ((by rw [hg]; exact (below_size (by exact lF HB.out)) : w.heap.size ≤ gb939)); have n3_ := Aside0.mk ((by rw [hg]; exact (below_size (by exact lF HB.out)) : w.heap.size ≤ gb939)); clear HB; have HB := n0_; have BK939 := n1_; have GW939 := n2_; have GE939 := n3_; clear n0_ n1_ n2_ n3_; clear hb hbox hg) | ((with_reducible refine gate_dst (N := 5) rfl ?_); (try (refine gate_guard (by rfl) ?_; dsimp only)); refine box_event ?hg (N := 5) ?hd (cs := #[.int .u64 a2_0, .int .u64 a2_1, .slice A2_2 l2_2.length c2_2, .int .u64 a2_3, .int .u64 a2_4]) (t := 61) ?hr ?_; (case hd => rfl); (case hg => rfl); (case hr => first | (go_simp; done) | (go_simp; rfl)); intro gb940 hg w6 hbox hb; have n0_ := Aside0.mk (blk_below (g := gb939) (o := .cells #[.slice A1_0 l1_0.length c1_0, .slice A1_1 l1_1.length c1_1] 59 (0, 0)) (by exact bF BK939.out) hb); have n1_ := Aside0.mk (below_step (by repeat (first | (with_reducible first | exact HB.out | apply bA | apply bN | apply bD | refine bS ?_ GE939.out) | exact HB.out)) hb); have n2_ := Aside0.mk (hbox); have n3_ := Aside0.mk ((by rw [hg]; exact (below_size (by repeat (first | (with_reducible first | exact HB.out | apply bA | apply bN | apply bD | refine bS ?_ GE939.out) | exact HB.out))) : w.heap.size ≤ gb940)); have n4_ := Aside0.mk ((by rw [hg]; exact (below_size (by repeat (first | (with_reducible first | exact HB.out | apply bA | apply bN | apply bD | refine bS ?_ GE939.out) | exact HB.out))) : w.heap.size ≤ gb940)); have n5_ := Aside0.mk ((by rw [hg]; exact Nat.ne_of_lt (blk_lt (g := gb939) (o := .cells #[.slice A1_0 l1_0.length c1_0, .slice A1_1 l1_1.length c1_1] 59 (0, 0)) (by exact bF BK939.out)) : gb939 ≠ gb940)); have n6_ := Aside0.mk ((by rw [hg]; exact Nat.ne_of_gt (blk_lt (g := gb939) (o := .cells #[.slice A1_0 l1_0.length c1_0, .slice A1_1 l1_1.length c1_1] 59 (0, 0)) (by exact bF BK939.out)) : gb940 ≠ gb939)); clear BK939; clear HB; have BK939 := n0_; have HB := n1_; have BK940 := n2_; have GW940 := n3_; have GE940 := n4_; have NB939_940 := n5_; have NB940_939 := n6_; clear n0_ n1_ n2_ n3_ n4_ n5_ n6_; clear hb hbox hg)); go_upto_region 1 with (first | ((with_reducible refine gate_dst (N := 4) rfl ?_); (try (refine gate_guard (by rfl) ?_; dsimp only)); refine box_event ?hg (N := 4) ?hd (cs := #[.slice A1_0 l1_0.length c1_0, .slice A1_1 l1_1.length c1_1]) (t := 59) ?hr ?_; (case hd => rfl); (case hg => rfl); (case hr => first | (go_simp; done) | (go_simp; rfl)); intro gb939 hg w5 hbox hb; have n0_ := Aside0.mk (below_step (by exact lF HB.out) hb); have n1_ := Aside0.mk (hbox); have n2_ := Aside0.mk ((by rw [hg]; exact (below_size (by exact lF HB.out)) : w.heap.size ≤ gb939)); have n3_ := Aside0.mk ((by rw [hg]; exact (below_size (by exact lF HB.out)) : w.heap.size ≤ gb939)); clear HB; have HB := n0_; have BK939 := n1_; have GW939 := n2_; have GE939 := n3_; clear n0_ n1_ n2_ n3_; clear hb hbox hg) | ((with_reducible refine gate_dst (N := 5) rfl ?_); (try (refine gate_guard (by rfl) ?_; dsimp only)); refine box_event ?hg (N := 5) ?hd (cs := #[.int .u64 a2_0, .int .u64 a2_1, .slice A2_2 l2_2.length c2_2, .int .u64 a2_3, .int .u64 a2_4]) (t := 61) ?hr ?_; (case hd => rfl); (case hg => rfl); (case hr => first | (go_simp; done) | (go_simp; rfl)); intro gb940 hg w6 hbox hb; have n0_ := Aside0.mk (blk_below (g := gb939) (o := .cells #[.slice A1_0 l1_0.length c1_0, .slice A1_1 l1_1.length c1_1] 59 (0, 0)) (by exact bF BK939.out) hb); have n1_ := Aside0.mk (below_step (by repeat (first | (with_reducible first | exact HB.out | apply bA | apply bN | apply bD | refine bS ?_ GE939.out) | exact HB.out)) hb); have n2_ := Aside0.mk (hbox); have n3_ := Aside0.mk ((by rw [hg]; exact (below_size (by repeat (first | (with_reducible first | exact HB.out | apply bA | apply bN | apply bD | refine bS ?_ GE939.out) | exact HB.out))) : w.heap.size ≤ gb940)); have n4_ := Aside0.mk ((by rw [hg]; exact (below_size (by repeat (first | (with_reducible first | exact HB.out | apply bA | apply bN | apply bD | refine bS ?_ GE939.out) | exact HB.out))) : w.heap.size ≤ gb940)); have n5_ := Aside0.mk ((by rw [hg]; exact Nat.ne_of_lt (blk_lt (g := gb939) (o := .cells #[.slice A1_0 l1_0.length c1_0, .slice A1_1 l1_1.length c1_1] 59 (0, 0)) (by exact bF BK939.out)) : gb939 ≠ gb940)); have n6_ := Aside0.mk ((by rw [hg]; exact Nat.ne_of_gt (blk_lt (g := gb939) (o := .cells #[.slice A1_0 l1_0.length c1_0, .slice A1_1 l1_1.length c1_1] 59 (0, 0)) (by exact bF BK939.out)) : gb940 ≠ gb939)); clear BK939; clear HB; have BK939 := n0_; have HB := n1_; have BK940 := n2_; have GW940 := n3_; have GE940 := n4_; have NB939_940 := n5_; have NB940_939 := n6_; clear n0_ n1_ n2_ n3_ n4_ n5_ n6_; clear hb hbox hg)))
 (try simp only [Act.put, List.setIfInBounds_toArray, List.set_cons_zero, List.set_cons_succ])
 go_cut [32] (fun v32 wc => ∃ (kq : Nat) (x32_3 : Bool), v32 = .bool x32_3 ∧ Aside0 (steeplelaw21_ZeroCorners.j0 kq a0 x32_3 l1_0 l1_1 a2_0 a2_1 l2_2 a2_3 a2_4 = some r) ∧ Aside0 (kq ≤ k) ∧ Aside0 (wc.heap[gb939]? = some (.cells #[(.slice A1_0 l1_0.length c1_0), (.slice A1_1 l1_1.length c1_1)] 59 (0, 0))) ∧ Aside0 (wc.heap[gb940]? = some (.cells #[.int .u64 a2_0, .int .u64 a2_1, (.slice A2_2 l2_2.length c2_2), .int .u64 a2_3, .int .u64 a2_4] 61 (0, 0))) ∧ Aside0 (Below w.heap.size w wc))
 case first =>
  have H := HC4.out
  clear HC4
  replace H := Option.bind_eq_some_iff.mp H
  obtain ⟨t941, A70, H⟩ := H
  replace H : (if t941 = true then (if (l1_1.length : Int) = 0 then (steeplelaw21_ZeroCorners.j0 k a0 true l1_0 l1_1 a2_0 a2_1 l2_2 a2_3 a2_4) else (if 0 < (l1_1.length : Int) then (steeplelaw21_ZeroCorners.j0 k a0 (((rd_L11 l1_1 0).length : Int) == 0) l1_0 l1_1 a2_0 a2_1 l2_2 a2_3 a2_4) else (none))) else (steeplelaw21_ZeroCorners.j0 k a0 true l1_0 l1_1 a2_0 a2_1 l2_2 a2_3 a2_4)) = some r := H
  have A7 := Aside0.mk A70
  clear A70
  by_cases c8 : t941 = true
  ·subst c8
   have H1 : (if (l1_1.length : Int) = 0 then (steeplelaw21_ZeroCorners.j0 k a0 true l1_0 l1_1 a2_0 a2_1 l2_2 a2_3 a2_4) else (if 0 < (l1_1.length : Int) then (steeplelaw21_ZeroCorners.j0 k a0 (((rd_L11 l1_1 0).length : Int) == 0) l1_0 l1_1 a2_0 a2_1 l2_2 a2_3 a2_4) else (none))) = some r := by rw [if_pos rfl] at H; exact H
   clear H
   have H := H1
   clear H1
   by_cases c9 : (l1_1.length : Int) = 0
   ·rw [if_pos c9] at H
    have c9b0 : ((l1_1.length : Int) == 0) = true := beq_iff_eq.mpr c9
    have c9b1 : ((l1_1.length : Int) != 0) = false := bne_eq_false_iff_eq.mpr c9
    clear c9
    (first | rw [c9b0] | (simp only [i64_w, i32_w]; rw [c9b0]) | skip)
    have H' := Aside0.mk H
    clear H
    have hnb10 := NB939_940.out
    have hnc10 := NB940_939.out
    have hcz11_0 : w6.cell? ⟨gb939, 0, none⟩ = some (.slice A1_0 l1_0.length c1_0) := (blk_cell BK939.out 0).trans rfl
    have hcz11_1 : w6.cell? ⟨gb939, 1, none⟩ = some (.slice A1_1 l1_1.length c1_1) := (blk_cell BK939.out 1).trans rfl
    have hfz11_0 := blk_frozen BK939.out 0
    have hfz11_1 := blk_frozen BK939.out 1
    go_wp2_with (first | (go_at_call 28; (with_reducible refine (steeplelaw21_Few.calls k _ _ l1_0 _ _ l1_1 true _ ?side1 ?side2 ?side3 ?side4 A7.out).mono ?_); (case side1 => repeat (first | exact (Kd.C_below HR1_0.out HB.out) | (with_reducible refine Kd.C_alloc ?_ _) | (with_reducible refine Kd.C_drewN ?_ _) | (with_reducible refine Kd.C_drew ?_))); (case side2 => exact HC1_0.out); (case side3 => repeat (first | exact (Kd.C_below HR1_1.out HB.out) | (with_reducible refine Kd.C_alloc ?_ _) | (with_reducible refine Kd.C_drewN ?_ _) | (with_reducible refine Kd.C_drew ?_))); (case side4 => exact HC1_1.out); rintro e w12 ⟨rfl, hb⟩; have n0_ := Aside0.mk (blk_below (g := gb939) (o := .cells #[.slice A1_0 l1_0.length c1_0, .slice A1_1 l1_1.length c1_1] 59 (0, 0)) (by exact bF BK939.out) hb); have n1_ := Aside0.mk (blk_below (g := gb940) (o := .cells #[.int .u64 a2_0, .int .u64 a2_1, .slice A2_2 l2_2.length c2_2, .int .u64 a2_3, .int .u64 a2_4] 61 (0, 0)) (by exact bF BK940.out) hb); have n2_ := Aside0.mk (below_step (by repeat (first | (with_reducible first | exact HB.out | apply bA | apply bN | apply bD | refine bS ?_ GE939.out | refine bS ?_ GE940.out) | exact HB.out)) hb); clear BK939; clear BK940; clear HB; have BK939 := n0_; have BK940 := n1_; have HB := n2_; clear n0_ n1_ n2_; (try clear hb); (try clear hb2); (try clear hk); (try clear hi); have hcz13_0 : w12.cell? ⟨gb939, 0, none⟩ = some (.slice A1_0 l1_0.length c1_0) := (blk_cell BK939.out 0).trans rfl; have hcz13_1 : w12.cell? ⟨gb939, 1, none⟩ = some (.slice A1_1 l1_1.length c1_1) := (blk_cell BK939.out 1).trans rfl; have hfz13_0 := blk_frozen BK939.out 0; have hfz13_1 := blk_frozen BK939.out 1))
    repeat (go_quiet (first | (go_at_call 28; (with_reducible refine (steeplelaw21_Few.calls k _ _ l1_0 _ _ l1_1 true _ ?side1 ?side2 ?side3 ?side4 A7.out).mono ?_); (case side1 => repeat (first | exact (Kd.C_below HR1_0.out HB.out) | (with_reducible refine Kd.C_alloc ?_ _) | (with_reducible refine Kd.C_drewN ?_ _) | (with_reducible refine Kd.C_drew ?_))); (case side2 => exact HC1_0.out); (case side3 => repeat (first | exact (Kd.C_below HR1_1.out HB.out) | (with_reducible refine Kd.C_alloc ?_ _) | (with_reducible refine Kd.C_drewN ?_ _) | (with_reducible refine Kd.C_drew ?_))); (case side4 => exact HC1_1.out); rintro e w12 ⟨rfl, hb⟩; have n0_ := Aside0.mk (blk_below (g := gb939) (o := .cells #[.slice A1_0 l1_0.length c1_0, .slice A1_1 l1_1.length c1_1] 59 (0, 0)) (by exact bF BK939.out) hb); have n1_ := Aside0.mk (blk_below (g := gb940) (o := .cells #[.int .u64 a2_0, .int .u64 a2_1, .slice A2_2 l2_2.length c2_2, .int .u64 a2_3, .int .u64 a2_4] 61 (0, 0)) (by exact bF BK940.out) hb); have n2_ := Aside0.mk (below_step (by repeat (first | (with_reducible first | exact HB.out | apply bA | apply bN | apply bD | refine bS ?_ GE939.out | refine bS ?_ GE940.out) | exact HB.out)) hb); clear BK939; clear BK940; clear HB; have BK939 := n0_; have BK940 := n1_; have HB := n2_; clear n0_ n1_ n2_; (try clear hb); (try clear hb2); (try clear hk); (try clear hi); have hcz13_0 : w12.cell? ⟨gb939, 0, none⟩ = some (.slice A1_0 l1_0.length c1_0) := (blk_cell BK939.out 0).trans rfl; have hcz13_1 : w12.cell? ⟨gb939, 1, none⟩ = some (.slice A1_1 l1_1.length c1_1) := (blk_cell BK939.out 1).trans rfl; have hfz13_0 := blk_frozen BK939.out 0; have hfz13_1 := blk_frozen BK939.out 1)); try go_wp2_with (first | (go_at_call 28; (with_reducible refine (steeplelaw21_Few.calls k _ _ l1_0 _ _ l1_1 true _ ?side1 ?side2 ?side3 ?side4 A7.out).mono ?_); (case side1 => repeat (first | exact (Kd.C_below HR1_0.out HB.out) | (with_reducible refine Kd.C_alloc ?_ _) | (with_reducible refine Kd.C_drewN ?_ _) | (with_reducible refine Kd.C_drew ?_))); (case side2 => exact HC1_0.out); (case side3 => repeat (first | exact (Kd.C_below HR1_1.out HB.out) | (with_reducible refine Kd.C_alloc ?_ _) | (with_reducible refine Kd.C_drewN ?_ _) | (with_reducible refine Kd.C_drew ?_))); (case side4 => exact HC1_1.out); rintro e w12 ⟨rfl, hb⟩; have n0_ := Aside0.mk (blk_below (g := gb939) (o := .cells #[.slice A1_0 l1_0.length c1_0, .slice A1_1 l1_1.length c1_1] 59 (0, 0)) (by exact bF BK939.out) hb); have n1_ := Aside0.mk (blk_below (g := gb940) (o := .cells #[.int .u64 a2_0, .int .u64 a2_1, .slice A2_2 l2_2.length c2_2, .int .u64 a2_3, .int .u64 a2_4] 61 (0, 0)) (by exact bF BK940.out) hb); have n2_ := Aside0.mk (below_step (by repeat (first | (with_reducible first | exact HB.out | apply bA | apply bN | apply bD | refine bS ?_ GE939.out | refine bS ?_ GE940.out) | exact HB.out)) hb); clear BK939; clear BK940; clear HB; have BK939 := n0_; have BK940 := n1_; have HB := n2_; clear n0_ n1_ n2_; (try clear hb); (try clear hb2); (try clear hk); (try clear hi); have hcz13_0 : w12.cell? ⟨gb939, 0, none⟩ = some (.slice A1_0 l1_0.length c1_0) := (blk_cell BK939.out 0).trans rfl; have hcz13_1 : w12.cell? ⟨gb939, 1, none⟩ = some (.slice A1_1 l1_1.length c1_1) := (blk_cell BK939.out 1).trans rfl; have hfz13_0 := blk_frozen BK939.out 0; have hfz13_1 := blk_frozen BK939.out 1)))
    go_meet
    case rel => exact ⟨_, (true), (by first | rfl | (simp; done) | (simp [*]; done)), H', ⟨by first | omega | exact Nat.le_refl _⟩, ⟨by exact bF BK939.out⟩, ⟨by exact bF BK940.out⟩, ⟨by repeat (first | (with_reducible first | exact HB.out | apply bA | apply bN | apply bD | refine bS ?_ GE939.out | refine bS ?_ GE940.out) | exact HB.out)⟩⟩
   ·rw [if_neg c9] at H
    have c9b0 : ((l1_1.length : Int) == 0) = false := beq_eq_false_iff_ne.mpr c9
    have c9b1 : ((l1_1.length : Int) != 0) = true := bne_iff_ne.mpr c9
    have c9b2 : ¬ (l1_1 = []) := fun h_ => c9 (by rw [h_]; rfl)
    (first | rw [c9b0] | (simp only [i64_w, i32_w]; rw [c9b0]) | skip)
    by_cases c14 : 0 < (l1_1.length : Int)
    ·rw [if_pos c14] at H
     have c14b0 : decide (0 < (l1_1.length : Int)) = true := decide_eq_true c14
     have c14b1 : decide (0 < l1_1.length) = true := decide_eq_true (by omega)
     clear c14
     have H' := Aside0.mk H
     clear H
     have hnb15 := NB939_940.out
     have hnc15 := NB940_939.out
     have hcz16_0 : w6.cell? ⟨gb939, 0, none⟩ = some (.slice A1_0 l1_0.length c1_0) := (blk_cell BK939.out 0).trans rfl
     have hcz16_1 : w6.cell? ⟨gb939, 1, none⟩ = some (.slice A1_1 l1_1.length c1_1) := (blk_cell BK939.out 1).trans rfl
     have hfz16_0 := blk_frozen BK939.out 0
     have hfz16_1 := blk_frozen BK939.out 1
     go_wp2_with (first | (go_at_call 28; (with_reducible refine (steeplelaw21_Few.calls k _ _ l1_0 _ _ l1_1 true _ ?side1 ?side2 ?side3 ?side4 A7.out).mono ?_); (case side1 => repeat (first | exact (Kd.C_below HR1_0.out HB.out) | (with_reducible refine Kd.C_alloc ?_ _) | (with_reducible refine Kd.C_drewN ?_ _) | (with_reducible refine Kd.C_drew ?_))); (case side2 => exact HC1_0.out); (case side3 => repeat (first | exact (Kd.C_below HR1_1.out HB.out) | (with_reducible refine Kd.C_alloc ?_ _) | (with_reducible refine Kd.C_drewN ?_ _) | (with_reducible refine Kd.C_drew ?_))); (case side4 => exact HC1_1.out); rintro e w17 ⟨rfl, hb⟩; have n0_ := Aside0.mk (blk_below (g := gb939) (o := .cells #[.slice A1_0 l1_0.length c1_0, .slice A1_1 l1_1.length c1_1] 59 (0, 0)) (by exact bF BK939.out) hb); have n1_ := Aside0.mk (blk_below (g := gb940) (o := .cells #[.int .u64 a2_0, .int .u64 a2_1, .slice A2_2 l2_2.length c2_2, .int .u64 a2_3, .int .u64 a2_4] 61 (0, 0)) (by exact bF BK940.out) hb); have n2_ := Aside0.mk (below_step (by repeat (first | (with_reducible first | exact HB.out | apply bA | apply bN | apply bD | refine bS ?_ GE939.out | refine bS ?_ GE940.out) | exact HB.out)) hb); clear BK939; clear BK940; clear HB; have BK939 := n0_; have BK940 := n1_; have HB := n2_; clear n0_ n1_ n2_; (try clear hb); (try clear hb2); (try clear hk); (try clear hi); have hcz18_0 : w17.cell? ⟨gb939, 0, none⟩ = some (.slice A1_0 l1_0.length c1_0) := (blk_cell BK939.out 0).trans rfl; have hcz18_1 : w17.cell? ⟨gb939, 1, none⟩ = some (.slice A1_1 l1_1.length c1_1) := (blk_cell BK939.out 1).trans rfl; have hfz18_0 := blk_frozen BK939.out 0; have hfz18_1 := blk_frozen BK939.out 1; have p942 : 0 ≤ (0 : Int) := (by omega); have q942 : 0 < (l1_1.length : Int) := of_decide_eq_true (by first | (with_reducible assumption) | assumption); obtain ⟨ad942, A942_0, c942_0, e942, hx942_0, hl942_0, hi942_0⟩ := at_L11 HR1_1.out 0 p942 q942; cases e942; have qi942 : (0 < l1_1.length) = True := eq_true (by omega); (try rw [show ((0 : Int)).toNat = 0 from rfl] at hx942_0); (try rw [Addr.add_zero'] at hx942_0); replace hx942_0 := (HB.out.cell (World.block_lt_of_cell? w _ hx942_0)).trans hx942_0; have HR942_0 := Aside0.mk hi942_0; have HC942_0 := Aside0.mk hl942_0; clear hi942_0 hl942_0; replace p942 := eq_true p942; replace q942 := eq_true q942))
     repeat (go_quiet (first | (go_at_call 28; (with_reducible refine (steeplelaw21_Few.calls k _ _ l1_0 _ _ l1_1 true _ ?side1 ?side2 ?side3 ?side4 A7.out).mono ?_); (case side1 => repeat (first | exact (Kd.C_below HR1_0.out HB.out) | (with_reducible refine Kd.C_alloc ?_ _) | (with_reducible refine Kd.C_drewN ?_ _) | (with_reducible refine Kd.C_drew ?_))); (case side2 => exact HC1_0.out); (case side3 => repeat (first | exact (Kd.C_below HR1_1.out HB.out) | (with_reducible refine Kd.C_alloc ?_ _) | (with_reducible refine Kd.C_drewN ?_ _) | (with_reducible refine Kd.C_drew ?_))); (case side4 => exact HC1_1.out); rintro e w17 ⟨rfl, hb⟩; have n0_ := Aside0.mk (blk_below (g := gb939) (o := .cells #[.slice A1_0 l1_0.length c1_0, .slice A1_1 l1_1.length c1_1] 59 (0, 0)) (by exact bF BK939.out) hb); have n1_ := Aside0.mk (blk_below (g := gb940) (o := .cells #[.int .u64 a2_0, .int .u64 a2_1, .slice A2_2 l2_2.length c2_2, .int .u64 a2_3, .int .u64 a2_4] 61 (0, 0)) (by exact bF BK940.out) hb); have n2_ := Aside0.mk (below_step (by repeat (first | (with_reducible first | exact HB.out | apply bA | apply bN | apply bD | refine bS ?_ GE939.out | refine bS ?_ GE940.out) | exact HB.out)) hb); clear BK939; clear BK940; clear HB; have BK939 := n0_; have BK940 := n1_; have HB := n2_; clear n0_ n1_ n2_; (try clear hb); (try clear hb2); (try clear hk); (try clear hi); have hcz18_0 : w17.cell? ⟨gb939, 0, none⟩ = some (.slice A1_0 l1_0.length c1_0) := (blk_cell BK939.out 0).trans rfl; have hcz18_1 : w17.cell? ⟨gb939, 1, none⟩ = some (.slice A1_1 l1_1.length c1_1) := (blk_cell BK939.out 1).trans rfl; have hfz18_0 := blk_frozen BK939.out 0; have hfz18_1 := blk_frozen BK939.out 1; have p942 : 0 ≤ (0 : Int) := (by omega); have q942 : 0 < (l1_1.length : Int) := of_decide_eq_true (by first | (with_reducible assumption) | assumption); obtain ⟨ad942, A942_0, c942_0, e942, hx942_0, hl942_0, hi942_0⟩ := at_L11 HR1_1.out 0 p942 q942; cases e942; have qi942 : (0 < l1_1.length) = True := eq_true (by omega); (try rw [show ((0 : Int)).toNat = 0 from rfl] at hx942_0); (try rw [Addr.add_zero'] at hx942_0); replace hx942_0 := (HB.out.cell (World.block_lt_of_cell? w _ hx942_0)).trans hx942_0; have HR942_0 := Aside0.mk hi942_0; have HC942_0 := Aside0.mk hl942_0; clear hi942_0 hl942_0; replace p942 := eq_true p942; replace q942 := eq_true q942)); try go_wp2_with (first | (go_at_call 28; (with_reducible refine (steeplelaw21_Few.calls k _ _ l1_0 _ _ l1_1 true _ ?side1 ?side2 ?side3 ?side4 A7.out).mono ?_); (case side1 => repeat (first | exact (Kd.C_below HR1_0.out HB.out) | (with_reducible refine Kd.C_alloc ?_ _) | (with_reducible refine Kd.C_drewN ?_ _) | (with_reducible refine Kd.C_drew ?_))); (case side2 => exact HC1_0.out); (case side3 => repeat (first | exact (Kd.C_below HR1_1.out HB.out) | (with_reducible refine Kd.C_alloc ?_ _) | (with_reducible refine Kd.C_drewN ?_ _) | (with_reducible refine Kd.C_drew ?_))); (case side4 => exact HC1_1.out); rintro e w17 ⟨rfl, hb⟩; have n0_ := Aside0.mk (blk_below (g := gb939) (o := .cells #[.slice A1_0 l1_0.length c1_0, .slice A1_1 l1_1.length c1_1] 59 (0, 0)) (by exact bF BK939.out) hb); have n1_ := Aside0.mk (blk_below (g := gb940) (o := .cells #[.int .u64 a2_0, .int .u64 a2_1, .slice A2_2 l2_2.length c2_2, .int .u64 a2_3, .int .u64 a2_4] 61 (0, 0)) (by exact bF BK940.out) hb); have n2_ := Aside0.mk (below_step (by repeat (first | (with_reducible first | exact HB.out | apply bA | apply bN | apply bD | refine bS ?_ GE939.out | refine bS ?_ GE940.out) | exact HB.out)) hb); clear BK939; clear BK940; clear HB; have BK939 := n0_; have BK940 := n1_; have HB := n2_; clear n0_ n1_ n2_; (try clear hb); (try clear hb2); (try clear hk); (try clear hi); have hcz18_0 : w17.cell? ⟨gb939, 0, none⟩ = some (.slice A1_0 l1_0.length c1_0) := (blk_cell BK939.out 0).trans rfl; have hcz18_1 : w17.cell? ⟨gb939, 1, none⟩ = some (.slice A1_1 l1_1.length c1_1) := (blk_cell BK939.out 1).trans rfl; have hfz18_0 := blk_frozen BK939.out 0; have hfz18_1 := blk_frozen BK939.out 1; have p942 : 0 ≤ (0 : Int) := (by omega); have q942 : 0 < (l1_1.length : Int) := of_decide_eq_true (by first | (with_reducible assumption) | assumption); obtain ⟨ad942, A942_0, c942_0, e942, hx942_0, hl942_0, hi942_0⟩ := at_L11 HR1_1.out 0 p942 q942; cases e942; have qi942 : (0 < l1_1.length) = True := eq_true (by omega); (try rw [show ((0 : Int)).toNat = 0 from rfl] at hx942_0); (try rw [Addr.add_zero'] at hx942_0); replace hx942_0 := (HB.out.cell (World.block_lt_of_cell? w _ hx942_0)).trans hx942_0; have HR942_0 := Aside0.mk hi942_0; have HC942_0 := Aside0.mk hl942_0; clear hi942_0 hl942_0; replace p942 := eq_true p942; replace q942 := eq_true q942)))
     go_meet
     case rel => exact ⟨_, ((((rd_L11 l1_1 0).length : Int) == 0)), (by first | rfl | (simp; done) | (simp [*]; done)), H', ⟨by first | omega | exact Nat.le_refl _⟩, ⟨by exact bF BK939.out⟩, ⟨by exact bF BK940.out⟩, ⟨by repeat (first | (with_reducible first | exact HB.out | apply bA | apply bN | apply bD | refine bS ?_ GE939.out | refine bS ?_ GE940.out) | exact HB.out)⟩⟩
    ·rw [if_neg c14] at H
     exact absurd H (by simp)
  ·replace c8 := Bool.eq_false_iff.mpr c8
   subst c8
   have H1 : (steeplelaw21_ZeroCorners.j0 k a0 true l1_0 l1_1 a2_0 a2_1 l2_2 a2_3 a2_4) = some r := by rw [if_neg (show ¬ (false = true) by decide)] at H; exact H
   clear H
   have H := H1
   clear H1
   have H' := Aside0.mk H
   clear H
   have hnb19 := NB939_940.out
   have hnc19 := NB940_939.out
   have hcz20_0 : w6.cell? ⟨gb939, 0, none⟩ = some (.slice A1_0 l1_0.length c1_0) := (blk_cell BK939.out 0).trans rfl
   have hcz20_1 : w6.cell? ⟨gb939, 1, none⟩ = some (.slice A1_1 l1_1.length c1_1) := (blk_cell BK939.out 1).trans rfl
   have hfz20_0 := blk_frozen BK939.out 0
   have hfz20_1 := blk_frozen BK939.out 1
   go_wp2_with (first | (go_at_call 28; (with_reducible refine (steeplelaw21_Few.calls k _ _ l1_0 _ _ l1_1 false _ ?side1 ?side2 ?side3 ?side4 A7.out).mono ?_); (case side1 => repeat (first | exact (Kd.C_below HR1_0.out HB.out) | (with_reducible refine Kd.C_alloc ?_ _) | (with_reducible refine Kd.C_drewN ?_ _) | (with_reducible refine Kd.C_drew ?_))); (case side2 => exact HC1_0.out); (case side3 => repeat (first | exact (Kd.C_below HR1_1.out HB.out) | (with_reducible refine Kd.C_alloc ?_ _) | (with_reducible refine Kd.C_drewN ?_ _) | (with_reducible refine Kd.C_drew ?_))); (case side4 => exact HC1_1.out); rintro e w21 ⟨rfl, hb⟩; have n0_ := Aside0.mk (blk_below (g := gb939) (o := .cells #[.slice A1_0 l1_0.length c1_0, .slice A1_1 l1_1.length c1_1] 59 (0, 0)) (by exact bF BK939.out) hb); have n1_ := Aside0.mk (blk_below (g := gb940) (o := .cells #[.int .u64 a2_0, .int .u64 a2_1, .slice A2_2 l2_2.length c2_2, .int .u64 a2_3, .int .u64 a2_4] 61 (0, 0)) (by exact bF BK940.out) hb); have n2_ := Aside0.mk (below_step (by repeat (first | (with_reducible first | exact HB.out | apply bA | apply bN | apply bD | refine bS ?_ GE939.out | refine bS ?_ GE940.out) | exact HB.out)) hb); clear BK939; clear BK940; clear HB; have BK939 := n0_; have BK940 := n1_; have HB := n2_; clear n0_ n1_ n2_; (try clear hb); (try clear hb2); (try clear hk); (try clear hi)))
   repeat (go_quiet (first | (go_at_call 28; (with_reducible refine (steeplelaw21_Few.calls k _ _ l1_0 _ _ l1_1 false _ ?side1 ?side2 ?side3 ?side4 A7.out).mono ?_); (case side1 => repeat (first | exact (Kd.C_below HR1_0.out HB.out) | (with_reducible refine Kd.C_alloc ?_ _) | (with_reducible refine Kd.C_drewN ?_ _) | (with_reducible refine Kd.C_drew ?_))); (case side2 => exact HC1_0.out); (case side3 => repeat (first | exact (Kd.C_below HR1_1.out HB.out) | (with_reducible refine Kd.C_alloc ?_ _) | (with_reducible refine Kd.C_drewN ?_ _) | (with_reducible refine Kd.C_drew ?_))); (case side4 => exact HC1_1.out); rintro e w21 ⟨rfl, hb⟩; have n0_ := Aside0.mk (blk_below (g := gb939) (o := .cells #[.slice A1_0 l1_0.length c1_0, .slice A1_1 l1_1.length c1_1] 59 (0, 0)) (by exact bF BK939.out) hb); have n1_ := Aside0.mk (blk_below (g := gb940) (o := .cells #[.int .u64 a2_0, .int .u64 a2_1, .slice A2_2 l2_2.length c2_2, .int .u64 a2_3, .int .u64 a2_4] 61 (0, 0)) (by exact bF BK940.out) hb); have n2_ := Aside0.mk (below_step (by repeat (first | (with_reducible first | exact HB.out | apply bA | apply bN | apply bD | refine bS ?_ GE939.out | refine bS ?_ GE940.out) | exact HB.out)) hb); clear BK939; clear BK940; clear HB; have BK939 := n0_; have BK940 := n1_; have HB := n2_; clear n0_ n1_ n2_; (try clear hb); (try clear hb2); (try clear hk); (try clear hi))); try go_wp2_with (first | (go_at_call 28; (with_reducible refine (steeplelaw21_Few.calls k _ _ l1_0 _ _ l1_1 false _ ?side1 ?side2 ?side3 ?side4 A7.out).mono ?_); (case side1 => repeat (first | exact (Kd.C_below HR1_0.out HB.out) | (with_reducible refine Kd.C_alloc ?_ _) | (with_reducible refine Kd.C_drewN ?_ _) | (with_reducible refine Kd.C_drew ?_))); (case side2 => exact HC1_0.out); (case side3 => repeat (first | exact (Kd.C_below HR1_1.out HB.out) | (with_reducible refine Kd.C_alloc ?_ _) | (with_reducible refine Kd.C_drewN ?_ _) | (with_reducible refine Kd.C_drew ?_))); (case side4 => exact HC1_1.out); rintro e w21 ⟨rfl, hb⟩; have n0_ := Aside0.mk (blk_below (g := gb939) (o := .cells #[.slice A1_0 l1_0.length c1_0, .slice A1_1 l1_1.length c1_1] 59 (0, 0)) (by exact bF BK939.out) hb); have n1_ := Aside0.mk (blk_below (g := gb940) (o := .cells #[.int .u64 a2_0, .int .u64 a2_1, .slice A2_2 l2_2.length c2_2, .int .u64 a2_3, .int .u64 a2_4] 61 (0, 0)) (by exact bF BK940.out) hb); have n2_ := Aside0.mk (below_step (by repeat (first | (with_reducible first | exact HB.out | apply bA | apply bN | apply bD | refine bS ?_ GE939.out | refine bS ?_ GE940.out) | exact HB.out)) hb); clear BK939; clear BK940; clear HB; have BK939 := n0_; have BK940 := n1_; have HB := n2_; clear n0_ n1_ n2_; (try clear hb); (try clear hb2); (try clear hk); (try clear hi))))
   go_meet
   case rel => exact ⟨_, (true), (by first | rfl | (simp; done) | (simp [*]; done)), H', ⟨by first | omega | exact Nat.le_refl _⟩, ⟨by exact bF BK939.out⟩, ⟨by exact bF BK940.out⟩, ⟨by repeat (first | (with_reducible first | exact HB.out | apply bA | apply bN | apply bD | refine bS ?_ GE939.out | refine bS ?_ GE940.out) | exact HB.out)⟩⟩
 case rest =>
  clear HC4
  try clear c1
  try clear c2
  try clear p2
  try clear c8
  try clear c9
  try clear c9b0
  try clear c9b1
  try clear c9b2
  try clear p9
  try clear q9
  try clear hx9
  try clear qi9
  try clear c10
  try clear c14
  try clear c14b0
  try clear c14b1
  try clear c15
  try clear c19
  try clear hcz11_0
  try clear hcz11_1
  try clear hcz13_0
  try clear hcz13_1
  try clear hcz16_0
  try clear hcz16_1
  try clear hcz18_0
  try clear hcz18_1
  try clear hcz20_0
  try clear hcz20_1
  try clear hfz11_0
  try clear hfz11_1
  try clear hfz13_0
  try clear hfz13_1
  try clear hfz16_0
  try clear hfz16_1
  try clear hfz18_0
  try clear hfz18_1
  try clear hfz20_0
  try clear hfz20_1
  try clear hx942_0
  try clear p942
  try clear q942
  obtain ⟨kq, x32_3, rfl, HA, HJ3, BK939, BK940, HB⟩ := hcut
  cases kq with
  | zero => exact absurd HA.out (by simp [steeplelaw21_ZeroCorners.j0])
  | succ kj3 =>
   have H := HA.out
   clear HA
   simp only [steeplelaw21_ZeroCorners.j0] at H
   by_cases c22 : x32_3 = true
   ·subst c22
    have H1 : ((steeplelaw21_awake.f kj3).bind fun t943 => (some t943)) = some r := by rw [if_pos rfl] at H; exact H
    clear H
    have H := H1
    clear H1
    replace H := Option.bind_eq_some_iff.mp H
    obtain ⟨t943, A230, H⟩ := H
    replace H : (some t943) = some r := H
    have A23 := Aside0.mk A230
    clear A230
    obtain rfl := Option.some.inj H
    go_wp2_with (first | (go_at_call 29; (with_reducible refine (steeplelaw21_awake.calls kj3  t943 _ A23.out).mono ?_); rintro e w24 ⟨rfl, hb⟩; have n0_ := Aside0.mk (blk_below (g := gb939) (o := .cells #[.slice A1_0 l1_0.length c1_0, .slice A1_1 l1_1.length c1_1] 59 (0, 0)) (by exact bF BK939.out) hb); have n1_ := Aside0.mk (blk_below (g := gb940) (o := .cells #[.int .u64 a2_0, .int .u64 a2_1, .slice A2_2 l2_2.length c2_2, .int .u64 a2_3, .int .u64 a2_4] 61 (0, 0)) (by exact bF BK940.out) hb); have n2_ := Aside0.mk (below_step (by repeat (first | (with_reducible first | exact HB.out | apply bA | apply bN | apply bD | refine bS ?_ GE939.out | refine bS ?_ GE940.out) | exact HB.out)) hb); clear BK939; clear BK940; clear HB; have BK939 := n0_; have BK940 := n1_; have HB := n2_; clear n0_ n1_ n2_; (try clear hb); (try clear hb2); (try clear hk); (try clear hi)))
    repeat (go_quiet (first | (go_at_call 29; (with_reducible refine (steeplelaw21_awake.calls kj3  t943 _ A23.out).mono ?_); rintro e w24 ⟨rfl, hb⟩; have n0_ := Aside0.mk (blk_below (g := gb939) (o := .cells #[.slice A1_0 l1_0.length c1_0, .slice A1_1 l1_1.length c1_1] 59 (0, 0)) (by exact bF BK939.out) hb); have n1_ := Aside0.mk (blk_below (g := gb940) (o := .cells #[.int .u64 a2_0, .int .u64 a2_1, .slice A2_2 l2_2.length c2_2, .int .u64 a2_3, .int .u64 a2_4] 61 (0, 0)) (by exact bF BK940.out) hb); have n2_ := Aside0.mk (below_step (by repeat (first | (with_reducible first | exact HB.out | apply bA | apply bN | apply bD | refine bS ?_ GE939.out | refine bS ?_ GE940.out) | exact HB.out)) hb); clear BK939; clear BK940; clear HB; have BK939 := n0_; have BK940 := n1_; have HB := n2_; clear n0_ n1_ n2_; (try clear hb); (try clear hb2); (try clear hk); (try clear hi))); try go_wp2_with (first | (go_at_call 29; (with_reducible refine (steeplelaw21_awake.calls kj3  t943 _ A23.out).mono ?_); rintro e w24 ⟨rfl, hb⟩; have n0_ := Aside0.mk (blk_below (g := gb939) (o := .cells #[.slice A1_0 l1_0.length c1_0, .slice A1_1 l1_1.length c1_1] 59 (0, 0)) (by exact bF BK939.out) hb); have n1_ := Aside0.mk (blk_below (g := gb940) (o := .cells #[.int .u64 a2_0, .int .u64 a2_1, .slice A2_2 l2_2.length c2_2, .int .u64 a2_3, .int .u64 a2_4] 61 (0, 0)) (by exact bF BK940.out) hb); have n2_ := Aside0.mk (below_step (by repeat (first | (with_reducible first | exact HB.out | apply bA | apply bN | apply bD | refine bS ?_ GE939.out | refine bS ?_ GE940.out) | exact HB.out)) hb); clear BK939; clear BK940; clear HB; have BK939 := n0_; have BK940 := n1_; have HB := n2_; clear n0_ n1_ n2_; (try clear hb); (try clear hb2); (try clear hk); (try clear hi))))
    go_ret
    exact ⟨by first | rfl | (simp [errW_none, errW_some] <;> rfl) | (simp [*, errW_none, errW_some] <;> rfl), by repeat (first | (with_reducible first | exact HB.out | apply bA | apply bN | apply bD | refine bS ?_ GE939.out | refine bS ?_ GE940.out) | exact HB.out)⟩
   ·replace c22 := Bool.eq_false_iff.mpr c22
    subst c22
    have H1 : (if 0 < (l1_1.length : Int) then (if (IntKind.u64.wrap (((rd_L11 l1_1 0).length : Int))) = 0 then (none) else (steeplelaw21_ZeroCorners.l0 kj3 a0 (wrap64 (Int.tmod a2_4 (IntKind.u64.wrap (((rd_L11 l1_1 0).length : Int))))) ([] : List (S28)) (wrap64 (Int.tmod a2_4 (IntKind.u64.wrap (((rd_L11 l1_1 0).length : Int))))) l1_0 l1_1 a2_0 a2_1 l2_2 a2_3 a2_4)) else (none)) = some r := by rw [if_neg (show ¬ (false = true) by decide)] at H; exact H
    clear H
    have H := H1
    clear H1
    by_cases c25 : 0 < (l1_1.length : Int)
    ·rw [if_pos c25] at H
     have c25b0 : decide (0 < (l1_1.length : Int)) = true := decide_eq_true c25
     have c25b1 : decide (0 < l1_1.length) = true := decide_eq_true (by omega)
     clear c25
     by_cases c26 : (IntKind.u64.wrap (((rd_L11 l1_1 0).length : Int))) = 0
     ·rw [if_pos c26] at H
      exact absurd H (by simp)
     ·rw [if_neg c26] at H
      have c26b0 : ((IntKind.u64.wrap (((rd_L11 l1_1 0).length : Int))) == 0) = false := beq_eq_false_iff_ne.mpr c26
      have c26b1 : ((IntKind.u64.wrap (((rd_L11 l1_1 0).length : Int))) != 0) = true := bne_iff_ne.mpr c26
      have HC27 := Aside0.mk H
      clear H
      have hnb28 := NB940_939.out
      have hnc28 := NB939_940.out
      have hcz29_0 : wc.cell? ⟨gb940, 0, none⟩ = some (.int .u64 a2_0) := (blk_cell BK940.out 0).trans rfl
      have hcz29_1 : wc.cell? ⟨gb940, 1, none⟩ = some (.int .u64 a2_1) := (blk_cell BK940.out 1).trans rfl
      have hcz29_2 : wc.cell? ⟨gb940, 2, none⟩ = some (.slice A2_2 l2_2.length c2_2) := (blk_cell BK940.out 2).trans rfl
      have hcz29_3 : wc.cell? ⟨gb940, 3, none⟩ = some (.int .u64 a2_3) := (blk_cell BK940.out 3).trans rfl
      have hcz29_4 : wc.cell? ⟨gb940, 4, none⟩ = some (.int .u64 a2_4) := (blk_cell BK940.out 4).trans rfl
      have hfz29_0 := blk_frozen BK940.out 0
      have hfz29_1 := blk_frozen BK940.out 1
      have hfz29_2 := blk_frozen BK940.out 2
      have hfz29_3 := blk_frozen BK940.out 3
      have hfz29_4 := blk_frozen BK940.out 4
      have hcz30_0 : wc.cell? ⟨gb939, 0, none⟩ = some (.slice A1_0 l1_0.length c1_0) := (blk_cell BK939.out 0).trans rfl
      have hcz30_1 : wc.cell? ⟨gb939, 1, none⟩ = some (.slice A1_1 l1_1.length c1_1) := (blk_cell BK939.out 1).trans rfl
      have hfz30_0 := blk_frozen BK939.out 0
      have hfz30_1 := blk_frozen BK939.out 1
      have p944 : 0 ≤ (0 : Int) := (by omega)
      have q944 : 0 < (l1_1.length : Int) := of_decide_eq_true (by first | (with_reducible assumption) | assumption)
      obtain ⟨ad944, A944_0, c944_0, e944, hx944_0, hl944_0, hi944_0⟩ := at_L11 HR1_1.out 0 p944 q944
      cases e944
      have qi944 : (0 < l1_1.length) = True := eq_true (by omega)
      (try rw [show ((0 : Int)).toNat = 0 from rfl] at hx944_0)
      (try rw [Addr.add_zero'] at hx944_0)
      replace hx944_0 := (HB.out.cell (World.block_lt_of_cell? w _ hx944_0)).trans hx944_0
      have HR944_0 := Aside0.mk hi944_0
      have HC944_0 := Aside0.mk hl944_0
      clear hi944_0 hl944_0
      replace p944 := eq_true p944
      replace q944 := eq_true q944
      go_upto_block 0 with (fail)
      repeat (go_quiet (fail); go_upto_block 0 with (fail))
      go_cut [8] (fun v8 wc => ∃ (kq : Nat) (x8_26 : List (S28)), Aside0 (steeplelaw21_ZeroCorners.j2 kq a0 (wrap64 (Int.tmod a2_4 (IntKind.u64.wrap (((rd_L11 l1_1 0).length : Int))))) x8_26 ([] : List (S28)) l1_0 l1_1 a2_0 a2_1 l2_2 a2_3 a2_4 = some r) ∧ Aside0 (kq ≤ kj3) ∧ Aside0 (Kd.R k28 28 wc w.heap.size (fun k_ => some k_ ≠ ((.slice none 0 0) : Value).ownBlock) v8 x8_26) ∧ Aside0 (Kd.R k28 28 wc w.heap.size (fun k_ => some k_ ≠ (v8 : Value).ownBlock) (.slice none 0 0) ([] : List (S28))) ∧ Aside0 (wc.heap[gb939]? = some (.cells #[(.slice A1_0 l1_0.length c1_0), (.slice (some ad944) l1_1.length c1_1)] 59 (0, 0))) ∧ Aside0 (wc.heap[gb940]? = some (.cells #[.int .u64 a2_0, .int .u64 a2_1, (.slice A2_2 l2_2.length c2_2), .int .u64 a2_3, .int .u64 a2_4] 61 (0, 0))) ∧ Aside0 (Below w.heap.size w wc))
      case first =>
       have H := HC27.out
       clear HC27
       have H' := Aside0.mk H
       clear H
       go_wp2
       repeat (go_quiet (fail); try go_wp2)
       go_loopg [8, 10] kj3 (fun kq v8 v10 w' => ∃ (x8_2 : List (S28)) (x10_2 : Int), v10 = .int .i64 x10_2 ∧ Aside0 (steeplelaw21_ZeroCorners.l0 kq a0 (wrap64 (Int.tmod a2_4 (IntKind.u64.wrap (((rd_L11 l1_1 0).length : Int))))) x8_2 x10_2 l1_0 l1_1 a2_0 a2_1 l2_2 a2_3 a2_4 = some r) ∧ Aside0 (kq ≤ kj3) ∧ Aside0 (Kd.R k28 28 w' w.heap.size (fun _ => True) v8 x8_2) ∧ Aside0 (w'.heap[gb939]? = some (.cells #[(.slice A1_0 l1_0.length c1_0), (.slice (some ad944) l1_1.length c1_1)] 59 (0, 0))) ∧ Aside0 (w'.heap[gb940]? = some (.cells #[.int .u64 a2_0, .int .u64 a2_1, (.slice A2_2 l2_2.length c2_2), .int .u64 a2_3, .int .u64 a2_4] 61 (0, 0))) ∧ Aside0 (Below w.heap.size w w'))
       case atStart => exact ⟨(([] : List (S28))), (wrap64 (Int.tmod a2_4 (IntKind.u64.wrap (((rd_L11 l1_1 0).length : Int))))), (by first | rfl | (simp; done) | (simp [*]; done)), H', ⟨Nat.le_refl _⟩, ⟨by first | exact Kd.R_nil _ _ _ _ _ | exact Kd.N_nil _ _ _ _ _ | exact Kd.V_nil _ _ _ _ _ | exact Kd.Q_nil _ _ _ _ _ | exact Kd.S_nil _ _ _ _ _⟩, ⟨by exact bF BK939.out⟩, ⟨by exact bF BK940.out⟩, ⟨by repeat (first | (with_reducible first | exact HB.out | apply bA | apply bN | apply bD | refine bS ?_ GE939.out | refine bS ?_ GE940.out) | exact HB.out)⟩⟩
       case round =>
        clear H'
        try clear c1
        try clear c2
        try clear p2
        try clear p6
        try clear c8
        try clear c9
        try clear c9b0
        try clear c9b1
        try clear c9b2
        try clear p9
        try clear q9
        try clear hx9
        try clear qi9
        try clear c10
        try clear c14
        try clear c14b0
        try clear c14b1
        try clear c15
        try clear c19
        try clear c22
        try clear c25
        try clear c25b0
        try clear c25b1
        try clear c26
        try clear c26b0
        try clear c26b1
        try clear c28
        try clear hcz11_0
        try clear hcz11_1
        try clear hcz13_0
        try clear hcz13_1
        try clear hcz16_0
        try clear hcz16_1
        try clear hcz18_0
        try clear hcz18_1
        try clear hcz20_0
        try clear hcz20_1
        try clear hcz29_0
        try clear hcz29_1
        try clear hcz29_2
        try clear hcz29_3
        try clear hcz29_4
        try clear hcz30_0
        try clear hcz30_1
        try clear hfz11_0
        try clear hfz11_1
        try clear hfz13_0
        try clear hfz13_1
        try clear hfz16_0
        try clear hfz16_1
        try clear hfz18_0
        try clear hfz18_1
        try clear hfz20_0
        try clear hfz20_1
        try clear hfz29_0
        try clear hfz29_1
        try clear hfz29_2
        try clear hfz29_3
        try clear hfz29_4
        try clear hfz30_0
        try clear hfz30_1
        try clear hx942_0
        try clear hx944_0
        try clear p2
        try clear p9
        try clear p942
        try clear p944
        try clear q9
        try clear q942
        try clear q944
        obtain ⟨x8_2, x10_2, rfl, HA, HK2, HO_8, BK939, BK940, HB⟩ := hrel
        cases gk with
        | zero => exact absurd HA.out (by simp [steeplelaw21_ZeroCorners.l0])
        | succ k2 =>
         have H := HA.out
         clear HA
         simp only [steeplelaw21_ZeroCorners.l0] at H
         by_cases c31 : 0 < (l1_1.length : Int)
         ·rw [if_pos c31] at H
          have c31b0 : decide (0 < (l1_1.length : Int)) = true := decide_eq_true c31
          have c31b1 : decide (0 < l1_1.length) = true := decide_eq_true (by omega)
          clear c31
          (first | rw [c31b0] | (simp only [i64_w, i32_w]; rw [c31b0]) | skip)
          obtain ⟨ji32, hji32⟩ : ∃ j_ : Int, (IntKind.u64.wrap ((x8_2.length : Int))) = j_ := ⟨_, rfl⟩
          replace H : (if 0 ≤ (ji32) then (if ((rd_L11 l1_1 0).length : Int) > (shl .i64 1 (ji32)) then (if (x8_2.length : Int) < 5 then (if x8_2.length < 8796093022208 then (steeplelaw21_ZeroCorners.l0 k2 a0 (wrap64 (Int.tmod a2_4 (IntKind.u64.wrap (((rd_L11 l1_1 0).length : Int))))) (x8_2 ++ [(⟨0, IntKind.u64.wrap (Int.tmod x10_2 2)⟩ : S28)]) (wrap64 (Int.tdiv x10_2 2)) l1_0 l1_1 a2_0 a2_1 l2_2 a2_3 a2_4) else (none)) else (steeplelaw21_ZeroCorners.j2 k2 a0 (wrap64 (Int.tmod a2_4 (IntKind.u64.wrap (((rd_L11 l1_1 0).length : Int))))) x8_2 ([] : List (S28)) l1_0 l1_1 a2_0 a2_1 l2_2 a2_3 a2_4)) else (steeplelaw21_ZeroCorners.j2 k2 a0 (wrap64 (Int.tmod a2_4 (IntKind.u64.wrap (((rd_L11 l1_1 0).length : Int))))) x8_2 ([] : List (S28)) l1_0 l1_1 a2_0 a2_1 l2_2 a2_3 a2_4)) else (none)) = some r := by first | (rw [hji32] at H; exact H) | (simp only [hji32] at H ⊢; exact H)
          by_cases c33 : 0 ≤ (ji32)
          ·rw [if_pos c33] at H
           have c33b0 := eq_true c33
           have c33b1 : decide (0 ≤ (ji32)) = true := decide_eq_true c33
           clear c33
           obtain ⟨ji34, hji34⟩ : ∃ j_ : Int, (shl .i64 1 (ji32)) = j_ := ⟨_, rfl⟩
           replace H : (if ((rd_L11 l1_1 0).length : Int) > (ji34) then (if (x8_2.length : Int) < 5 then (if x8_2.length < 8796093022208 then (steeplelaw21_ZeroCorners.l0 k2 a0 (wrap64 (Int.tmod a2_4 (IntKind.u64.wrap (((rd_L11 l1_1 0).length : Int))))) (x8_2 ++ [(⟨0, IntKind.u64.wrap (Int.tmod x10_2 2)⟩ : S28)]) (wrap64 (Int.tdiv x10_2 2)) l1_0 l1_1 a2_0 a2_1 l2_2 a2_3 a2_4) else (none)) else (steeplelaw21_ZeroCorners.j2 k2 a0 (wrap64 (Int.tmod a2_4 (IntKind.u64.wrap (((rd_L11 l1_1 0).length : Int))))) x8_2 ([] : List (S28)) l1_0 l1_1 a2_0 a2_1 l2_2 a2_3 a2_4)) else (steeplelaw21_ZeroCorners.j2 k2 a0 (wrap64 (Int.tmod a2_4 (IntKind.u64.wrap (((rd_L11 l1_1 0).length : Int))))) x8_2 ([] : List (S28)) l1_0 l1_1 a2_0 a2_1 l2_2 a2_3 a2_4)) = some r := by first | (rw [hji34] at H; exact H) | (simp only [hji34] at H ⊢; exact H)
           have hji34_ : (IntKind.i64.wrap (1 * 2 ^ min (ji32).toNat 64)) = ji34 := hji34
           have hji34z : (ji32) ≤ 64 → (IntKind.i64.wrap (1 * 2 ^ (ji32).toNat)) = ji34 := shl_small hji34
           have hji34u : (IntKind.i64.wrap (2 ^ min (ji32).toNat 64)) = ji34 := by have h_ := hji34_; rw [Int.one_mul] at h_; exact h_
           have hji34v : (ji32) ≤ 64 → (IntKind.i64.wrap (2 ^ (ji32).toNat)) = ji34 := fun hle_ => by have h_ := hji34z hle_; rw [Int.one_mul] at h_; exact h_
           have hji34y : (wrap64 (1 * 2 ^ min (ji32).toNat 64)) = ji34 := (i64_w _).symm.trans hji34_
           have hji34x : (ji32) ≤ 64 → (wrap64 (1 * 2 ^ (ji32).toNat)) = ji34 := fun h_ => (i64_w _).symm.trans (hji34z h_)
           by_cases c35 : ((rd_L11 l1_1 0).length : Int) > (ji34)
           ·rw [if_pos c35] at H
            have c35b0 : decide ((ji34) < ((rd_L11 l1_1 0).length : Int)) = true := decide_eq_true c35
            clear c35
            by_cases c36 : (x8_2.length : Int) < 5
            ·rw [if_pos c36] at H
             have c36b0 : decide ((x8_2.length : Int) < 5) = true := decide_eq_true c36
             have c36b1 : decide (x8_2.length < 5) = true := decide_eq_true (by omega)
             clear c36
             by_cases c37 : x8_2.length < 8796093022208
             ·rw [if_pos c37] at H
              have LMc37 := Aside0.mk c37
              clear c37
              obtain ⟨y946, hy946⟩ : ∃ y_ : List (S28), y_ = (x8_2 ++ [(⟨0, IntKind.u64.wrap (Int.tmod x10_2 2)⟩ : S28)]) := ⟨_, rfl⟩
              replace H : (steeplelaw21_ZeroCorners.l0 k2 a0 (wrap64 (Int.tmod a2_4 (IntKind.u64.wrap (((rd_L11 l1_1 0).length : Int))))) y946 (wrap64 (Int.tdiv x10_2 2)) l1_0 l1_1 a2_0 a2_1 l2_2 a2_3 a2_4) = some r := by first | (rw [hy946]; with_reducible exact H) | (have H2_ := (Option.bind_some _ _).symm.trans H; rw [hy946]; with_reducible exact H2_) | (have H2_ := (Option.bind_some _ _).symm.trans H; with_reducible exact H2_) | with_reducible exact H | (rw [hy946]; exact H) | exact H
              have Ny946 := Aside0.mk hy946
              clear hy946
              have H' := Aside0.mk H
              clear H
              have hnb38 := NB939_940.out
              have hnc38 := NB940_939.out
              have hcz39_0 : wr.cell? ⟨gb939, 0, none⟩ = some (.slice A1_0 l1_0.length c1_0) := (blk_cell BK939.out 0).trans rfl
              have hcz39_1 : wr.cell? ⟨gb939, 1, none⟩ = some (.slice (some ad944) l1_1.length c1_1) := (blk_cell BK939.out 1).trans rfl
              have hfz39_0 := blk_frozen BK939.out 0
              have hfz39_1 := blk_frozen BK939.out 1
              have p945 : 0 ≤ (0 : Int) := (by omega)
              have q945 : 0 < (l1_1.length : Int) := of_decide_eq_true (by first | (with_reducible assumption) | assumption)
              obtain ⟨ad945, A945_0, c945_0, e945, hx945_0, hl945_0, hi945_0⟩ := at_L11 HR1_1.out 0 p945 q945
              obtain rfl : ad944 = ad945 := (by injection e945)
              have qi945 : (0 < l1_1.length) = True := eq_true (by omega)
              (try rw [show ((0 : Int)).toNat = 0 from rfl] at hx945_0)
              (try rw [Addr.add_zero'] at hx945_0)
              replace hx945_0 := (HB.out.cell (World.block_lt_of_cell? w _ hx945_0)).trans hx945_0
              have HR945_0 := Aside0.mk hi945_0
              have HC945_0 := Aside0.mk hl945_0
              clear hi945_0 hl945_0
              replace p945 := eq_true p945
              replace q945 := eq_true q945
              obtain ⟨Ao40, co40, eo40⟩ := Kd.R_slice HO_8.out
              subst eo40
              go_wp2_with (first | ((with_reducible refine gate_builtin (b := .append) (xs := #[.tmp 63, .tmp 68]) rfl ?_); (try (refine gate_guard (by rfl) ?_; dsimp only)); at_builtin; refine Kd.R_append k28 (w0 := w) w.heap.size rfl (.tmp 63) (.tmp 68) 53 28 (.agg #[(.int .u64 0), (.int .u64 0)]) 16 rfl Try.underlying53 info28 rfl (by decide) (by omega) (.slice Ao40 x8_2.length co40) x8_2 (⟨0, IntKind.u64.wrap (Int.tmod x10_2 2)⟩ : S28) [.int .u64 0, .int .u64 (IntKind.u64.wrap (Int.tmod x10_2 2))] (fun _ => True) (fun _ => False) rfl rfl ?aP (fun _ hk => hk.elim) ?aF ?aO ?aB ?aS ?aL ?_; (case aP => exact k28_mkM _ _ _ (⟨0, IntKind.u64.wrap (Int.tmod x10_2 2)⟩ : S28)); (case aB => exact (by repeat (first | (with_reducible first | exact HB.out | apply bA | apply bN | apply bD | refine bS ?_ GE939.out | refine bS ?_ GE940.out) | exact HB.out))); (case aF => exact (fun _ _ => trivial)); (case aO => exact (by exact rF HO_8.out)); (case aS => exact (below_size (by repeat (first | (with_reducible first | exact HB.out | apply bA | apply bN | apply bD | refine bS ?_ GE939.out | refine bS ?_ GE940.out) | exact HB.out)))); (case aL => have := LMc37.out; omega); intro v947 w41 ho hb hg hat; rw [← Ny946.out] at ho; have n0_ := Aside0.mk (blk_grown (g := gb939) (o := .cells #[.slice A1_0 l1_0.length c1_0, .slice (some ad944) l1_1.length c1_1] 59 (0, 0)) (by exact bF BK939.out) hg (Kd.R_ne HO_8.out BK939.out (by decide))); have n1_ := Aside0.mk (blk_grown (g := gb940) (o := .cells #[.int .u64 a2_0, .int .u64 a2_1, .slice A2_2 l2_2.length c2_2, .int .u64 a2_3, .int .u64 a2_4] 61 (0, 0)) (by exact bF BK940.out) hg (Kd.R_ne HO_8.out BK940.out (by decide))); have n2_ := Aside0.mk (hb); have n3_ := Aside0.mk (ho); clear BK939; clear BK940; clear HB; clear HO_8; have BK939 := n0_; have BK940 := n1_; have HB := n2_; have HO948 := n3_; clear n0_ n1_ n2_ n3_; clear ho hb hg hat))
              repeat (go_quiet (first | ((with_reducible refine gate_builtin (b := .append) (xs := #[.tmp 63, .tmp 68]) rfl ?_); (try (refine gate_guard (by rfl) ?_; dsimp only)); at_builtin; refine Kd.R_append k28 (w0 := w) w.heap.size rfl (.tmp 63) (.tmp 68) 53 28 (.agg #[(.int .u64 0), (.int .u64 0)]) 16 rfl Try.underlying53 info28 rfl (by decide) (by omega) (.slice Ao40 x8_2.length co40) x8_2 (⟨0, IntKind.u64.wrap (Int.tmod x10_2 2)⟩ : S28) [.int .u64 0, .int .u64 (IntKind.u64.wrap (Int.tmod x10_2 2))] (fun _ => True) (fun _ => False) rfl rfl ?aP (fun _ hk => hk.elim) ?aF ?aO ?aB ?aS ?aL ?_; (case aP => exact k28_mkM _ _ _ (⟨0, IntKind.u64.wrap (Int.tmod x10_2 2)⟩ : S28)); (case aB => exact (by repeat (first | (with_reducible first | exact HB.out | apply bA | apply bN | apply bD | refine bS ?_ GE939.out | refine bS ?_ GE940.out) | exact HB.out))); (case aF => exact (fun _ _ => trivial)); (case aO => exact (by exact rF HO_8.out)); (case aS => exact (below_size (by repeat (first | (with_reducible first | exact HB.out | apply bA | apply bN | apply bD | refine bS ?_ GE939.out | refine bS ?_ GE940.out) | exact HB.out)))); (case aL => have := LMc37.out; omega); intro v947 w41 ho hb hg hat; rw [← Ny946.out] at ho; have n0_ := Aside0.mk (blk_grown (g := gb939) (o := .cells #[.slice A1_0 l1_0.length c1_0, .slice (some ad944) l1_1.length c1_1] 59 (0, 0)) (by exact bF BK939.out) hg (Kd.R_ne HO_8.out BK939.out (by decide))); have n1_ := Aside0.mk (blk_grown (g := gb940) (o := .cells #[.int .u64 a2_0, .int .u64 a2_1, .slice A2_2 l2_2.length c2_2, .int .u64 a2_3, .int .u64 a2_4] 61 (0, 0)) (by exact bF BK940.out) hg (Kd.R_ne HO_8.out BK940.out (by decide))); have n2_ := Aside0.mk (hb); have n3_ := Aside0.mk (ho); clear BK939; clear BK940; clear HB; clear HO_8; have BK939 := n0_; have BK940 := n1_; have HB := n2_; have HO948 := n3_; clear n0_ n1_ n2_ n3_; clear ho hb hg hat)); try go_wp2_with (first | ((with_reducible refine gate_builtin (b := .append) (xs := #[.tmp 63, .tmp 68]) rfl ?_); (try (refine gate_guard (by rfl) ?_; dsimp only)); at_builtin; refine Kd.R_append k28 (w0 := w) w.heap.size rfl (.tmp 63) (.tmp 68) 53 28 (.agg #[(.int .u64 0), (.int .u64 0)]) 16 rfl Try.underlying53 info28 rfl (by decide) (by omega) (.slice Ao40 x8_2.length co40) x8_2 (⟨0, IntKind.u64.wrap (Int.tmod x10_2 2)⟩ : S28) [.int .u64 0, .int .u64 (IntKind.u64.wrap (Int.tmod x10_2 2))] (fun _ => True) (fun _ => False) rfl rfl ?aP (fun _ hk => hk.elim) ?aF ?aO ?aB ?aS ?aL ?_; (case aP => exact k28_mkM _ _ _ (⟨0, IntKind.u64.wrap (Int.tmod x10_2 2)⟩ : S28)); (case aB => exact (by repeat (first | (with_reducible first | exact HB.out | apply bA | apply bN | apply bD | refine bS ?_ GE939.out | refine bS ?_ GE940.out) | exact HB.out))); (case aF => exact (fun _ _ => trivial)); (case aO => exact (by exact rF HO_8.out)); (case aS => exact (below_size (by repeat (first | (with_reducible first | exact HB.out | apply bA | apply bN | apply bD | refine bS ?_ GE939.out | refine bS ?_ GE940.out) | exact HB.out)))); (case aL => have := LMc37.out; omega); intro v947 w41 ho hb hg hat; rw [← Ny946.out] at ho; have n0_ := Aside0.mk (blk_grown (g := gb939) (o := .cells #[.slice A1_0 l1_0.length c1_0, .slice (some ad944) l1_1.length c1_1] 59 (0, 0)) (by exact bF BK939.out) hg (Kd.R_ne HO_8.out BK939.out (by decide))); have n1_ := Aside0.mk (blk_grown (g := gb940) (o := .cells #[.int .u64 a2_0, .int .u64 a2_1, .slice A2_2 l2_2.length c2_2, .int .u64 a2_3, .int .u64 a2_4] 61 (0, 0)) (by exact bF BK940.out) hg (Kd.R_ne HO_8.out BK940.out (by decide))); have n2_ := Aside0.mk (hb); have n3_ := Aside0.mk (ho); clear BK939; clear BK940; clear HB; clear HO_8; have BK939 := n0_; have BK940 := n1_; have HB := n2_; have HO948 := n3_; clear n0_ n1_ n2_ n3_; clear ho hb hg hat)))
              go_roundg k2
              case measure => have := HJ3.out; have := HK2.out; omega
              case rel => exact ⟨(y946), (wrap64 (Int.tdiv x10_2 2)), (by first | rfl | (simp; done) | (simp [*]; done)), H', ⟨by have := HJ3.out; have := HK2.out; omega⟩, ⟨by exact rF HO948.out⟩, ⟨by exact bF BK939.out⟩, ⟨by exact bF BK940.out⟩, ⟨by repeat (first | (with_reducible first | exact HB.out | apply bA | apply bN | apply bD | refine bS ?_ GE939.out | refine bS ?_ GE940.out) | exact HB.out)⟩⟩
             ·rw [if_neg c37] at H
              exact absurd H (by simp)
            ·rw [if_neg c36] at H
             have c36b0 : decide ((x8_2.length : Int) < 5) = false := decide_eq_false c36
             have c36b1 : decide (x8_2.length < 5) = false := decide_eq_false (by omega)
             clear c36
             have H' := Aside0.mk H
             clear H
             have hnb42 := NB939_940.out
             have hnc42 := NB940_939.out
             have hcz43_0 : wr.cell? ⟨gb939, 0, none⟩ = some (.slice A1_0 l1_0.length c1_0) := (blk_cell BK939.out 0).trans rfl
             have hcz43_1 : wr.cell? ⟨gb939, 1, none⟩ = some (.slice (some ad944) l1_1.length c1_1) := (blk_cell BK939.out 1).trans rfl
             have hfz43_0 := blk_frozen BK939.out 0
             have hfz43_1 := blk_frozen BK939.out 1
             have p945 : 0 ≤ (0 : Int) := (by omega)
             have q945 : 0 < (l1_1.length : Int) := of_decide_eq_true (by first | (with_reducible assumption) | assumption)
             obtain ⟨ad945, A945_0, c945_0, e945, hx945_0, hl945_0, hi945_0⟩ := at_L11 HR1_1.out 0 p945 q945
             obtain rfl : ad944 = ad945 := (by injection e945)
             have qi945 : (0 < l1_1.length) = True := eq_true (by omega)
             (try rw [show ((0 : Int)).toNat = 0 from rfl] at hx945_0)
             (try rw [Addr.add_zero'] at hx945_0)
             replace hx945_0 := (HB.out.cell (World.block_lt_of_cell? w _ hx945_0)).trans hx945_0
             have HR945_0 := Aside0.mk hi945_0
             have HC945_0 := Aside0.mk hl945_0
             clear hi945_0 hl945_0
             replace p945 := eq_true p945
             replace q945 := eq_true q945
             obtain ⟨Ao44, co44, eo44⟩ := Kd.R_slice HO_8.out
             subst eo44
             go_wp2
             repeat (go_quiet (fail); try go_wp2)
             go_meet
             case rel => exact ⟨_, (x8_2), H', ⟨by have := HJ3.out; have := HK2.out; first | omega | exact Nat.le_refl _⟩, ⟨by (with_reducible repeat (first | apply Kd.R_alloc | apply Kd.R_drewN | apply Kd.R_drew)); exact Kd.R_mono HO_8.out (fun _ hk => (by simp [Value.ownBlock]))⟩, ⟨by first | exact Kd.R_nil _ _ _ _ _ | exact Kd.N_nil _ _ _ _ _ | exact Kd.V_nil _ _ _ _ _ | exact Kd.Q_nil _ _ _ _ _ | exact Kd.S_nil _ _ _ _ _⟩, ⟨by exact bF BK939.out⟩, ⟨by exact bF BK940.out⟩, ⟨by repeat (first | (with_reducible first | exact HB.out | apply bA | apply bN | apply bD | refine bS ?_ GE939.out | refine bS ?_ GE940.out) | exact HB.out)⟩⟩
           ·rw [if_neg c35] at H
            have c35b0 : decide ((ji34) < ((rd_L11 l1_1 0).length : Int)) = false := decide_eq_false c35
            clear c35
            have H' := Aside0.mk H
            clear H
            have hnb45 := NB939_940.out
            have hnc45 := NB940_939.out
            have hcz46_0 : wr.cell? ⟨gb939, 0, none⟩ = some (.slice A1_0 l1_0.length c1_0) := (blk_cell BK939.out 0).trans rfl
            have hcz46_1 : wr.cell? ⟨gb939, 1, none⟩ = some (.slice (some ad944) l1_1.length c1_1) := (blk_cell BK939.out 1).trans rfl
            have hfz46_0 := blk_frozen BK939.out 0
            have hfz46_1 := blk_frozen BK939.out 1
            have p945 : 0 ≤ (0 : Int) := (by omega)
            have q945 : 0 < (l1_1.length : Int) := of_decide_eq_true (by first | (with_reducible assumption) | assumption)
            obtain ⟨ad945, A945_0, c945_0, e945, hx945_0, hl945_0, hi945_0⟩ := at_L11 HR1_1.out 0 p945 q945
            obtain rfl : ad944 = ad945 := (by injection e945)
            have qi945 : (0 < l1_1.length) = True := eq_true (by omega)
            (try rw [show ((0 : Int)).toNat = 0 from rfl] at hx945_0)
            (try rw [Addr.add_zero'] at hx945_0)
            replace hx945_0 := (HB.out.cell (World.block_lt_of_cell? w _ hx945_0)).trans hx945_0
            have HR945_0 := Aside0.mk hi945_0
            have HC945_0 := Aside0.mk hl945_0
            clear hi945_0 hl945_0
            replace p945 := eq_true p945
            replace q945 := eq_true q945
            obtain ⟨Ao47, co47, eo47⟩ := Kd.R_slice HO_8.out
            subst eo47
            go_wp2
            repeat (go_quiet (fail); try go_wp2)
            go_meet
            case rel => exact ⟨_, (x8_2), H', ⟨by have := HJ3.out; have := HK2.out; first | omega | exact Nat.le_refl _⟩, ⟨by (with_reducible repeat (first | apply Kd.R_alloc | apply Kd.R_drewN | apply Kd.R_drew)); exact Kd.R_mono HO_8.out (fun _ hk => (by simp [Value.ownBlock]))⟩, ⟨by first | exact Kd.R_nil _ _ _ _ _ | exact Kd.N_nil _ _ _ _ _ | exact Kd.V_nil _ _ _ _ _ | exact Kd.Q_nil _ _ _ _ _ | exact Kd.S_nil _ _ _ _ _⟩, ⟨by exact bF BK939.out⟩, ⟨by exact bF BK940.out⟩, ⟨by repeat (first | (with_reducible first | exact HB.out | apply bA | apply bN | apply bD | refine bS ?_ GE939.out | refine bS ?_ GE940.out) | exact HB.out)⟩⟩
          ·rw [if_neg c33] at H
           exact absurd H (by simp)
         ·rw [if_neg c31] at H
          exact absurd H (by simp)
      case rest =>
       clear HC27
       try clear c1
       try clear c2
       try clear p2
       try clear c3
       try clear c4
       try clear p6
       try clear c8
       try clear c9
       try clear c9b0
       try clear c9b1
       try clear c9b2
       try clear p9
       try clear q9
       try clear hx9
       try clear qi9
       try clear c10
       try clear c14
       try clear c14b0
       try clear c14b1
       try clear c15
       try clear c19
       try clear c22
       try clear c25
       try clear c25b0
       try clear c25b1
       try clear c26
       try clear c26b0
       try clear c26b1
       try clear c28
       try clear c31
       try clear c31b0
       try clear c31b1
       try clear c33
       try clear c33b0
       try clear c33b1
       try clear c35
       try clear c35b0
       try clear c36
       try clear c36b0
       try clear c36b1
       try clear c37
       try clear c38
       try clear c42
       try clear c45
       try clear hcz11_0
       try clear hcz11_1
       try clear hcz13_0
       try clear hcz13_1
       try clear hcz16_0
       try clear hcz16_1
       try clear hcz18_0
       try clear hcz18_1
       try clear hcz20_0
       try clear hcz20_1
       try clear hcz29_0
       try clear hcz29_1
       try clear hcz29_2
       try clear hcz29_3
       try clear hcz29_4
       try clear hcz30_0
       try clear hcz30_1
       try clear hcz39_0
       try clear hcz39_1
       try clear hcz43_0
       try clear hcz43_1
       try clear hcz46_0
       try clear hcz46_1
       try clear hfz11_0
       try clear hfz11_1
       try clear hfz13_0
       try clear hfz13_1
       try clear hfz16_0
       try clear hfz16_1
       try clear hfz18_0
       try clear hfz18_1
       try clear hfz20_0
       try clear hfz20_1
       try clear hfz29_0
       try clear hfz29_1
       try clear hfz29_2
       try clear hfz29_3
       try clear hfz29_4
       try clear hfz30_0
       try clear hfz30_1
       try clear hfz39_0
       try clear hfz39_1
       try clear hfz43_0
       try clear hfz43_1
       try clear hfz46_0
       try clear hfz46_1
       try clear hx942_0
       try clear hx944_0
       try clear hx945_0
       try clear p2
       try clear p6
       try clear p9
       try clear p942
       try clear p944
       try clear p945
       try clear q9
       try clear q942
       try clear q944
       try clear q945
       obtain ⟨kq, x8_26, HA, HJ26, HO_8, HO_9, BK939, BK940, HB⟩ := hcut
       cases kq with
       | zero => exact absurd HA.out (by simp [steeplelaw21_ZeroCorners.j2])
       | succ kj26 =>
        have H := HA.out
        clear HA
        simp only [steeplelaw21_ZeroCorners.j2] at H
        replace H := Option.bind_eq_some_iff.mp H
        obtain ⟨⟨t949, t950, t951⟩, A480, H⟩ := H
        replace H : (if t951 = 0 then (steeplelaw21_ZeroCorners.l1 kj26 a0 (wrap64 (Int.tmod a2_4 (IntKind.u64.wrap (((rd_L11 l1_1 0).length : Int))))) ([] : List (S28)) 0 l1_0 l1_1 a2_0 a2_1 l2_2 a2_3 a2_4 t949 t950) else ((steeplelaw21_awake.f kj26).bind fun t953 => (some t953))) = some r := H
        have A48 := Aside0.mk A480
        clear A480
        by_cases c49 : t951 = 0
        ·rw [if_pos c49] at H
         have c49b0 : (t951 == 0) = true := beq_iff_eq.mpr c49
         have c49b1 : (t951 != 0) = false := bne_eq_false_iff_eq.mpr c49
         clear c49
         have H' := Aside0.mk H
         clear H
         have hnb50 := NB939_940.out
         have hnc50 := NB940_939.out
         have hcz51_0 : wc.cell? ⟨gb939, 0, none⟩ = some (.slice A1_0 l1_0.length c1_0) := (blk_cell BK939.out 0).trans rfl
         have hcz51_1 : wc.cell? ⟨gb939, 1, none⟩ = some (.slice (some ad944) l1_1.length c1_1) := (blk_cell BK939.out 1).trans rfl
         have hfz51_0 := blk_frozen BK939.out 0
         have hfz51_1 := blk_frozen BK939.out 1
         have hcz52_0 : wc.cell? ⟨gb940, 0, none⟩ = some (.int .u64 a2_0) := (blk_cell BK940.out 0).trans rfl
         have hcz52_1 : wc.cell? ⟨gb940, 1, none⟩ = some (.int .u64 a2_1) := (blk_cell BK940.out 1).trans rfl
         have hcz52_2 : wc.cell? ⟨gb940, 2, none⟩ = some (.slice A2_2 l2_2.length c2_2) := (blk_cell BK940.out 2).trans rfl
         have hcz52_3 : wc.cell? ⟨gb940, 3, none⟩ = some (.int .u64 a2_3) := (blk_cell BK940.out 3).trans rfl
         have hcz52_4 : wc.cell? ⟨gb940, 4, none⟩ = some (.int .u64 a2_4) := (blk_cell BK940.out 4).trans rfl
         have hfz52_0 := blk_frozen BK940.out 0
         have hfz52_1 := blk_frozen BK940.out 1
         have hfz52_2 := blk_frozen BK940.out 2
         have hfz52_3 := blk_frozen BK940.out 3
         have hfz52_4 := blk_frozen BK940.out 4
         obtain ⟨Ao53, co53, eo53⟩ := Kd.R_slice HO_8.out
         subst eo53
         go_wp2_with (first | (go_at_call 33; (with_reducible refine (zero_Sum.calls kj26 a0 _ _ l1_0 _ _ l1_1 a2_0 a2_1 _ _ x8_26 t949 t950 t951 _ ?side1 ?side2 ?side3 ?side4 ?side5 ?side6 A48.out).mono ?_); (case side1 => repeat (first | exact (Kd.C_below HR1_0.out HB.out) | (with_reducible refine Kd.C_alloc ?_ _) | (with_reducible refine Kd.C_drewN ?_ _) | (with_reducible refine Kd.C_drew ?_))); (case side2 => exact HC1_0.out); (case side3 => repeat (first | exact (Kd.C_below HR1_1.out HB.out) | (with_reducible refine Kd.C_alloc ?_ _) | (with_reducible refine Kd.C_drewN ?_ _) | (with_reducible refine Kd.C_drew ?_))); (case side4 => exact HC1_1.out); (case side5 => repeat (first | exact (Kd.R_reads' HO_8.out).2.2 | (with_reducible refine Kd.C_alloc ?_ _) | (with_reducible refine Kd.C_drewN ?_ _) | (with_reducible refine Kd.C_drew ?_))); (case side6 => exact (Kd.R_reads' HO_8.out).2.1); rintro e w54 ⟨rfl, hb⟩; have n0_ := Aside0.mk (Kd.R_below (by exact rF HO_8.out) hb); have n1_ := Aside0.mk (Kd.R_below (by exact rF HO_9.out) hb); have n2_ := Aside0.mk (blk_below (g := gb939) (o := .cells #[.slice A1_0 l1_0.length c1_0, .slice (some ad944) l1_1.length c1_1] 59 (0, 0)) (by exact bF BK939.out) hb); have n3_ := Aside0.mk (blk_below (g := gb940) (o := .cells #[.int .u64 a2_0, .int .u64 a2_1, .slice A2_2 l2_2.length c2_2, .int .u64 a2_3, .int .u64 a2_4] 61 (0, 0)) (by exact bF BK940.out) hb); have n4_ := Aside0.mk (below_step (by repeat (first | (with_reducible first | exact HB.out | apply bA | apply bN | apply bD | refine bS ?_ GE939.out | refine bS ?_ GE940.out) | exact HB.out)) hb); clear HO_8; clear HO_9; clear BK939; clear BK940; clear HB; have HO_8 := n0_; have HO_9 := n1_; have BK939 := n2_; have BK940 := n3_; have HB := n4_; clear n0_ n1_ n2_ n3_ n4_; (try clear hb); (try clear hb2); (try clear hk); (try clear hi)) | ((with_reducible refine gate_dst (N := 11) rfl ?_); (try (refine gate_guard (by rfl) ?_; dsimp only)); refine box_event ?hg (N := 11) ?hd (cs := #[.int .u64 0, .int .u64 0]) (t := 28) ?hr ?_; (case hd => rfl); (case hg => rfl); (case hr => first | (go_simp; done) | (go_simp; rfl)); intro gb952 hg w55 hbox hb; have n0_ := Aside0.mk (Kd.R_below (Kd.R_elderB (by exact rF HO_8.out) gb952 (Nat.le_of_eq hg.symm)) hb); have n1_ := Aside0.mk (Kd.R_below (Kd.R_elderB (by exact rF HO_9.out) gb952 (Nat.le_of_eq hg.symm)) hb); have n2_ := Aside0.mk (blk_below (g := gb939) (o := .cells #[.slice A1_0 l1_0.length c1_0, .slice (some ad944) l1_1.length c1_1] 59 (0, 0)) (by exact bF BK939.out) hb); have n3_ := Aside0.mk (blk_below (g := gb940) (o := .cells #[.int .u64 a2_0, .int .u64 a2_1, .slice A2_2 l2_2.length c2_2, .int .u64 a2_3, .int .u64 a2_4] 61 (0, 0)) (by exact bF BK940.out) hb); have n4_ := Aside0.mk (below_step (by repeat (first | (with_reducible first | exact HB.out | apply bA | apply bN | apply bD | refine bS ?_ GE939.out | refine bS ?_ GE940.out) | exact HB.out)) hb); have n5_ := Aside0.mk (hbox); have n6_ := Aside0.mk ((by rw [hg]; exact (below_size (by repeat (first | (with_reducible first | exact HB.out | apply bA | apply bN | apply bD | refine bS ?_ GE939.out | refine bS ?_ GE940.out) | exact HB.out))) : w.heap.size ≤ gb952)); have n7_ := Aside0.mk ((by rw [hg]; exact (below_size (by repeat (first | (with_reducible first | exact HB.out | apply bA | apply bN | apply bD | refine bS ?_ GE939.out | refine bS ?_ GE940.out) | exact HB.out))) : w.heap.size ≤ gb952)); have n8_ := Aside0.mk ((by rw [hg]; exact Nat.ne_of_lt (blk_lt (g := gb939) (o := .cells #[.slice A1_0 l1_0.length c1_0, .slice (some ad944) l1_1.length c1_1] 59 (0, 0)) (by exact bF BK939.out)) : gb939 ≠ gb952)); have n9_ := Aside0.mk ((by rw [hg]; exact Nat.ne_of_gt (blk_lt (g := gb939) (o := .cells #[.slice A1_0 l1_0.length c1_0, .slice (some ad944) l1_1.length c1_1] 59 (0, 0)) (by exact bF BK939.out)) : gb952 ≠ gb939)); have n10_ := Aside0.mk ((by rw [hg]; exact Nat.ne_of_lt (blk_lt (g := gb940) (o := .cells #[.int .u64 a2_0, .int .u64 a2_1, .slice A2_2 l2_2.length c2_2, .int .u64 a2_3, .int .u64 a2_4] 61 (0, 0)) (by exact bF BK940.out)) : gb940 ≠ gb952)); have n11_ := Aside0.mk ((by rw [hg]; exact Nat.ne_of_gt (blk_lt (g := gb940) (o := .cells #[.int .u64 a2_0, .int .u64 a2_1, .slice A2_2 l2_2.length c2_2, .int .u64 a2_3, .int .u64 a2_4] 61 (0, 0)) (by exact bF BK940.out)) : gb952 ≠ gb940)); clear HO_8; clear HO_9; clear BK939; clear BK940; clear HB; have HO_8 := n0_; have HO_9 := n1_; have BK939 := n2_; have BK940 := n3_; have HB := n4_; have BK952 := n5_; have GW952 := n6_; have GE952 := n7_; have NB939_952 := n8_; have NB952_939 := n9_; have NB940_952 := n10_; have NB952_940 := n11_; clear n0_ n1_ n2_ n3_ n4_ n5_ n6_ n7_ n8_ n9_ n10_ n11_; clear hb hbox hg; have hnb56 := NB952_939.out; have hnc56 := NB939_952.out; have hnb57 := NB952_940.out; have hnc57 := NB940_952.out; have hcz58_0 : w55.cell? ⟨gb952, 0, none⟩ = some (.int .u64 0) := (blk_cell BK952.out 0).trans rfl; have hcz58_1 : w55.cell? ⟨gb952, 1, none⟩ = some (.int .u64 0) := (blk_cell BK952.out 1).trans rfl; have hfz58_0 := blk_frozen BK952.out 0; have hfz58_1 := blk_frozen BK952.out 1))
         repeat (go_quiet (first | (go_at_call 33; (with_reducible refine (zero_Sum.calls kj26 a0 _ _ l1_0 _ _ l1_1 a2_0 a2_1 _ _ x8_26 t949 t950 t951 _ ?side1 ?side2 ?side3 ?side4 ?side5 ?side6 A48.out).mono ?_); (case side1 => repeat (first | exact (Kd.C_below HR1_0.out HB.out) | (with_reducible refine Kd.C_alloc ?_ _) | (with_reducible refine Kd.C_drewN ?_ _) | (with_reducible refine Kd.C_drew ?_))); (case side2 => exact HC1_0.out); (case side3 => repeat (first | exact (Kd.C_below HR1_1.out HB.out) | (with_reducible refine Kd.C_alloc ?_ _) | (with_reducible refine Kd.C_drewN ?_ _) | (with_reducible refine Kd.C_drew ?_))); (case side4 => exact HC1_1.out); (case side5 => repeat (first | exact (Kd.R_reads' HO_8.out).2.2 | (with_reducible refine Kd.C_alloc ?_ _) | (with_reducible refine Kd.C_drewN ?_ _) | (with_reducible refine Kd.C_drew ?_))); (case side6 => exact (Kd.R_reads' HO_8.out).2.1); rintro e w54 ⟨rfl, hb⟩; have n0_ := Aside0.mk (Kd.R_below (by exact rF HO_8.out) hb); have n1_ := Aside0.mk (Kd.R_below (by exact rF HO_9.out) hb); have n2_ := Aside0.mk (blk_below (g := gb939) (o := .cells #[.slice A1_0 l1_0.length c1_0, .slice (some ad944) l1_1.length c1_1] 59 (0, 0)) (by exact bF BK939.out) hb); have n3_ := Aside0.mk (blk_below (g := gb940) (o := .cells #[.int .u64 a2_0, .int .u64 a2_1, .slice A2_2 l2_2.length c2_2, .int .u64 a2_3, .int .u64 a2_4] 61 (0, 0)) (by exact bF BK940.out) hb); have n4_ := Aside0.mk (below_step (by repeat (first | (with_reducible first | exact HB.out | apply bA | apply bN | apply bD | refine bS ?_ GE939.out | refine bS ?_ GE940.out) | exact HB.out)) hb); clear HO_8; clear HO_9; clear BK939; clear BK940; clear HB; have HO_8 := n0_; have HO_9 := n1_; have BK939 := n2_; have BK940 := n3_; have HB := n4_; clear n0_ n1_ n2_ n3_ n4_; (try clear hb); (try clear hb2); (try clear hk); (try clear hi)) | ((with_reducible refine gate_dst (N := 11) rfl ?_); (try (refine gate_guard (by rfl) ?_; dsimp only)); refine box_event ?hg (N := 11) ?hd (cs := #[.int .u64 0, .int .u64 0]) (t := 28) ?hr ?_; (case hd => rfl); (case hg => rfl); (case hr => first | (go_simp; done) | (go_simp; rfl)); intro gb952 hg w55 hbox hb; have n0_ := Aside0.mk (Kd.R_below (Kd.R_elderB (by exact rF HO_8.out) gb952 (Nat.le_of_eq hg.symm)) hb); have n1_ := Aside0.mk (Kd.R_below (Kd.R_elderB (by exact rF HO_9.out) gb952 (Nat.le_of_eq hg.symm)) hb); have n2_ := Aside0.mk (blk_below (g := gb939) (o := .cells #[.slice A1_0 l1_0.length c1_0, .slice (some ad944) l1_1.length c1_1] 59 (0, 0)) (by exact bF BK939.out) hb); have n3_ := Aside0.mk (blk_below (g := gb940) (o := .cells #[.int .u64 a2_0, .int .u64 a2_1, .slice A2_2 l2_2.length c2_2, .int .u64 a2_3, .int .u64 a2_4] 61 (0, 0)) (by exact bF BK940.out) hb); have n4_ := Aside0.mk (below_step (by repeat (first | (with_reducible first | exact HB.out | apply bA | apply bN | apply bD | refine bS ?_ GE939.out | refine bS ?_ GE940.out) | exact HB.out)) hb); have n5_ := Aside0.mk (hbox); have n6_ := Aside0.mk ((by rw [hg]; exact (below_size (by repeat (first | (with_reducible first | exact HB.out | apply bA | apply bN | apply bD | refine bS ?_ GE939.out | refine bS ?_ GE940.out) | exact HB.out))) : w.heap.size ≤ gb952)); have n7_ := Aside0.mk ((by rw [hg]; exact (below_size (by repeat (first | (with_reducible first | exact HB.out | apply bA | apply bN | apply bD | refine bS ?_ GE939.out | refine bS ?_ GE940.out) | exact HB.out))) : w.heap.size ≤ gb952)); have n8_ := Aside0.mk ((by rw [hg]; exact Nat.ne_of_lt (blk_lt (g := gb939) (o := .cells #[.slice A1_0 l1_0.length c1_0, .slice (some ad944) l1_1.length c1_1] 59 (0, 0)) (by exact bF BK939.out)) : gb939 ≠ gb952)); have n9_ := Aside0.mk ((by rw [hg]; exact Nat.ne_of_gt (blk_lt (g := gb939) (o := .cells #[.slice A1_0 l1_0.length c1_0, .slice (some ad944) l1_1.length c1_1] 59 (0, 0)) (by exact bF BK939.out)) : gb952 ≠ gb939)); have n10_ := Aside0.mk ((by rw [hg]; exact Nat.ne_of_lt (blk_lt (g := gb940) (o := .cells #[.int .u64 a2_0, .int .u64 a2_1, .slice A2_2 l2_2.length c2_2, .int .u64 a2_3, .int .u64 a2_4] 61 (0, 0)) (by exact bF BK940.out)) : gb940 ≠ gb952)); have n11_ := Aside0.mk ((by rw [hg]; exact Nat.ne_of_gt (blk_lt (g := gb940) (o := .cells #[.int .u64 a2_0, .int .u64 a2_1, .slice A2_2 l2_2.length c2_2, .int .u64 a2_3, .int .u64 a2_4] 61 (0, 0)) (by exact bF BK940.out)) : gb952 ≠ gb940)); clear HO_8; clear HO_9; clear BK939; clear BK940; clear HB; have HO_8 := n0_; have HO_9 := n1_; have BK939 := n2_; have BK940 := n3_; have HB := n4_; have BK952 := n5_; have GW952 := n6_; have GE952 := n7_; have NB939_952 := n8_; have NB952_939 := n9_; have NB940_952 := n10_; have NB952_940 := n11_; clear n0_ n1_ n2_ n3_ n4_ n5_ n6_ n7_ n8_ n9_ n10_ n11_; clear hb hbox hg; have hnb56 := NB952_939.out; have hnc56 := NB939_952.out; have hnb57 := NB952_940.out; have hnc57 := NB940_952.out; have hcz58_0 : w55.cell? ⟨gb952, 0, none⟩ = some (.int .u64 0) := (blk_cell BK952.out 0).trans rfl; have hcz58_1 : w55.cell? ⟨gb952, 1, none⟩ = some (.int .u64 0) := (blk_cell BK952.out 1).trans rfl; have hfz58_0 := blk_frozen BK952.out 0; have hfz58_1 := blk_frozen BK952.out 1)); try go_wp2_with (first | (go_at_call 33; (with_reducible refine (zero_Sum.calls kj26 a0 _ _ l1_0 _ _ l1_1 a2_0 a2_1 _ _ x8_26 t949 t950 t951 _ ?side1 ?side2 ?side3 ?side4 ?side5 ?side6 A48.out).mono ?_); (case side1 => repeat (first | exact (Kd.C_below HR1_0.out HB.out) | (with_reducible refine Kd.C_alloc ?_ _) | (with_reducible refine Kd.C_drewN ?_ _) | (with_reducible refine Kd.C_drew ?_))); (case side2 => exact HC1_0.out); (case side3 => repeat (first | exact (Kd.C_below HR1_1.out HB.out) | (with_reducible refine Kd.C_alloc ?_ _) | (with_reducible refine Kd.C_drewN ?_ _) | (with_reducible refine Kd.C_drew ?_))); (case side4 => exact HC1_1.out); (case side5 => repeat (first | exact (Kd.R_reads' HO_8.out).2.2 | (with_reducible refine Kd.C_alloc ?_ _) | (with_reducible refine Kd.C_drewN ?_ _) | (with_reducible refine Kd.C_drew ?_))); (case side6 => exact (Kd.R_reads' HO_8.out).2.1); rintro e w54 ⟨rfl, hb⟩; have n0_ := Aside0.mk (Kd.R_below (by exact rF HO_8.out) hb); have n1_ := Aside0.mk (Kd.R_below (by exact rF HO_9.out) hb); have n2_ := Aside0.mk (blk_below (g := gb939) (o := .cells #[.slice A1_0 l1_0.length c1_0, .slice (some ad944) l1_1.length c1_1] 59 (0, 0)) (by exact bF BK939.out) hb); have n3_ := Aside0.mk (blk_below (g := gb940) (o := .cells #[.int .u64 a2_0, .int .u64 a2_1, .slice A2_2 l2_2.length c2_2, .int .u64 a2_3, .int .u64 a2_4] 61 (0, 0)) (by exact bF BK940.out) hb); have n4_ := Aside0.mk (below_step (by repeat (first | (with_reducible first | exact HB.out | apply bA | apply bN | apply bD | refine bS ?_ GE939.out | refine bS ?_ GE940.out) | exact HB.out)) hb); clear HO_8; clear HO_9; clear BK939; clear BK940; clear HB; have HO_8 := n0_; have HO_9 := n1_; have BK939 := n2_; have BK940 := n3_; have HB := n4_; clear n0_ n1_ n2_ n3_ n4_; (try clear hb); (try clear hb2); (try clear hk); (try clear hi)) | ((with_reducible refine gate_dst (N := 11) rfl ?_); (try (refine gate_guard (by rfl) ?_; dsimp only)); refine box_event ?hg (N := 11) ?hd (cs := #[.int .u64 0, .int .u64 0]) (t := 28) ?hr ?_; (case hd => rfl); (case hg => rfl); (case hr => first | (go_simp; done) | (go_simp; rfl)); intro gb952 hg w55 hbox hb; have n0_ := Aside0.mk (Kd.R_below (Kd.R_elderB (by exact rF HO_8.out) gb952 (Nat.le_of_eq hg.symm)) hb); have n1_ := Aside0.mk (Kd.R_below (Kd.R_elderB (by exact rF HO_9.out) gb952 (Nat.le_of_eq hg.symm)) hb); have n2_ := Aside0.mk (blk_below (g := gb939) (o := .cells #[.slice A1_0 l1_0.length c1_0, .slice (some ad944) l1_1.length c1_1] 59 (0, 0)) (by exact bF BK939.out) hb); have n3_ := Aside0.mk (blk_below (g := gb940) (o := .cells #[.int .u64 a2_0, .int .u64 a2_1, .slice A2_2 l2_2.length c2_2, .int .u64 a2_3, .int .u64 a2_4] 61 (0, 0)) (by exact bF BK940.out) hb); have n4_ := Aside0.mk (below_step (by repeat (first | (with_reducible first | exact HB.out | apply bA | apply bN | apply bD | refine bS ?_ GE939.out | refine bS ?_ GE940.out) | exact HB.out)) hb); have n5_ := Aside0.mk (hbox); have n6_ := Aside0.mk ((by rw [hg]; exact (below_size (by repeat (first | (with_reducible first | exact HB.out | apply bA | apply bN | apply bD | refine bS ?_ GE939.out | refine bS ?_ GE940.out) | exact HB.out))) : w.heap.size ≤ gb952)); have n7_ := Aside0.mk ((by rw [hg]; exact (below_size (by repeat (first | (with_reducible first | exact HB.out | apply bA | apply bN | apply bD | refine bS ?_ GE939.out | refine bS ?_ GE940.out) | exact HB.out))) : w.heap.size ≤ gb952)); have n8_ := Aside0.mk ((by rw [hg]; exact Nat.ne_of_lt (blk_lt (g := gb939) (o := .cells #[.slice A1_0 l1_0.length c1_0, .slice (some ad944) l1_1.length c1_1] 59 (0, 0)) (by exact bF BK939.out)) : gb939 ≠ gb952)); have n9_ := Aside0.mk ((by rw [hg]; exact Nat.ne_of_gt (blk_lt (g := gb939) (o := .cells #[.slice A1_0 l1_0.length c1_0, .slice (some ad944) l1_1.length c1_1] 59 (0, 0)) (by exact bF BK939.out)) : gb952 ≠ gb939)); have n10_ := Aside0.mk ((by rw [hg]; exact Nat.ne_of_lt (blk_lt (g := gb940) (o := .cells #[.int .u64 a2_0, .int .u64 a2_1, .slice A2_2 l2_2.length c2_2, .int .u64 a2_3, .int .u64 a2_4] 61 (0, 0)) (by exact bF BK940.out)) : gb940 ≠ gb952)); have n11_ := Aside0.mk ((by rw [hg]; exact Nat.ne_of_gt (blk_lt (g := gb940) (o := .cells #[.int .u64 a2_0, .int .u64 a2_1, .slice A2_2 l2_2.length c2_2, .int .u64 a2_3, .int .u64 a2_4] 61 (0, 0)) (by exact bF BK940.out)) : gb952 ≠ gb940)); clear HO_8; clear HO_9; clear BK939; clear BK940; clear HB; have HO_8 := n0_; have HO_9 := n1_; have BK939 := n2_; have BK940 := n3_; have HB := n4_; have BK952 := n5_; have GW952 := n6_; have GE952 := n7_; have NB939_952 := n8_; have NB952_939 := n9_; have NB940_952 := n10_; have NB952_940 := n11_; clear n0_ n1_ n2_ n3_ n4_ n5_ n6_ n7_ n8_ n9_ n10_ n11_; clear hb hbox hg; have hnb56 := NB952_939.out; have hnc56 := NB939_952.out; have hnb57 := NB952_940.out; have hnc57 := NB940_952.out; have hcz58_0 : w55.cell? ⟨gb952, 0, none⟩ = some (.int .u64 0) := (blk_cell BK952.out 0).trans rfl; have hcz58_1 : w55.cell? ⟨gb952, 1, none⟩ = some (.int .u64 0) := (blk_cell BK952.out 1).trans rfl; have hfz58_0 := blk_frozen BK952.out 0; have hfz58_1 := blk_frozen BK952.out 1)))
         go_loopg [9, 13] kj26 (fun kq v9 v13 w' => ∃ (x9_3 : List (S28)) (x13_3 : Int), v13 = .int .i64 x13_3 ∧ Aside0 (steeplelaw21_ZeroCorners.l1 kq a0 (wrap64 (Int.tmod a2_4 (IntKind.u64.wrap (((rd_L11 l1_1 0).length : Int))))) x9_3 x13_3 l1_0 l1_1 a2_0 a2_1 l2_2 a2_3 a2_4 t949 t950 = some r) ∧ Aside0 (kq ≤ kj26) ∧ Aside0 (Kd.R k28 28 w' w.heap.size (fun k_ => k_ ≠ gb952) v9 x9_3) ∧ Aside0 (w'.heap[gb939]? = some (.cells #[(.slice A1_0 l1_0.length c1_0), (.slice (some ad944) l1_1.length c1_1)] 59 (0, 0))) ∧ Aside0 (w'.heap[gb940]? = some (.cells #[.int .u64 a2_0, .int .u64 a2_1, (.slice A2_2 l2_2.length c2_2), .int .u64 a2_3, .int .u64 a2_4] 61 (0, 0))) ∧ Aside0 (w'.heap[gb952]? = some (.cells #[.int .u64 t949, .int .u64 t950] 28 (0, 0))) ∧ Aside0 (Below w.heap.size w w'))
         case atStart => exact ⟨(([] : List (S28))), (0), (by first | rfl | (simp; done) | (simp [*]; done)), H', ⟨Nat.le_refl _⟩, ⟨by (with_reducible repeat (first | apply Kd.R_alloc | apply Kd.R_drewN | apply Kd.R_drew)); exact Kd.R_mono (Kd.R_far (p := ⟨gb952, 1, none⟩) (Kd.R_far (p := ⟨gb952, 0, none⟩) (Kd.R_mono HO_9.out (fun k_ hk => (⟨hk, hk.2⟩ : _ ∧ k_ ≠ gb952))) (fun _ hk => hk.2) (.int .u64 t949)) (fun _ hk => hk.2) (.int .u64 t950)) (fun _ hk => hk.1.2)⟩, ⟨by (with_reducible repeat (first | refine blk_drewN ?_ _ | refine blk_drew ?_ | refine blk_alloc ?_ _)); refine blk_far ?_ NB939_952.out _; (with_reducible repeat (first | refine blk_drewN ?_ _ | refine blk_drew ?_ | refine blk_alloc ?_ _)); refine blk_far ?_ NB939_952.out _; exact bF BK939.out⟩, ⟨by (with_reducible repeat (first | refine blk_drewN ?_ _ | refine blk_drew ?_ | refine blk_alloc ?_ _)); refine blk_far ?_ NB940_952.out _; (with_reducible repeat (first | refine blk_drewN ?_ _ | refine blk_drew ?_ | refine blk_alloc ?_ _)); refine blk_far ?_ NB940_952.out _; exact bF BK940.out⟩, ⟨by (with_reducible repeat (first | refine blk_drewN ?_ _ | refine blk_drew ?_ | refine blk_alloc ?_ _)); refine blk_put (cs := #[.int .u64 t949, .int .u64 0]) ?_ 1 _ rfl; (with_reducible repeat (first | refine blk_drewN ?_ _ | refine blk_drew ?_ | refine blk_alloc ?_ _)); refine blk_put (cs := #[.int .u64 0, .int .u64 0]) ?_ 0 _ rfl; exact bF BK952.out⟩, ⟨by repeat (first | (with_reducible first | exact HB.out | apply bA | apply bN | apply bD | refine bS ?_ GE939.out | refine bS ?_ GE940.out | refine bS ?_ GE952.out) | exact HB.out)⟩⟩
         case round =>
          clear H'
          try clear c1
          try clear c2
          try clear p2
          try clear c3
          try clear c4
          try clear c5
          try clear p6
          try clear c8
          try clear c9
          try clear c9b0
          try clear c9b1
          try clear c9b2
          try clear p9
          try clear q9
          try clear hx9
          try clear qi9
          try clear c10
          try clear c14
          try clear c14b0
          try clear c14b1
          try clear c15
          try clear c19
          try clear c22
          try clear c25
          try clear c25b0
          try clear c25b1
          try clear c26
          try clear c26b0
          try clear c26b1
          try clear c28
          try clear c31
          try clear c31b0
          try clear c31b1
          try clear c33
          try clear c33b0
          try clear c33b1
          try clear c35
          try clear c35b0
          try clear c36
          try clear c36b0
          try clear c36b1
          try clear c37
          try clear c38
          try clear c42
          try clear c45
          try clear c49
          try clear c49b0
          try clear c49b1
          try clear c50
          try clear c56
          try clear c57
          try clear hcz11_0
          try clear hcz11_1
          try clear hcz13_0
          try clear hcz13_1
          try clear hcz16_0
          try clear hcz16_1
          try clear hcz18_0
          try clear hcz18_1
          try clear hcz20_0
          try clear hcz20_1
          try clear hcz29_0
          try clear hcz29_1
          try clear hcz29_2
          try clear hcz29_3
          try clear hcz29_4
          try clear hcz30_0
          try clear hcz30_1
          try clear hcz39_0
          try clear hcz39_1
          try clear hcz43_0
          try clear hcz43_1
          try clear hcz46_0
          try clear hcz46_1
          try clear hcz51_0
          try clear hcz51_1
          try clear hcz52_0
          try clear hcz52_1
          try clear hcz52_2
          try clear hcz52_3
          try clear hcz52_4
          try clear hcz58_0
          try clear hcz58_1
          try clear hfz11_0
          try clear hfz11_1
          try clear hfz13_0
          try clear hfz13_1
          try clear hfz16_0
          try clear hfz16_1
          try clear hfz18_0
          try clear hfz18_1
          try clear hfz20_0
          try clear hfz20_1
          try clear hfz29_0
          try clear hfz29_1
          try clear hfz29_2
          try clear hfz29_3
          try clear hfz29_4
          try clear hfz30_0
          try clear hfz30_1
          try clear hfz39_0
          try clear hfz39_1
          try clear hfz43_0
          try clear hfz43_1
          try clear hfz46_0
          try clear hfz46_1
          try clear hfz51_0
          try clear hfz51_1
          try clear hfz52_0
          try clear hfz52_1
          try clear hfz52_2
          try clear hfz52_3
          try clear hfz52_4
          try clear hfz58_0
          try clear hfz58_1
          try clear hx942_0
          try clear hx944_0
          try clear hx945_0
          try clear p2
          try clear p6
          try clear p9
          try clear p942
          try clear p944
          try clear p945
          try clear q9
          try clear q942
          try clear q944
          try clear q945
          obtain ⟨x9_3, x13_3, rfl, HA, HK3, HO_9, BK939, BK940, BK952, HB⟩ := hrel
          cases gk with
          | zero => exact absurd HA.out (by simp [steeplelaw21_ZeroCorners.l1])
          | succ k3 =>
           have H := HA.out
           clear HA
           simp only [steeplelaw21_ZeroCorners.l1] at H
           by_cases c59 : x13_3 < (l1_1.length : Int)
           ·rw [if_pos c59] at H
            have c59b0 : decide (x13_3 < (l1_1.length : Int)) = true := decide_eq_true c59
            clear c59
            by_cases c60 : 0 ≤ x13_3
            ·rw [if_pos c60] at H
             have c60b0 : decide (0 ≤ x13_3) = true := decide_eq_true c60
             clear c60
             obtain ⟨ji61, hji61⟩ : ∃ j_ : Int, (wrap64 (Int.tmod a2_4 (IntKind.u64.wrap (((rd_L11 l1_1 0).length : Int))))) = j_ := ⟨_, rfl⟩
             replace H : (if 0 ≤ (ji61) then (if (ji61) < ((rd_L11 l1_1 x13_3).length : Int) then (if x9_3.length < 8796093022208 then (steeplelaw21_ZeroCorners.l1 k3 a0 (ji61) (x9_3 ++ [(⟨(rd_T28 (rd_L11 l1_1 x13_3) (ji61)).f0, (rd_T28 (rd_L11 l1_1 x13_3) (ji61)).f1⟩ : S28)]) (wrap64 (x13_3 + 1)) l1_0 l1_1 a2_0 a2_1 l2_2 a2_3 a2_4 t949 t950) else (none)) else (none)) else (none)) = some r := by first | (rw [hji61] at H; exact H) | (simp only [hji61] at H ⊢; exact H)
             have hji61w : (IntKind.i64.wrap (Int.tmod a2_4 (IntKind.u64.wrap (((rd_L11 l1_1 0).length : Int))))) = ji61 := (i64_w _).trans hji61
             by_cases c62 : 0 ≤ (ji61)
             ·rw [if_pos c62] at H
              have c62b0 : decide (0 ≤ (ji61)) = true := decide_eq_true c62
              clear c62
              by_cases c63 : (ji61) < ((rd_L11 l1_1 x13_3).length : Int)
              ·rw [if_pos c63] at H
               have c63b0 : decide ((ji61) < ((rd_L11 l1_1 x13_3).length : Int)) = true := decide_eq_true c63
               clear c63
               by_cases c64 : x9_3.length < 8796093022208
               ·rw [if_pos c64] at H
                have LMc64 := Aside0.mk c64
                clear c64
                obtain ⟨y956, hy956⟩ : ∃ y_ : List (S28), y_ = (x9_3 ++ [(⟨(rd_T28 (rd_L11 l1_1 x13_3) (ji61)).f0, (rd_T28 (rd_L11 l1_1 x13_3) (ji61)).f1⟩ : S28)]) := ⟨_, rfl⟩
                replace H : (steeplelaw21_ZeroCorners.l1 k3 a0 (ji61) y956 (wrap64 (x13_3 + 1)) l1_0 l1_1 a2_0 a2_1 l2_2 a2_3 a2_4 t949 t950) = some r := by first | (rw [hy956]; with_reducible exact H) | (have H2_ := (Option.bind_some _ _).symm.trans H; rw [hy956]; with_reducible exact H2_) | (have H2_ := (Option.bind_some _ _).symm.trans H; with_reducible exact H2_) | with_reducible exact H | (rw [hy956]; exact H) | exact H
                have Ny956 := Aside0.mk hy956
                clear hy956
                have H' := Aside0.mk H
                clear H
                have hnb65 := NB939_940.out
                have hnc65 := NB940_939.out
                have hnb66 := NB939_952.out
                have hnc66 := NB952_939.out
                have hcz67_0 : wr.cell? ⟨gb939, 0, none⟩ = some (.slice A1_0 l1_0.length c1_0) := (blk_cell BK939.out 0).trans rfl
                have hcz67_1 : wr.cell? ⟨gb939, 1, none⟩ = some (.slice (some ad944) l1_1.length c1_1) := (blk_cell BK939.out 1).trans rfl
                have hfz67_0 := blk_frozen BK939.out 0
                have hfz67_1 := blk_frozen BK939.out 1
                have p954 : 0 ≤ (x13_3 : Int) := of_decide_eq_true (by first | (with_reducible assumption) | assumption)
                have q954 : x13_3 < (l1_1.length : Int) := of_decide_eq_true (by first | (with_reducible assumption) | assumption)
                obtain ⟨ad954, A954_0, c954_0, e954, hx954_0, hl954_0, hi954_0⟩ := at_L11 HR1_1.out x13_3 p954 q954
                obtain rfl : ad944 = ad954 := (by injection e954)
                replace hx954_0 := (HB.out.cell (World.block_lt_of_cell? w _ hx954_0)).trans hx954_0
                have HR954_0 := Aside0.mk hi954_0
                have HC954_0 := Aside0.mk hl954_0
                clear hi954_0 hl954_0
                replace p954 := eq_true p954
                replace q954 := eq_true q954
                have p955 : 0 ≤ ((ji61) : Int) := of_decide_eq_true (by first | (with_reducible assumption) | assumption)
                have q955 : (ji61) < ((rd_L11 l1_1 x13_3).length : Int) := of_decide_eq_true (by first | (with_reducible assumption) | assumption)
                obtain ⟨ad955, e955, hx955_0, hx955_1⟩ := at_T28 HR954_0.out (ji61) p955 q955
                cases e955
                replace hx955_0 := (HB.out.cell (World.block_lt_of_cell? w _ hx955_0)).trans hx955_0
                replace hx955_1 := (HB.out.cell (World.block_lt_of_cell? w _ hx955_1)).trans hx955_1
                replace p955 := eq_true p955
                replace q955 := eq_true q955
                go_wp2_with (first | ((with_reducible refine gate_builtin (b := .append) (xs := #[.tmp 92, .tmp 101]) rfl ?_); (try (refine gate_guard (by rfl) ?_; dsimp only)); at_builtin; refine Kd.R_append k28 (w0 := w) w.heap.size rfl (.tmp 92) (.tmp 101) 53 28 (.agg #[(.int .u64 0), (.int .u64 0)]) 16 rfl Try.underlying53 info28 rfl (by decide) (by omega) u9 x9_3 (⟨(rd_T28 (rd_L11 l1_1 x13_3) (ji61)).f0, (rd_T28 (rd_L11 l1_1 x13_3) (ji61)).f1⟩ : S28) [.int .u64 ((rd_T28 (rd_L11 l1_1 x13_3) (ji61)).f0), .int .u64 ((rd_T28 (rd_L11 l1_1 x13_3) (ji61)).f1)] (fun k_ => k_ ≠ gb952) (fun _ => False) rfl rfl ?aP (fun _ hk => hk.elim) ?aF ?aO ?aB ?aS ?aL ?_; (case aP => exact k28_mkM _ _ _ (⟨(rd_T28 (rd_L11 l1_1 x13_3) (ji61)).f0, (rd_T28 (rd_L11 l1_1 x13_3) (ji61)).f1⟩ : S28)); (case aB => exact (by repeat (first | (with_reducible first | exact HB.out | apply bA | apply bN | apply bD | refine bS ?_ GE939.out | refine bS ?_ GE940.out | refine bS ?_ GE952.out) | exact HB.out))); (case aF => exact (fun k_ hk => Kd.freshB (g := gb952) (o := .cells #[.int .u64 t949, .int .u64 t950] 28 (0, 0)) (by exact bF BK952.out) k_ hk)); (case aO => exact (by exact rF HO_9.out)); (case aS => exact (below_size (by repeat (first | (with_reducible first | exact HB.out | apply bA | apply bN | apply bD | refine bS ?_ GE939.out | refine bS ?_ GE940.out | refine bS ?_ GE952.out) | exact HB.out)))); (case aL => have := LMc64.out; omega); intro v957 w68 ho hb hg hat; rw [← Ny956.out] at ho; have n0_ := Aside0.mk (blk_grown (g := gb939) (o := .cells #[.slice A1_0 l1_0.length c1_0, .slice (some ad944) l1_1.length c1_1] 59 (0, 0)) (by exact bF BK939.out) hg (Kd.R_ne HO_9.out BK939.out (by decide))); have n1_ := Aside0.mk (blk_grown (g := gb940) (o := .cells #[.int .u64 a2_0, .int .u64 a2_1, .slice A2_2 l2_2.length c2_2, .int .u64 a2_3, .int .u64 a2_4] 61 (0, 0)) (by exact bF BK940.out) hg (Kd.R_ne HO_9.out BK940.out (by decide))); have n2_ := Aside0.mk (blk_grown (g := gb952) (o := .cells #[.int .u64 t949, .int .u64 t950] 28 (0, 0)) (by exact bF BK952.out) hg (Kd.R_away HO_9.out (fun _ hk => hk))); have n3_ := Aside0.mk (hb); have n4_ := Aside0.mk (ho); clear BK939; clear BK940; clear BK952; clear HB; clear HO_9; have BK939 := n0_; have BK940 := n1_; have BK952 := n2_; have HB := n3_; have HO958 := n4_; clear n0_ n1_ n2_ n3_ n4_; clear ho hb hg hat))
                repeat (go_quiet (first | ((with_reducible refine gate_builtin (b := .append) (xs := #[.tmp 92, .tmp 101]) rfl ?_); (try (refine gate_guard (by rfl) ?_; dsimp only)); at_builtin; refine Kd.R_append k28 (w0 := w) w.heap.size rfl (.tmp 92) (.tmp 101) 53 28 (.agg #[(.int .u64 0), (.int .u64 0)]) 16 rfl Try.underlying53 info28 rfl (by decide) (by omega) u9 x9_3 (⟨(rd_T28 (rd_L11 l1_1 x13_3) (ji61)).f0, (rd_T28 (rd_L11 l1_1 x13_3) (ji61)).f1⟩ : S28) [.int .u64 ((rd_T28 (rd_L11 l1_1 x13_3) (ji61)).f0), .int .u64 ((rd_T28 (rd_L11 l1_1 x13_3) (ji61)).f1)] (fun k_ => k_ ≠ gb952) (fun _ => False) rfl rfl ?aP (fun _ hk => hk.elim) ?aF ?aO ?aB ?aS ?aL ?_; (case aP => exact k28_mkM _ _ _ (⟨(rd_T28 (rd_L11 l1_1 x13_3) (ji61)).f0, (rd_T28 (rd_L11 l1_1 x13_3) (ji61)).f1⟩ : S28)); (case aB => exact (by repeat (first | (with_reducible first | exact HB.out | apply bA | apply bN | apply bD | refine bS ?_ GE939.out | refine bS ?_ GE940.out | refine bS ?_ GE952.out) | exact HB.out))); (case aF => exact (fun k_ hk => Kd.freshB (g := gb952) (o := .cells #[.int .u64 t949, .int .u64 t950] 28 (0, 0)) (by exact bF BK952.out) k_ hk)); (case aO => exact (by exact rF HO_9.out)); (case aS => exact (below_size (by repeat (first | (with_reducible first | exact HB.out | apply bA | apply bN | apply bD | refine bS ?_ GE939.out | refine bS ?_ GE940.out | refine bS ?_ GE952.out) | exact HB.out)))); (case aL => have := LMc64.out; omega); intro v957 w68 ho hb hg hat; rw [← Ny956.out] at ho; have n0_ := Aside0.mk (blk_grown (g := gb939) (o := .cells #[.slice A1_0 l1_0.length c1_0, .slice (some ad944) l1_1.length c1_1] 59 (0, 0)) (by exact bF BK939.out) hg (Kd.R_ne HO_9.out BK939.out (by decide))); have n1_ := Aside0.mk (blk_grown (g := gb940) (o := .cells #[.int .u64 a2_0, .int .u64 a2_1, .slice A2_2 l2_2.length c2_2, .int .u64 a2_3, .int .u64 a2_4] 61 (0, 0)) (by exact bF BK940.out) hg (Kd.R_ne HO_9.out BK940.out (by decide))); have n2_ := Aside0.mk (blk_grown (g := gb952) (o := .cells #[.int .u64 t949, .int .u64 t950] 28 (0, 0)) (by exact bF BK952.out) hg (Kd.R_away HO_9.out (fun _ hk => hk))); have n3_ := Aside0.mk (hb); have n4_ := Aside0.mk (ho); clear BK939; clear BK940; clear BK952; clear HB; clear HO_9; have BK939 := n0_; have BK940 := n1_; have BK952 := n2_; have HB := n3_; have HO958 := n4_; clear n0_ n1_ n2_ n3_ n4_; clear ho hb hg hat)); try go_wp2_with (first | ((with_reducible refine gate_builtin (b := .append) (xs := #[.tmp 92, .tmp 101]) rfl ?_); (try (refine gate_guard (by rfl) ?_; dsimp only)); at_builtin; refine Kd.R_append k28 (w0 := w) w.heap.size rfl (.tmp 92) (.tmp 101) 53 28 (.agg #[(.int .u64 0), (.int .u64 0)]) 16 rfl Try.underlying53 info28 rfl (by decide) (by omega) u9 x9_3 (⟨(rd_T28 (rd_L11 l1_1 x13_3) (ji61)).f0, (rd_T28 (rd_L11 l1_1 x13_3) (ji61)).f1⟩ : S28) [.int .u64 ((rd_T28 (rd_L11 l1_1 x13_3) (ji61)).f0), .int .u64 ((rd_T28 (rd_L11 l1_1 x13_3) (ji61)).f1)] (fun k_ => k_ ≠ gb952) (fun _ => False) rfl rfl ?aP (fun _ hk => hk.elim) ?aF ?aO ?aB ?aS ?aL ?_; (case aP => exact k28_mkM _ _ _ (⟨(rd_T28 (rd_L11 l1_1 x13_3) (ji61)).f0, (rd_T28 (rd_L11 l1_1 x13_3) (ji61)).f1⟩ : S28)); (case aB => exact (by repeat (first | (with_reducible first | exact HB.out | apply bA | apply bN | apply bD | refine bS ?_ GE939.out | refine bS ?_ GE940.out | refine bS ?_ GE952.out) | exact HB.out))); (case aF => exact (fun k_ hk => Kd.freshB (g := gb952) (o := .cells #[.int .u64 t949, .int .u64 t950] 28 (0, 0)) (by exact bF BK952.out) k_ hk)); (case aO => exact (by exact rF HO_9.out)); (case aS => exact (below_size (by repeat (first | (with_reducible first | exact HB.out | apply bA | apply bN | apply bD | refine bS ?_ GE939.out | refine bS ?_ GE940.out | refine bS ?_ GE952.out) | exact HB.out)))); (case aL => have := LMc64.out; omega); intro v957 w68 ho hb hg hat; rw [← Ny956.out] at ho; have n0_ := Aside0.mk (blk_grown (g := gb939) (o := .cells #[.slice A1_0 l1_0.length c1_0, .slice (some ad944) l1_1.length c1_1] 59 (0, 0)) (by exact bF BK939.out) hg (Kd.R_ne HO_9.out BK939.out (by decide))); have n1_ := Aside0.mk (blk_grown (g := gb940) (o := .cells #[.int .u64 a2_0, .int .u64 a2_1, .slice A2_2 l2_2.length c2_2, .int .u64 a2_3, .int .u64 a2_4] 61 (0, 0)) (by exact bF BK940.out) hg (Kd.R_ne HO_9.out BK940.out (by decide))); have n2_ := Aside0.mk (blk_grown (g := gb952) (o := .cells #[.int .u64 t949, .int .u64 t950] 28 (0, 0)) (by exact bF BK952.out) hg (Kd.R_away HO_9.out (fun _ hk => hk))); have n3_ := Aside0.mk (hb); have n4_ := Aside0.mk (ho); clear BK939; clear BK940; clear BK952; clear HB; clear HO_9; have BK939 := n0_; have BK940 := n1_; have BK952 := n2_; have HB := n3_; have HO958 := n4_; clear n0_ n1_ n2_ n3_ n4_; clear ho hb hg hat)))
                subst hji61
                go_roundg k3
                case measure => have := HJ3.out; have := HJ26.out; have := HK3.out; omega
                case rel => exact ⟨(y956), (wrap64 (x13_3 + 1)), (by first | rfl | (simp; done) | (simp [*]; done)), H', ⟨by have := HJ3.out; have := HJ26.out; have := HK3.out; omega⟩, ⟨by exact rF HO958.out⟩, ⟨by exact bF BK939.out⟩, ⟨by exact bF BK940.out⟩, ⟨by exact bF BK952.out⟩, ⟨by repeat (first | (with_reducible first | exact HB.out | apply bA | apply bN | apply bD | refine bS ?_ GE939.out | refine bS ?_ GE940.out | refine bS ?_ GE952.out) | exact HB.out)⟩⟩
               ·rw [if_neg c64] at H
                exact absurd H (by simp)
              ·rw [if_neg c63] at H
               exact absurd H (by simp)
             ·rw [if_neg c62] at H
              exact absurd H (by simp)
            ·rw [if_neg c60] at H
             exact absurd H (by simp)
           ·rw [if_neg c59] at H
            have c59b0 : decide (x13_3 < (l1_1.length : Int)) = false := decide_eq_false c59
            clear c59
            replace H := Option.bind_eq_some_iff.mp H
            obtain ⟨⟨t959, t960, t961⟩, A690, H⟩ := H
            replace H : ((steeplelaw21_awake.f k3).bind fun t963 => (if t963 = true then (if t961 = 0 then (some (t959 == t949 && (t960 == t950))) else (some false)) else (some false))) = some r := H
            have A69 := Aside0.mk A690
            clear A690
            replace H := Option.bind_eq_some_iff.mp H
            obtain ⟨t963, A700, H⟩ := H
            replace H : (if t963 = true then (if t961 = 0 then (some (t959 == t949 && (t960 == t950))) else (some false)) else (some false)) = some r := H
            have A70 := Aside0.mk A700
            clear A700
            by_cases c71 : t963 = true
            ·subst c71
             have H1 : (if t961 = 0 then (some (t959 == t949 && (t960 == t950))) else (some false)) = some r := by rw [if_pos rfl] at H; exact H
             clear H
             have H := H1
             clear H1
             by_cases c72 : t961 = 0
             ·rw [if_pos c72] at H
              have c72b0 : (t961 == 0) = true := beq_iff_eq.mpr c72
              have c72b1 : (t961 != 0) = false := bne_eq_false_iff_eq.mpr c72
              clear c72
              obtain rfl := Option.some.inj H
              have hnb73 := NB939_940.out
              have hnc73 := NB940_939.out
              have hnb74 := NB939_952.out
              have hnc74 := NB952_939.out
              have hcz75_0 : wr.cell? ⟨gb939, 0, none⟩ = some (.slice A1_0 l1_0.length c1_0) := (blk_cell BK939.out 0).trans rfl
              have hcz75_1 : wr.cell? ⟨gb939, 1, none⟩ = some (.slice (some ad944) l1_1.length c1_1) := (blk_cell BK939.out 1).trans rfl
              have hfz75_0 := blk_frozen BK939.out 0
              have hfz75_1 := blk_frozen BK939.out 1
              have hnb76 := NB940_952.out
              have hnc76 := NB952_940.out
              have hcz77_0 : wr.cell? ⟨gb940, 0, none⟩ = some (.int .u64 a2_0) := (blk_cell BK940.out 0).trans rfl
              have hcz77_1 : wr.cell? ⟨gb940, 1, none⟩ = some (.int .u64 a2_1) := (blk_cell BK940.out 1).trans rfl
              have hcz77_2 : wr.cell? ⟨gb940, 2, none⟩ = some (.slice A2_2 l2_2.length c2_2) := (blk_cell BK940.out 2).trans rfl
              have hcz77_3 : wr.cell? ⟨gb940, 3, none⟩ = some (.int .u64 a2_3) := (blk_cell BK940.out 3).trans rfl
              have hcz77_4 : wr.cell? ⟨gb940, 4, none⟩ = some (.int .u64 a2_4) := (blk_cell BK940.out 4).trans rfl
              have hfz77_0 := blk_frozen BK940.out 0
              have hfz77_1 := blk_frozen BK940.out 1
              have hfz77_2 := blk_frozen BK940.out 2
              have hfz77_3 := blk_frozen BK940.out 3
              have hfz77_4 := blk_frozen BK940.out 4
              obtain ⟨Ao78, co78, eo78⟩ := Kd.R_slice HO_9.out
              subst eo78
              go_wp2_with (first | (go_at_call 40; (with_reducible refine (zero_Value.calls k3 a0 _ _ l1_0 _ _ x9_3 a2_0 a2_1 0 1 t959 t960 t961 _ ?side1 ?side2 ?side3 ?side4 A69.out).mono ?_); (case side1 => repeat (first | exact (Kd.C_below HR1_0.out HB.out) | (with_reducible refine Kd.C_alloc ?_ _) | (with_reducible refine Kd.C_drewN ?_ _) | (with_reducible refine Kd.C_drew ?_))); (case side2 => exact HC1_0.out); (case side3 => repeat (first | exact (Kd.R_reads' HO_9.out).2.2 | (with_reducible refine Kd.C_alloc ?_ _) | (with_reducible refine Kd.C_drewN ?_ _) | (with_reducible refine Kd.C_drew ?_))); (case side4 => exact (Kd.R_reads' HO_9.out).2.1); rintro e w79 ⟨rfl, hb⟩; have n0_ := Aside0.mk (Kd.R_below (by exact rF HO_9.out) hb); have n1_ := Aside0.mk (blk_below (g := gb939) (o := .cells #[.slice A1_0 l1_0.length c1_0, .slice (some ad944) l1_1.length c1_1] 59 (0, 0)) (by exact bF BK939.out) hb); have n2_ := Aside0.mk (blk_below (g := gb940) (o := .cells #[.int .u64 a2_0, .int .u64 a2_1, .slice A2_2 l2_2.length c2_2, .int .u64 a2_3, .int .u64 a2_4] 61 (0, 0)) (by exact bF BK940.out) hb); have n3_ := Aside0.mk (blk_below (g := gb952) (o := .cells #[.int .u64 t949, .int .u64 t950] 28 (0, 0)) (by exact bF BK952.out) hb); have n4_ := Aside0.mk (below_step (by repeat (first | (with_reducible first | exact HB.out | apply bA | apply bN | apply bD | refine bS ?_ GE939.out | refine bS ?_ GE940.out | refine bS ?_ GE952.out) | exact HB.out)) hb); clear HO_9; clear BK939; clear BK940; clear BK952; clear HB; have HO_9 := n0_; have BK939 := n1_; have BK940 := n2_; have BK952 := n3_; have HB := n4_; clear n0_ n1_ n2_ n3_ n4_; (try clear hb); (try clear hb2); (try clear hk); (try clear hi)) | ((with_reducible refine gate_dst (N := 14) rfl ?_); (try (refine gate_guard (by rfl) ?_; dsimp only)); refine box_event ?hg (N := 14) ?hd (cs := #[.int .u64 0, .int .u64 0]) (t := 28) ?hr ?_; (case hd => rfl); (case hg => rfl); (case hr => first | (go_simp; done) | (go_simp; rfl)); intro gb962 hg w80 hbox hb; have n0_ := Aside0.mk (Kd.R_below (Kd.R_elderB (by exact rF HO_9.out) gb962 (Nat.le_of_eq hg.symm)) hb); have n1_ := Aside0.mk (blk_below (g := gb939) (o := .cells #[.slice A1_0 l1_0.length c1_0, .slice (some ad944) l1_1.length c1_1] 59 (0, 0)) (by exact bF BK939.out) hb); have n2_ := Aside0.mk (blk_below (g := gb940) (o := .cells #[.int .u64 a2_0, .int .u64 a2_1, .slice A2_2 l2_2.length c2_2, .int .u64 a2_3, .int .u64 a2_4] 61 (0, 0)) (by exact bF BK940.out) hb); have n3_ := Aside0.mk (blk_below (g := gb952) (o := .cells #[.int .u64 t949, .int .u64 t950] 28 (0, 0)) (by exact bF BK952.out) hb); have n4_ := Aside0.mk (below_step (by repeat (first | (with_reducible first | exact HB.out | apply bA | apply bN | apply bD | refine bS ?_ GE939.out | refine bS ?_ GE940.out | refine bS ?_ GE952.out) | exact HB.out)) hb); have n5_ := Aside0.mk (hbox); have n6_ := Aside0.mk ((by rw [hg]; exact (below_size (by repeat (first | (with_reducible first | exact HB.out | apply bA | apply bN | apply bD | refine bS ?_ GE939.out | refine bS ?_ GE940.out | refine bS ?_ GE952.out) | exact HB.out))) : w.heap.size ≤ gb962)); have n7_ := Aside0.mk ((by rw [hg]; exact (below_size (by repeat (first | (with_reducible first | exact HB.out | apply bA | apply bN | apply bD | refine bS ?_ GE939.out | refine bS ?_ GE940.out | refine bS ?_ GE952.out) | exact HB.out))) : w.heap.size ≤ gb962)); have n8_ := Aside0.mk ((by rw [hg]; exact Nat.ne_of_lt (blk_lt (g := gb939) (o := .cells #[.slice A1_0 l1_0.length c1_0, .slice (some ad944) l1_1.length c1_1] 59 (0, 0)) (by exact bF BK939.out)) : gb939 ≠ gb962)); have n9_ := Aside0.mk ((by rw [hg]; exact Nat.ne_of_gt (blk_lt (g := gb939) (o := .cells #[.slice A1_0 l1_0.length c1_0, .slice (some ad944) l1_1.length c1_1] 59 (0, 0)) (by exact bF BK939.out)) : gb962 ≠ gb939)); have n10_ := Aside0.mk ((by rw [hg]; exact Nat.ne_of_lt (blk_lt (g := gb940) (o := .cells #[.int .u64 a2_0, .int .u64 a2_1, .slice A2_2 l2_2.length c2_2, .int .u64 a2_3, .int .u64 a2_4] 61 (0, 0)) (by exact bF BK940.out)) : gb940 ≠ gb962)); have n11_ := Aside0.mk ((by rw [hg]; exact Nat.ne_of_gt (blk_lt (g := gb940) (o := .cells #[.int .u64 a2_0, .int .u64 a2_1, .slice A2_2 l2_2.length c2_2, .int .u64 a2_3, .int .u64 a2_4] 61 (0, 0)) (by exact bF BK940.out)) : gb962 ≠ gb940)); have n12_ := Aside0.mk ((by rw [hg]; exact Nat.ne_of_lt (blk_lt (g := gb952) (o := .cells #[.int .u64 t949, .int .u64 t950] 28 (0, 0)) (by exact bF BK952.out)) : gb952 ≠ gb962)); have n13_ := Aside0.mk ((by rw [hg]; exact Nat.ne_of_gt (blk_lt (g := gb952) (o := .cells #[.int .u64 t949, .int .u64 t950] 28 (0, 0)) (by exact bF BK952.out)) : gb962 ≠ gb952)); clear HO_9; clear BK939; clear BK940; clear BK952; clear HB; have HO_9 := n0_; have BK939 := n1_; have BK940 := n2_; have BK952 := n3_; have HB := n4_; have BK962 := n5_; have GW962 := n6_; have GE962 := n7_; have NB939_962 := n8_; have NB962_939 := n9_; have NB940_962 := n10_; have NB962_940 := n11_; have NB952_962 := n12_; have NB962_952 := n13_; clear n0_ n1_ n2_ n3_ n4_ n5_ n6_ n7_ n8_ n9_ n10_ n11_ n12_ n13_; clear hb hbox hg; have hnb81 := NB962_939.out; have hnc81 := NB939_962.out; have hnb82 := NB962_940.out; have hnc82 := NB940_962.out; have hnb83 := NB962_952.out; have hnc83 := NB952_962.out; have hcz84_0 : w80.cell? ⟨gb962, 0, none⟩ = some (.int .u64 0) := (blk_cell BK962.out 0).trans rfl; have hcz84_1 : w80.cell? ⟨gb962, 1, none⟩ = some (.int .u64 0) := (blk_cell BK962.out 1).trans rfl; have hfz84_0 := blk_frozen BK962.out 0; have hfz84_1 := blk_frozen BK962.out 1) | (go_at_call 29; (with_reducible refine (steeplelaw21_awake.calls k3  true _ A70.out).mono ?_); rintro e w85 ⟨rfl, hb⟩; have n0_ := Aside0.mk (Kd.R_below (by (with_reducible repeat (first | apply Kd.R_alloc | apply Kd.R_drewN | apply Kd.R_drew)); exact (Kd.R_mono (Kd.R_far (p := ⟨gb962, 1, none⟩) (Kd.R_far (p := ⟨gb962, 0, none⟩) (Kd.R_mono HO_9.out (fun k_ hk => (⟨hk, hk.2⟩ : _ ∧ k_ ≠ gb962))) (fun _ hk => hk.2) (.int .u64 t959)) (fun _ hk => hk.2) (.int .u64 t960)) (fun _ h_ => h_.1))) hb); have n1_ := Aside0.mk (blk_below (g := gb939) (o := .cells #[.slice A1_0 l1_0.length c1_0, .slice (some ad944) l1_1.length c1_1] 59 (0, 0)) (by (with_reducible repeat (first | refine blk_drewN ?_ _ | refine blk_drew ?_ | refine blk_alloc ?_ _)); refine blk_far ?_ NB939_962.out _; (with_reducible repeat (first | refine blk_drewN ?_ _ | refine blk_drew ?_ | refine blk_alloc ?_ _)); refine blk_far ?_ NB939_962.out _; exact bF BK939.out) hb); have n2_ := Aside0.mk (blk_below (g := gb940) (o := .cells #[.int .u64 a2_0, .int .u64 a2_1, .slice A2_2 l2_2.length c2_2, .int .u64 a2_3, .int .u64 a2_4] 61 (0, 0)) (by (with_reducible repeat (first | refine blk_drewN ?_ _ | refine blk_drew ?_ | refine blk_alloc ?_ _)); refine blk_far ?_ NB940_962.out _; (with_reducible repeat (first | refine blk_drewN ?_ _ | refine blk_drew ?_ | refine blk_alloc ?_ _)); refine blk_far ?_ NB940_962.out _; exact bF BK940.out) hb); have n3_ := Aside0.mk (blk_below (g := gb952) (o := .cells #[.int .u64 t949, .int .u64 t950] 28 (0, 0)) (by (with_reducible repeat (first | refine blk_drewN ?_ _ | refine blk_drew ?_ | refine blk_alloc ?_ _)); refine blk_far ?_ NB952_962.out _; (with_reducible repeat (first | refine blk_drewN ?_ _ | refine blk_drew ?_ | refine blk_alloc ?_ _)); refine blk_far ?_ NB952_962.out _; exact bF BK952.out) hb); have n4_ := Aside0.mk (blk_below (g := gb962) (o := .cells #[.int .u64 t959, .int .u64 t960] 28 (0, 0)) (by (with_reducible repeat (first | refine blk_drewN ?_ _ | refine blk_drew ?_ | refine blk_alloc ?_ _)); refine blk_put (cs := #[.int .u64 t959, .int .u64 0]) ?_ 1 _ rfl; (with_reducible repeat (first | refine blk_drewN ?_ _ | refine blk_drew ?_ | refine blk_alloc ?_ _)); refine blk_put (cs := #[.int .u64 0, .int .u64 0]) ?_ 0 _ rfl; exact bF BK962.out) hb); have n5_ := Aside0.mk (below_step (by repeat (first | (with_reducible first | exact HB.out | apply bA | apply bN | apply bD | refine bS ?_ GE939.out | refine bS ?_ GE940.out | refine bS ?_ GE952.out | refine bS ?_ GE962.out) | exact HB.out)) hb); clear HO_9; clear BK939; clear BK940; clear BK952; clear BK962; clear HB; have HO_9 := n0_; have BK939 := n1_; have BK940 := n2_; have BK952 := n3_; have BK962 := n4_; have HB := n5_; clear n0_ n1_ n2_ n3_ n4_ n5_; (try clear hb); (try clear hb2); (try clear hk); (try clear hi); have hcz86_0 : w85.cell? ⟨gb962, 0, none⟩ = some (.int .u64 t959) := (blk_cell BK962.out 0).trans rfl; have hcz86_1 : w85.cell? ⟨gb962, 1, none⟩ = some (.int .u64 t960) := (blk_cell BK962.out 1).trans rfl; have hfz86_0 := blk_frozen BK962.out 0; have hfz86_1 := blk_frozen BK962.out 1; have hcz87_0 : w85.cell? ⟨gb952, 0, none⟩ = some (.int .u64 t949) := (blk_cell BK952.out 0).trans rfl; have hcz87_1 : w85.cell? ⟨gb952, 1, none⟩ = some (.int .u64 t950) := (blk_cell BK952.out 1).trans rfl; have hfz87_0 := blk_frozen BK952.out 0; have hfz87_1 := blk_frozen BK952.out 1))
              repeat (go_quiet (first | (go_at_call 40; (with_reducible refine (zero_Value.calls k3 a0 _ _ l1_0 _ _ x9_3 a2_0 a2_1 0 1 t959 t960 t961 _ ?side1 ?side2 ?side3 ?side4 A69.out).mono ?_); (case side1 => repeat (first | exact (Kd.C_below HR1_0.out HB.out) | (with_reducible refine Kd.C_alloc ?_ _) | (with_reducible refine Kd.C_drewN ?_ _) | (with_reducible refine Kd.C_drew ?_))); (case side2 => exact HC1_0.out); (case side3 => repeat (first | exact (Kd.R_reads' HO_9.out).2.2 | (with_reducible refine Kd.C_alloc ?_ _) | (with_reducible refine Kd.C_drewN ?_ _) | (with_reducible refine Kd.C_drew ?_))); (case side4 => exact (Kd.R_reads' HO_9.out).2.1); rintro e w79 ⟨rfl, hb⟩; have n0_ := Aside0.mk (Kd.R_below (by exact rF HO_9.out) hb); have n1_ := Aside0.mk (blk_below (g := gb939) (o := .cells #[.slice A1_0 l1_0.length c1_0, .slice (some ad944) l1_1.length c1_1] 59 (0, 0)) (by exact bF BK939.out) hb); have n2_ := Aside0.mk (blk_below (g := gb940) (o := .cells #[.int .u64 a2_0, .int .u64 a2_1, .slice A2_2 l2_2.length c2_2, .int .u64 a2_3, .int .u64 a2_4] 61 (0, 0)) (by exact bF BK940.out) hb); have n3_ := Aside0.mk (blk_below (g := gb952) (o := .cells #[.int .u64 t949, .int .u64 t950] 28 (0, 0)) (by exact bF BK952.out) hb); have n4_ := Aside0.mk (below_step (by repeat (first | (with_reducible first | exact HB.out | apply bA | apply bN | apply bD | refine bS ?_ GE939.out | refine bS ?_ GE940.out | refine bS ?_ GE952.out) | exact HB.out)) hb); clear HO_9; clear BK939; clear BK940; clear BK952; clear HB; have HO_9 := n0_; have BK939 := n1_; have BK940 := n2_; have BK952 := n3_; have HB := n4_; clear n0_ n1_ n2_ n3_ n4_; (try clear hb); (try clear hb2); (try clear hk); (try clear hi)) | ((with_reducible refine gate_dst (N := 14) rfl ?_); (try (refine gate_guard (by rfl) ?_; dsimp only)); refine box_event ?hg (N := 14) ?hd (cs := #[.int .u64 0, .int .u64 0]) (t := 28) ?hr ?_; (case hd => rfl); (case hg => rfl); (case hr => first | (go_simp; done) | (go_simp; rfl)); intro gb962 hg w80 hbox hb; have n0_ := Aside0.mk (Kd.R_below (Kd.R_elderB (by exact rF HO_9.out) gb962 (Nat.le_of_eq hg.symm)) hb); have n1_ := Aside0.mk (blk_below (g := gb939) (o := .cells #[.slice A1_0 l1_0.length c1_0, .slice (some ad944) l1_1.length c1_1] 59 (0, 0)) (by exact bF BK939.out) hb); have n2_ := Aside0.mk (blk_below (g := gb940) (o := .cells #[.int .u64 a2_0, .int .u64 a2_1, .slice A2_2 l2_2.length c2_2, .int .u64 a2_3, .int .u64 a2_4] 61 (0, 0)) (by exact bF BK940.out) hb); have n3_ := Aside0.mk (blk_below (g := gb952) (o := .cells #[.int .u64 t949, .int .u64 t950] 28 (0, 0)) (by exact bF BK952.out) hb); have n4_ := Aside0.mk (below_step (by repeat (first | (with_reducible first | exact HB.out | apply bA | apply bN | apply bD | refine bS ?_ GE939.out | refine bS ?_ GE940.out | refine bS ?_ GE952.out) | exact HB.out)) hb); have n5_ := Aside0.mk (hbox); have n6_ := Aside0.mk ((by rw [hg]; exact (below_size (by repeat (first | (with_reducible first | exact HB.out | apply bA | apply bN | apply bD | refine bS ?_ GE939.out | refine bS ?_ GE940.out | refine bS ?_ GE952.out) | exact HB.out))) : w.heap.size ≤ gb962)); have n7_ := Aside0.mk ((by rw [hg]; exact (below_size (by repeat (first | (with_reducible first | exact HB.out | apply bA | apply bN | apply bD | refine bS ?_ GE939.out | refine bS ?_ GE940.out | refine bS ?_ GE952.out) | exact HB.out))) : w.heap.size ≤ gb962)); have n8_ := Aside0.mk ((by rw [hg]; exact Nat.ne_of_lt (blk_lt (g := gb939) (o := .cells #[.slice A1_0 l1_0.length c1_0, .slice (some ad944) l1_1.length c1_1] 59 (0, 0)) (by exact bF BK939.out)) : gb939 ≠ gb962)); have n9_ := Aside0.mk ((by rw [hg]; exact Nat.ne_of_gt (blk_lt (g := gb939) (o := .cells #[.slice A1_0 l1_0.length c1_0, .slice (some ad944) l1_1.length c1_1] 59 (0, 0)) (by exact bF BK939.out)) : gb962 ≠ gb939)); have n10_ := Aside0.mk ((by rw [hg]; exact Nat.ne_of_lt (blk_lt (g := gb940) (o := .cells #[.int .u64 a2_0, .int .u64 a2_1, .slice A2_2 l2_2.length c2_2, .int .u64 a2_3, .int .u64 a2_4] 61 (0, 0)) (by exact bF BK940.out)) : gb940 ≠ gb962)); have n11_ := Aside0.mk ((by rw [hg]; exact Nat.ne_of_gt (blk_lt (g := gb940) (o := .cells #[.int .u64 a2_0, .int .u64 a2_1, .slice A2_2 l2_2.length c2_2, .int .u64 a2_3, .int .u64 a2_4] 61 (0, 0)) (by exact bF BK940.out)) : gb962 ≠ gb940)); have n12_ := Aside0.mk ((by rw [hg]; exact Nat.ne_of_lt (blk_lt (g := gb952) (o := .cells #[.int .u64 t949, .int .u64 t950] 28 (0, 0)) (by exact bF BK952.out)) : gb952 ≠ gb962)); have n13_ := Aside0.mk ((by rw [hg]; exact Nat.ne_of_gt (blk_lt (g := gb952) (o := .cells #[.int .u64 t949, .int .u64 t950] 28 (0, 0)) (by exact bF BK952.out)) : gb962 ≠ gb952)); clear HO_9; clear BK939; clear BK940; clear BK952; clear HB; have HO_9 := n0_; have BK939 := n1_; have BK940 := n2_; have BK952 := n3_; have HB := n4_; have BK962 := n5_; have GW962 := n6_; have GE962 := n7_; have NB939_962 := n8_; have NB962_939 := n9_; have NB940_962 := n10_; have NB962_940 := n11_; have NB952_962 := n12_; have NB962_952 := n13_; clear n0_ n1_ n2_ n3_ n4_ n5_ n6_ n7_ n8_ n9_ n10_ n11_ n12_ n13_; clear hb hbox hg; have hnb81 := NB962_939.out; have hnc81 := NB939_962.out; have hnb82 := NB962_940.out; have hnc82 := NB940_962.out; have hnb83 := NB962_952.out; have hnc83 := NB952_962.out; have hcz84_0 : w80.cell? ⟨gb962, 0, none⟩ = some (.int .u64 0) := (blk_cell BK962.out 0).trans rfl; have hcz84_1 : w80.cell? ⟨gb962, 1, none⟩ = some (.int .u64 0) := (blk_cell BK962.out 1).trans rfl; have hfz84_0 := blk_frozen BK962.out 0; have hfz84_1 := blk_frozen BK962.out 1) | (go_at_call 29; (with_reducible refine (steeplelaw21_awake.calls k3  true _ A70.out).mono ?_); rintro e w85 ⟨rfl, hb⟩; have n0_ := Aside0.mk (Kd.R_below (by (with_reducible repeat (first | apply Kd.R_alloc | apply Kd.R_drewN | apply Kd.R_drew)); exact (Kd.R_mono (Kd.R_far (p := ⟨gb962, 1, none⟩) (Kd.R_far (p := ⟨gb962, 0, none⟩) (Kd.R_mono HO_9.out (fun k_ hk => (⟨hk, hk.2⟩ : _ ∧ k_ ≠ gb962))) (fun _ hk => hk.2) (.int .u64 t959)) (fun _ hk => hk.2) (.int .u64 t960)) (fun _ h_ => h_.1))) hb); have n1_ := Aside0.mk (blk_below (g := gb939) (o := .cells #[.slice A1_0 l1_0.length c1_0, .slice (some ad944) l1_1.length c1_1] 59 (0, 0)) (by (with_reducible repeat (first | refine blk_drewN ?_ _ | refine blk_drew ?_ | refine blk_alloc ?_ _)); refine blk_far ?_ NB939_962.out _; (with_reducible repeat (first | refine blk_drewN ?_ _ | refine blk_drew ?_ | refine blk_alloc ?_ _)); refine blk_far ?_ NB939_962.out _; exact bF BK939.out) hb); have n2_ := Aside0.mk (blk_below (g := gb940) (o := .cells #[.int .u64 a2_0, .int .u64 a2_1, .slice A2_2 l2_2.length c2_2, .int .u64 a2_3, .int .u64 a2_4] 61 (0, 0)) (by (with_reducible repeat (first | refine blk_drewN ?_ _ | refine blk_drew ?_ | refine blk_alloc ?_ _)); refine blk_far ?_ NB940_962.out _; (with_reducible repeat (first | refine blk_drewN ?_ _ | refine blk_drew ?_ | refine blk_alloc ?_ _)); refine blk_far ?_ NB940_962.out _; exact bF BK940.out) hb); have n3_ := Aside0.mk (blk_below (g := gb952) (o := .cells #[.int .u64 t949, .int .u64 t950] 28 (0, 0)) (by (with_reducible repeat (first | refine blk_drewN ?_ _ | refine blk_drew ?_ | refine blk_alloc ?_ _)); refine blk_far ?_ NB952_962.out _; (with_reducible repeat (first | refine blk_drewN ?_ _ | refine blk_drew ?_ | refine blk_alloc ?_ _)); refine blk_far ?_ NB952_962.out _; exact bF BK952.out) hb); have n4_ := Aside0.mk (blk_below (g := gb962) (o := .cells #[.int .u64 t959, .int .u64 t960] 28 (0, 0)) (by (with_reducible repeat (first | refine blk_drewN ?_ _ | refine blk_drew ?_ | refine blk_alloc ?_ _)); refine blk_put (cs := #[.int .u64 t959, .int .u64 0]) ?_ 1 _ rfl; (with_reducible repeat (first | refine blk_drewN ?_ _ | refine blk_drew ?_ | refine blk_alloc ?_ _)); refine blk_put (cs := #[.int .u64 0, .int .u64 0]) ?_ 0 _ rfl; exact bF BK962.out) hb); have n5_ := Aside0.mk (below_step (by repeat (first | (with_reducible first | exact HB.out | apply bA | apply bN | apply bD | refine bS ?_ GE939.out | refine bS ?_ GE940.out | refine bS ?_ GE952.out | refine bS ?_ GE962.out) | exact HB.out)) hb); clear HO_9; clear BK939; clear BK940; clear BK952; clear BK962; clear HB; have HO_9 := n0_; have BK939 := n1_; have BK940 := n2_; have BK952 := n3_; have BK962 := n4_; have HB := n5_; clear n0_ n1_ n2_ n3_ n4_ n5_; (try clear hb); (try clear hb2); (try clear hk); (try clear hi); have hcz86_0 : w85.cell? ⟨gb962, 0, none⟩ = some (.int .u64 t959) := (blk_cell BK962.out 0).trans rfl; have hcz86_1 : w85.cell? ⟨gb962, 1, none⟩ = some (.int .u64 t960) := (blk_cell BK962.out 1).trans rfl; have hfz86_0 := blk_frozen BK962.out 0; have hfz86_1 := blk_frozen BK962.out 1; have hcz87_0 : w85.cell? ⟨gb952, 0, none⟩ = some (.int .u64 t949) := (blk_cell BK952.out 0).trans rfl; have hcz87_1 : w85.cell? ⟨gb952, 1, none⟩ = some (.int .u64 t950) := (blk_cell BK952.out 1).trans rfl; have hfz87_0 := blk_frozen BK952.out 0; have hfz87_1 := blk_frozen BK952.out 1)); try go_wp2_with (first | (go_at_call 40; (with_reducible refine (zero_Value.calls k3 a0 _ _ l1_0 _ _ x9_3 a2_0 a2_1 0 1 t959 t960 t961 _ ?side1 ?side2 ?side3 ?side4 A69.out).mono ?_); (case side1 => repeat (first | exact (Kd.C_below HR1_0.out HB.out) | (with_reducible refine Kd.C_alloc ?_ _) | (with_reducible refine Kd.C_drewN ?_ _) | (with_reducible refine Kd.C_drew ?_))); (case side2 => exact HC1_0.out); (case side3 => repeat (first | exact (Kd.R_reads' HO_9.out).2.2 | (with_reducible refine Kd.C_alloc ?_ _) | (with_reducible refine Kd.C_drewN ?_ _) | (with_reducible refine Kd.C_drew ?_))); (case side4 => exact (Kd.R_reads' HO_9.out).2.1); rintro e w79 ⟨rfl, hb⟩; have n0_ := Aside0.mk (Kd.R_below (by exact rF HO_9.out) hb); have n1_ := Aside0.mk (blk_below (g := gb939) (o := .cells #[.slice A1_0 l1_0.length c1_0, .slice (some ad944) l1_1.length c1_1] 59 (0, 0)) (by exact bF BK939.out) hb); have n2_ := Aside0.mk (blk_below (g := gb940) (o := .cells #[.int .u64 a2_0, .int .u64 a2_1, .slice A2_2 l2_2.length c2_2, .int .u64 a2_3, .int .u64 a2_4] 61 (0, 0)) (by exact bF BK940.out) hb); have n3_ := Aside0.mk (blk_below (g := gb952) (o := .cells #[.int .u64 t949, .int .u64 t950] 28 (0, 0)) (by exact bF BK952.out) hb); have n4_ := Aside0.mk (below_step (by repeat (first | (with_reducible first | exact HB.out | apply bA | apply bN | apply bD | refine bS ?_ GE939.out | refine bS ?_ GE940.out | refine bS ?_ GE952.out) | exact HB.out)) hb); clear HO_9; clear BK939; clear BK940; clear BK952; clear HB; have HO_9 := n0_; have BK939 := n1_; have BK940 := n2_; have BK952 := n3_; have HB := n4_; clear n0_ n1_ n2_ n3_ n4_; (try clear hb); (try clear hb2); (try clear hk); (try clear hi)) | ((with_reducible refine gate_dst (N := 14) rfl ?_); (try (refine gate_guard (by rfl) ?_; dsimp only)); refine box_event ?hg (N := 14) ?hd (cs := #[.int .u64 0, .int .u64 0]) (t := 28) ?hr ?_; (case hd => rfl); (case hg => rfl); (case hr => first | (go_simp; done) | (go_simp; rfl)); intro gb962 hg w80 hbox hb; have n0_ := Aside0.mk (Kd.R_below (Kd.R_elderB (by exact rF HO_9.out) gb962 (Nat.le_of_eq hg.symm)) hb); have n1_ := Aside0.mk (blk_below (g := gb939) (o := .cells #[.slice A1_0 l1_0.length c1_0, .slice (some ad944) l1_1.length c1_1] 59 (0, 0)) (by exact bF BK939.out) hb); have n2_ := Aside0.mk (blk_below (g := gb940) (o := .cells #[.int .u64 a2_0, .int .u64 a2_1, .slice A2_2 l2_2.length c2_2, .int .u64 a2_3, .int .u64 a2_4] 61 (0, 0)) (by exact bF BK940.out) hb); have n3_ := Aside0.mk (blk_below (g := gb952) (o := .cells #[.int .u64 t949, .int .u64 t950] 28 (0, 0)) (by exact bF BK952.out) hb); have n4_ := Aside0.mk (below_step (by repeat (first | (with_reducible first | exact HB.out | apply bA | apply bN | apply bD | refine bS ?_ GE939.out | refine bS ?_ GE940.out | refine bS ?_ GE952.out) | exact HB.out)) hb); have n5_ := Aside0.mk (hbox); have n6_ := Aside0.mk ((by rw [hg]; exact (below_size (by repeat (first | (with_reducible first | exact HB.out | apply bA | apply bN | apply bD | refine bS ?_ GE939.out | refine bS ?_ GE940.out | refine bS ?_ GE952.out) | exact HB.out))) : w.heap.size ≤ gb962)); have n7_ := Aside0.mk ((by rw [hg]; exact (below_size (by repeat (first | (with_reducible first | exact HB.out | apply bA | apply bN | apply bD | refine bS ?_ GE939.out | refine bS ?_ GE940.out | refine bS ?_ GE952.out) | exact HB.out))) : w.heap.size ≤ gb962)); have n8_ := Aside0.mk ((by rw [hg]; exact Nat.ne_of_lt (blk_lt (g := gb939) (o := .cells #[.slice A1_0 l1_0.length c1_0, .slice (some ad944) l1_1.length c1_1] 59 (0, 0)) (by exact bF BK939.out)) : gb939 ≠ gb962)); have n9_ := Aside0.mk ((by rw [hg]; exact Nat.ne_of_gt (blk_lt (g := gb939) (o := .cells #[.slice A1_0 l1_0.length c1_0, .slice (some ad944) l1_1.length c1_1] 59 (0, 0)) (by exact bF BK939.out)) : gb962 ≠ gb939)); have n10_ := Aside0.mk ((by rw [hg]; exact Nat.ne_of_lt (blk_lt (g := gb940) (o := .cells #[.int .u64 a2_0, .int .u64 a2_1, .slice A2_2 l2_2.length c2_2, .int .u64 a2_3, .int .u64 a2_4] 61 (0, 0)) (by exact bF BK940.out)) : gb940 ≠ gb962)); have n11_ := Aside0.mk ((by rw [hg]; exact Nat.ne_of_gt (blk_lt (g := gb940) (o := .cells #[.int .u64 a2_0, .int .u64 a2_1, .slice A2_2 l2_2.length c2_2, .int .u64 a2_3, .int .u64 a2_4] 61 (0, 0)) (by exact bF BK940.out)) : gb962 ≠ gb940)); have n12_ := Aside0.mk ((by rw [hg]; exact Nat.ne_of_lt (blk_lt (g := gb952) (o := .cells #[.int .u64 t949, .int .u64 t950] 28 (0, 0)) (by exact bF BK952.out)) : gb952 ≠ gb962)); have n13_ := Aside0.mk ((by rw [hg]; exact Nat.ne_of_gt (blk_lt (g := gb952) (o := .cells #[.int .u64 t949, .int .u64 t950] 28 (0, 0)) (by exact bF BK952.out)) : gb962 ≠ gb952)); clear HO_9; clear BK939; clear BK940; clear BK952; clear HB; have HO_9 := n0_; have BK939 := n1_; have BK940 := n2_; have BK952 := n3_; have HB := n4_; have BK962 := n5_; have GW962 := n6_; have GE962 := n7_; have NB939_962 := n8_; have NB962_939 := n9_; have NB940_962 := n10_; have NB962_940 := n11_; have NB952_962 := n12_; have NB962_952 := n13_; clear n0_ n1_ n2_ n3_ n4_ n5_ n6_ n7_ n8_ n9_ n10_ n11_ n12_ n13_; clear hb hbox hg; have hnb81 := NB962_939.out; have hnc81 := NB939_962.out; have hnb82 := NB962_940.out; have hnc82 := NB940_962.out; have hnb83 := NB962_952.out; have hnc83 := NB952_962.out; have hcz84_0 : w80.cell? ⟨gb962, 0, none⟩ = some (.int .u64 0) := (blk_cell BK962.out 0).trans rfl; have hcz84_1 : w80.cell? ⟨gb962, 1, none⟩ = some (.int .u64 0) := (blk_cell BK962.out 1).trans rfl; have hfz84_0 := blk_frozen BK962.out 0; have hfz84_1 := blk_frozen BK962.out 1) | (go_at_call 29; (with_reducible refine (steeplelaw21_awake.calls k3  true _ A70.out).mono ?_); rintro e w85 ⟨rfl, hb⟩; have n0_ := Aside0.mk (Kd.R_below (by (with_reducible repeat (first | apply Kd.R_alloc | apply Kd.R_drewN | apply Kd.R_drew)); exact (Kd.R_mono (Kd.R_far (p := ⟨gb962, 1, none⟩) (Kd.R_far (p := ⟨gb962, 0, none⟩) (Kd.R_mono HO_9.out (fun k_ hk => (⟨hk, hk.2⟩ : _ ∧ k_ ≠ gb962))) (fun _ hk => hk.2) (.int .u64 t959)) (fun _ hk => hk.2) (.int .u64 t960)) (fun _ h_ => h_.1))) hb); have n1_ := Aside0.mk (blk_below (g := gb939) (o := .cells #[.slice A1_0 l1_0.length c1_0, .slice (some ad944) l1_1.length c1_1] 59 (0, 0)) (by (with_reducible repeat (first | refine blk_drewN ?_ _ | refine blk_drew ?_ | refine blk_alloc ?_ _)); refine blk_far ?_ NB939_962.out _; (with_reducible repeat (first | refine blk_drewN ?_ _ | refine blk_drew ?_ | refine blk_alloc ?_ _)); refine blk_far ?_ NB939_962.out _; exact bF BK939.out) hb); have n2_ := Aside0.mk (blk_below (g := gb940) (o := .cells #[.int .u64 a2_0, .int .u64 a2_1, .slice A2_2 l2_2.length c2_2, .int .u64 a2_3, .int .u64 a2_4] 61 (0, 0)) (by (with_reducible repeat (first | refine blk_drewN ?_ _ | refine blk_drew ?_ | refine blk_alloc ?_ _)); refine blk_far ?_ NB940_962.out _; (with_reducible repeat (first | refine blk_drewN ?_ _ | refine blk_drew ?_ | refine blk_alloc ?_ _)); refine blk_far ?_ NB940_962.out _; exact bF BK940.out) hb); have n3_ := Aside0.mk (blk_below (g := gb952) (o := .cells #[.int .u64 t949, .int .u64 t950] 28 (0, 0)) (by (with_reducible repeat (first | refine blk_drewN ?_ _ | refine blk_drew ?_ | refine blk_alloc ?_ _)); refine blk_far ?_ NB952_962.out _; (with_reducible repeat (first | refine blk_drewN ?_ _ | refine blk_drew ?_ | refine blk_alloc ?_ _)); refine blk_far ?_ NB952_962.out _; exact bF BK952.out) hb); have n4_ := Aside0.mk (blk_below (g := gb962) (o := .cells #[.int .u64 t959, .int .u64 t960] 28 (0, 0)) (by (with_reducible repeat (first | refine blk_drewN ?_ _ | refine blk_drew ?_ | refine blk_alloc ?_ _)); refine blk_put (cs := #[.int .u64 t959, .int .u64 0]) ?_ 1 _ rfl; (with_reducible repeat (first | refine blk_drewN ?_ _ | refine blk_drew ?_ | refine blk_alloc ?_ _)); refine blk_put (cs := #[.int .u64 0, .int .u64 0]) ?_ 0 _ rfl; exact bF BK962.out) hb); have n5_ := Aside0.mk (below_step (by repeat (first | (with_reducible first | exact HB.out | apply bA | apply bN | apply bD | refine bS ?_ GE939.out | refine bS ?_ GE940.out | refine bS ?_ GE952.out | refine bS ?_ GE962.out) | exact HB.out)) hb); clear HO_9; clear BK939; clear BK940; clear BK952; clear BK962; clear HB; have HO_9 := n0_; have BK939 := n1_; have BK940 := n2_; have BK952 := n3_; have BK962 := n4_; have HB := n5_; clear n0_ n1_ n2_ n3_ n4_ n5_; (try clear hb); (try clear hb2); (try clear hk); (try clear hi); have hcz86_0 : w85.cell? ⟨gb962, 0, none⟩ = some (.int .u64 t959) := (blk_cell BK962.out 0).trans rfl; have hcz86_1 : w85.cell? ⟨gb962, 1, none⟩ = some (.int .u64 t960) := (blk_cell BK962.out 1).trans rfl; have hfz86_0 := blk_frozen BK962.out 0; have hfz86_1 := blk_frozen BK962.out 1; have hcz87_0 : w85.cell? ⟨gb952, 0, none⟩ = some (.int .u64 t949) := (blk_cell BK952.out 0).trans rfl; have hcz87_1 : w85.cell? ⟨gb952, 1, none⟩ = some (.int .u64 t950) := (blk_cell BK952.out 1).trans rfl; have hfz87_0 := blk_frozen BK952.out 0; have hfz87_1 := blk_frozen BK952.out 1)))
              go_ret
              exact ⟨by first | rfl | (simp [errW_none, errW_some] <;> rfl) | (simp [*, errW_none, errW_some] <;> rfl), by repeat (first | (with_reducible first | exact HB.out | apply bA | apply bN | apply bD | refine bS ?_ GE939.out | refine bS ?_ GE940.out | refine bS ?_ GE952.out | refine bS ?_ GE962.out) | exact HB.out)⟩
             ·rw [if_neg c72] at H
              have c72b0 : (t961 == 0) = false := beq_eq_false_iff_ne.mpr c72
              have c72b1 : (t961 != 0) = true := bne_iff_ne.mpr c72
              obtain rfl := Option.some.inj H
              have hnb88 := NB939_940.out
              have hnc88 := NB940_939.out
              have hnb89 := NB939_952.out
              have hnc89 := NB952_939.out
              have hcz90_0 : wr.cell? ⟨gb939, 0, none⟩ = some (.slice A1_0 l1_0.length c1_0) := (blk_cell BK939.out 0).trans rfl
              have hcz90_1 : wr.cell? ⟨gb939, 1, none⟩ = some (.slice (some ad944) l1_1.length c1_1) := (blk_cell BK939.out 1).trans rfl
              have hfz90_0 := blk_frozen BK939.out 0
              have hfz90_1 := blk_frozen BK939.out 1
              have hnb91 := NB940_952.out
              have hnc91 := NB952_940.out
              have hcz92_0 : wr.cell? ⟨gb940, 0, none⟩ = some (.int .u64 a2_0) := (blk_cell BK940.out 0).trans rfl
              have hcz92_1 : wr.cell? ⟨gb940, 1, none⟩ = some (.int .u64 a2_1) := (blk_cell BK940.out 1).trans rfl
              have hcz92_2 : wr.cell? ⟨gb940, 2, none⟩ = some (.slice A2_2 l2_2.length c2_2) := (blk_cell BK940.out 2).trans rfl
              have hcz92_3 : wr.cell? ⟨gb940, 3, none⟩ = some (.int .u64 a2_3) := (blk_cell BK940.out 3).trans rfl
              have hcz92_4 : wr.cell? ⟨gb940, 4, none⟩ = some (.int .u64 a2_4) := (blk_cell BK940.out 4).trans rfl
              have hfz92_0 := blk_frozen BK940.out 0
              have hfz92_1 := blk_frozen BK940.out 1
              have hfz92_2 := blk_frozen BK940.out 2
              have hfz92_3 := blk_frozen BK940.out 3
              have hfz92_4 := blk_frozen BK940.out 4
              obtain ⟨Ao93, co93, eo93⟩ := Kd.R_slice HO_9.out
              subst eo93
              go_wp2_with (first | (go_at_call 40; (with_reducible refine (zero_Value.calls k3 a0 _ _ l1_0 _ _ x9_3 a2_0 a2_1 0 1 t959 t960 t961 _ ?side1 ?side2 ?side3 ?side4 A69.out).mono ?_); (case side1 => repeat (first | exact (Kd.C_below HR1_0.out HB.out) | (with_reducible refine Kd.C_alloc ?_ _) | (with_reducible refine Kd.C_drewN ?_ _) | (with_reducible refine Kd.C_drew ?_))); (case side2 => exact HC1_0.out); (case side3 => repeat (first | exact (Kd.R_reads' HO_9.out).2.2 | (with_reducible refine Kd.C_alloc ?_ _) | (with_reducible refine Kd.C_drewN ?_ _) | (with_reducible refine Kd.C_drew ?_))); (case side4 => exact (Kd.R_reads' HO_9.out).2.1); rintro e w94 ⟨rfl, hb⟩; have n0_ := Aside0.mk (Kd.R_below (by exact rF HO_9.out) hb); have n1_ := Aside0.mk (blk_below (g := gb939) (o := .cells #[.slice A1_0 l1_0.length c1_0, .slice (some ad944) l1_1.length c1_1] 59 (0, 0)) (by exact bF BK939.out) hb); have n2_ := Aside0.mk (blk_below (g := gb940) (o := .cells #[.int .u64 a2_0, .int .u64 a2_1, .slice A2_2 l2_2.length c2_2, .int .u64 a2_3, .int .u64 a2_4] 61 (0, 0)) (by exact bF BK940.out) hb); have n3_ := Aside0.mk (blk_below (g := gb952) (o := .cells #[.int .u64 t949, .int .u64 t950] 28 (0, 0)) (by exact bF BK952.out) hb); have n4_ := Aside0.mk (below_step (by repeat (first | (with_reducible first | exact HB.out | apply bA | apply bN | apply bD | refine bS ?_ GE939.out | refine bS ?_ GE940.out | refine bS ?_ GE952.out) | exact HB.out)) hb); clear HO_9; clear BK939; clear BK940; clear BK952; clear HB; have HO_9 := n0_; have BK939 := n1_; have BK940 := n2_; have BK952 := n3_; have HB := n4_; clear n0_ n1_ n2_ n3_ n4_; (try clear hb); (try clear hb2); (try clear hk); (try clear hi)) | ((with_reducible refine gate_dst (N := 14) rfl ?_); (try (refine gate_guard (by rfl) ?_; dsimp only)); refine box_event ?hg (N := 14) ?hd (cs := #[.int .u64 0, .int .u64 0]) (t := 28) ?hr ?_; (case hd => rfl); (case hg => rfl); (case hr => first | (go_simp; done) | (go_simp; rfl)); intro gb962 hg w95 hbox hb; have n0_ := Aside0.mk (Kd.R_below (Kd.R_elderB (by exact rF HO_9.out) gb962 (Nat.le_of_eq hg.symm)) hb); have n1_ := Aside0.mk (blk_below (g := gb939) (o := .cells #[.slice A1_0 l1_0.length c1_0, .slice (some ad944) l1_1.length c1_1] 59 (0, 0)) (by exact bF BK939.out) hb); have n2_ := Aside0.mk (blk_below (g := gb940) (o := .cells #[.int .u64 a2_0, .int .u64 a2_1, .slice A2_2 l2_2.length c2_2, .int .u64 a2_3, .int .u64 a2_4] 61 (0, 0)) (by exact bF BK940.out) hb); have n3_ := Aside0.mk (blk_below (g := gb952) (o := .cells #[.int .u64 t949, .int .u64 t950] 28 (0, 0)) (by exact bF BK952.out) hb); have n4_ := Aside0.mk (below_step (by repeat (first | (with_reducible first | exact HB.out | apply bA | apply bN | apply bD | refine bS ?_ GE939.out | refine bS ?_ GE940.out | refine bS ?_ GE952.out) | exact HB.out)) hb); have n5_ := Aside0.mk (hbox); have n6_ := Aside0.mk ((by rw [hg]; exact (below_size (by repeat (first | (with_reducible first | exact HB.out | apply bA | apply bN | apply bD | refine bS ?_ GE939.out | refine bS ?_ GE940.out | refine bS ?_ GE952.out) | exact HB.out))) : w.heap.size ≤ gb962)); have n7_ := Aside0.mk ((by rw [hg]; exact (below_size (by repeat (first | (with_reducible first | exact HB.out | apply bA | apply bN | apply bD | refine bS ?_ GE939.out | refine bS ?_ GE940.out | refine bS ?_ GE952.out) | exact HB.out))) : w.heap.size ≤ gb962)); have n8_ := Aside0.mk ((by rw [hg]; exact Nat.ne_of_lt (blk_lt (g := gb939) (o := .cells #[.slice A1_0 l1_0.length c1_0, .slice (some ad944) l1_1.length c1_1] 59 (0, 0)) (by exact bF BK939.out)) : gb939 ≠ gb962)); have n9_ := Aside0.mk ((by rw [hg]; exact Nat.ne_of_gt (blk_lt (g := gb939) (o := .cells #[.slice A1_0 l1_0.length c1_0, .slice (some ad944) l1_1.length c1_1] 59 (0, 0)) (by exact bF BK939.out)) : gb962 ≠ gb939)); have n10_ := Aside0.mk ((by rw [hg]; exact Nat.ne_of_lt (blk_lt (g := gb940) (o := .cells #[.int .u64 a2_0, .int .u64 a2_1, .slice A2_2 l2_2.length c2_2, .int .u64 a2_3, .int .u64 a2_4] 61 (0, 0)) (by exact bF BK940.out)) : gb940 ≠ gb962)); have n11_ := Aside0.mk ((by rw [hg]; exact Nat.ne_of_gt (blk_lt (g := gb940) (o := .cells #[.int .u64 a2_0, .int .u64 a2_1, .slice A2_2 l2_2.length c2_2, .int .u64 a2_3, .int .u64 a2_4] 61 (0, 0)) (by exact bF BK940.out)) : gb962 ≠ gb940)); have n12_ := Aside0.mk ((by rw [hg]; exact Nat.ne_of_lt (blk_lt (g := gb952) (o := .cells #[.int .u64 t949, .int .u64 t950] 28 (0, 0)) (by exact bF BK952.out)) : gb952 ≠ gb962)); have n13_ := Aside0.mk ((by rw [hg]; exact Nat.ne_of_gt (blk_lt (g := gb952) (o := .cells #[.int .u64 t949, .int .u64 t950] 28 (0, 0)) (by exact bF BK952.out)) : gb962 ≠ gb952)); clear HO_9; clear BK939; clear BK940; clear BK952; clear HB; have HO_9 := n0_; have BK939 := n1_; have BK940 := n2_; have BK952 := n3_; have HB := n4_; have BK962 := n5_; have GW962 := n6_; have GE962 := n7_; have NB939_962 := n8_; have NB962_939 := n9_; have NB940_962 := n10_; have NB962_940 := n11_; have NB952_962 := n12_; have NB962_952 := n13_; clear n0_ n1_ n2_ n3_ n4_ n5_ n6_ n7_ n8_ n9_ n10_ n11_ n12_ n13_; clear hb hbox hg; have hnb96 := NB962_939.out; have hnc96 := NB939_962.out; have hnb97 := NB962_940.out; have hnc97 := NB940_962.out; have hnb98 := NB962_952.out; have hnc98 := NB952_962.out; have hcz99_0 : w95.cell? ⟨gb962, 0, none⟩ = some (.int .u64 0) := (blk_cell BK962.out 0).trans rfl; have hcz99_1 : w95.cell? ⟨gb962, 1, none⟩ = some (.int .u64 0) := (blk_cell BK962.out 1).trans rfl; have hfz99_0 := blk_frozen BK962.out 0; have hfz99_1 := blk_frozen BK962.out 1) | (go_at_call 29; (with_reducible refine (steeplelaw21_awake.calls k3  true _ A70.out).mono ?_); rintro e w100 ⟨rfl, hb⟩; have n0_ := Aside0.mk (Kd.R_below (by (with_reducible repeat (first | apply Kd.R_alloc | apply Kd.R_drewN | apply Kd.R_drew)); exact (Kd.R_mono (Kd.R_far (p := ⟨gb962, 1, none⟩) (Kd.R_far (p := ⟨gb962, 0, none⟩) (Kd.R_mono HO_9.out (fun k_ hk => (⟨hk, hk.2⟩ : _ ∧ k_ ≠ gb962))) (fun _ hk => hk.2) (.int .u64 t959)) (fun _ hk => hk.2) (.int .u64 t960)) (fun _ h_ => h_.1))) hb); have n1_ := Aside0.mk (blk_below (g := gb939) (o := .cells #[.slice A1_0 l1_0.length c1_0, .slice (some ad944) l1_1.length c1_1] 59 (0, 0)) (by (with_reducible repeat (first | refine blk_drewN ?_ _ | refine blk_drew ?_ | refine blk_alloc ?_ _)); refine blk_far ?_ NB939_962.out _; (with_reducible repeat (first | refine blk_drewN ?_ _ | refine blk_drew ?_ | refine blk_alloc ?_ _)); refine blk_far ?_ NB939_962.out _; exact bF BK939.out) hb); have n2_ := Aside0.mk (blk_below (g := gb940) (o := .cells #[.int .u64 a2_0, .int .u64 a2_1, .slice A2_2 l2_2.length c2_2, .int .u64 a2_3, .int .u64 a2_4] 61 (0, 0)) (by (with_reducible repeat (first | refine blk_drewN ?_ _ | refine blk_drew ?_ | refine blk_alloc ?_ _)); refine blk_far ?_ NB940_962.out _; (with_reducible repeat (first | refine blk_drewN ?_ _ | refine blk_drew ?_ | refine blk_alloc ?_ _)); refine blk_far ?_ NB940_962.out _; exact bF BK940.out) hb); have n3_ := Aside0.mk (blk_below (g := gb952) (o := .cells #[.int .u64 t949, .int .u64 t950] 28 (0, 0)) (by (with_reducible repeat (first | refine blk_drewN ?_ _ | refine blk_drew ?_ | refine blk_alloc ?_ _)); refine blk_far ?_ NB952_962.out _; (with_reducible repeat (first | refine blk_drewN ?_ _ | refine blk_drew ?_ | refine blk_alloc ?_ _)); refine blk_far ?_ NB952_962.out _; exact bF BK952.out) hb); have n4_ := Aside0.mk (blk_below (g := gb962) (o := .cells #[.int .u64 t959, .int .u64 t960] 28 (0, 0)) (by (with_reducible repeat (first | refine blk_drewN ?_ _ | refine blk_drew ?_ | refine blk_alloc ?_ _)); refine blk_put (cs := #[.int .u64 t959, .int .u64 0]) ?_ 1 _ rfl; (with_reducible repeat (first | refine blk_drewN ?_ _ | refine blk_drew ?_ | refine blk_alloc ?_ _)); refine blk_put (cs := #[.int .u64 0, .int .u64 0]) ?_ 0 _ rfl; exact bF BK962.out) hb); have n5_ := Aside0.mk (below_step (by repeat (first | (with_reducible first | exact HB.out | apply bA | apply bN | apply bD | refine bS ?_ GE939.out | refine bS ?_ GE940.out | refine bS ?_ GE952.out | refine bS ?_ GE962.out) | exact HB.out)) hb); clear HO_9; clear BK939; clear BK940; clear BK952; clear BK962; clear HB; have HO_9 := n0_; have BK939 := n1_; have BK940 := n2_; have BK952 := n3_; have BK962 := n4_; have HB := n5_; clear n0_ n1_ n2_ n3_ n4_ n5_; (try clear hb); (try clear hb2); (try clear hk); (try clear hi)))
              repeat (go_quiet (first | (go_at_call 40; (with_reducible refine (zero_Value.calls k3 a0 _ _ l1_0 _ _ x9_3 a2_0 a2_1 0 1 t959 t960 t961 _ ?side1 ?side2 ?side3 ?side4 A69.out).mono ?_); (case side1 => repeat (first | exact (Kd.C_below HR1_0.out HB.out) | (with_reducible refine Kd.C_alloc ?_ _) | (with_reducible refine Kd.C_drewN ?_ _) | (with_reducible refine Kd.C_drew ?_))); (case side2 => exact HC1_0.out); (case side3 => repeat (first | exact (Kd.R_reads' HO_9.out).2.2 | (with_reducible refine Kd.C_alloc ?_ _) | (with_reducible refine Kd.C_drewN ?_ _) | (with_reducible refine Kd.C_drew ?_))); (case side4 => exact (Kd.R_reads' HO_9.out).2.1); rintro e w94 ⟨rfl, hb⟩; have n0_ := Aside0.mk (Kd.R_below (by exact rF HO_9.out) hb); have n1_ := Aside0.mk (blk_below (g := gb939) (o := .cells #[.slice A1_0 l1_0.length c1_0, .slice (some ad944) l1_1.length c1_1] 59 (0, 0)) (by exact bF BK939.out) hb); have n2_ := Aside0.mk (blk_below (g := gb940) (o := .cells #[.int .u64 a2_0, .int .u64 a2_1, .slice A2_2 l2_2.length c2_2, .int .u64 a2_3, .int .u64 a2_4] 61 (0, 0)) (by exact bF BK940.out) hb); have n3_ := Aside0.mk (blk_below (g := gb952) (o := .cells #[.int .u64 t949, .int .u64 t950] 28 (0, 0)) (by exact bF BK952.out) hb); have n4_ := Aside0.mk (below_step (by repeat (first | (with_reducible first | exact HB.out | apply bA | apply bN | apply bD | refine bS ?_ GE939.out | refine bS ?_ GE940.out | refine bS ?_ GE952.out) | exact HB.out)) hb); clear HO_9; clear BK939; clear BK940; clear BK952; clear HB; have HO_9 := n0_; have BK939 := n1_; have BK940 := n2_; have BK952 := n3_; have HB := n4_; clear n0_ n1_ n2_ n3_ n4_; (try clear hb); (try clear hb2); (try clear hk); (try clear hi)) | ((with_reducible refine gate_dst (N := 14) rfl ?_); (try (refine gate_guard (by rfl) ?_; dsimp only)); refine box_event ?hg (N := 14) ?hd (cs := #[.int .u64 0, .int .u64 0]) (t := 28) ?hr ?_; (case hd => rfl); (case hg => rfl); (case hr => first | (go_simp; done) | (go_simp; rfl)); intro gb962 hg w95 hbox hb; have n0_ := Aside0.mk (Kd.R_below (Kd.R_elderB (by exact rF HO_9.out) gb962 (Nat.le_of_eq hg.symm)) hb); have n1_ := Aside0.mk (blk_below (g := gb939) (o := .cells #[.slice A1_0 l1_0.length c1_0, .slice (some ad944) l1_1.length c1_1] 59 (0, 0)) (by exact bF BK939.out) hb); have n2_ := Aside0.mk (blk_below (g := gb940) (o := .cells #[.int .u64 a2_0, .int .u64 a2_1, .slice A2_2 l2_2.length c2_2, .int .u64 a2_3, .int .u64 a2_4] 61 (0, 0)) (by exact bF BK940.out) hb); have n3_ := Aside0.mk (blk_below (g := gb952) (o := .cells #[.int .u64 t949, .int .u64 t950] 28 (0, 0)) (by exact bF BK952.out) hb); have n4_ := Aside0.mk (below_step (by repeat (first | (with_reducible first | exact HB.out | apply bA | apply bN | apply bD | refine bS ?_ GE939.out | refine bS ?_ GE940.out | refine bS ?_ GE952.out) | exact HB.out)) hb); have n5_ := Aside0.mk (hbox); have n6_ := Aside0.mk ((by rw [hg]; exact (below_size (by repeat (first | (with_reducible first | exact HB.out | apply bA | apply bN | apply bD | refine bS ?_ GE939.out | refine bS ?_ GE940.out | refine bS ?_ GE952.out) | exact HB.out))) : w.heap.size ≤ gb962)); have n7_ := Aside0.mk ((by rw [hg]; exact (below_size (by repeat (first | (with_reducible first | exact HB.out | apply bA | apply bN | apply bD | refine bS ?_ GE939.out | refine bS ?_ GE940.out | refine bS ?_ GE952.out) | exact HB.out))) : w.heap.size ≤ gb962)); have n8_ := Aside0.mk ((by rw [hg]; exact Nat.ne_of_lt (blk_lt (g := gb939) (o := .cells #[.slice A1_0 l1_0.length c1_0, .slice (some ad944) l1_1.length c1_1] 59 (0, 0)) (by exact bF BK939.out)) : gb939 ≠ gb962)); have n9_ := Aside0.mk ((by rw [hg]; exact Nat.ne_of_gt (blk_lt (g := gb939) (o := .cells #[.slice A1_0 l1_0.length c1_0, .slice (some ad944) l1_1.length c1_1] 59 (0, 0)) (by exact bF BK939.out)) : gb962 ≠ gb939)); have n10_ := Aside0.mk ((by rw [hg]; exact Nat.ne_of_lt (blk_lt (g := gb940) (o := .cells #[.int .u64 a2_0, .int .u64 a2_1, .slice A2_2 l2_2.length c2_2, .int .u64 a2_3, .int .u64 a2_4] 61 (0, 0)) (by exact bF BK940.out)) : gb940 ≠ gb962)); have n11_ := Aside0.mk ((by rw [hg]; exact Nat.ne_of_gt (blk_lt (g := gb940) (o := .cells #[.int .u64 a2_0, .int .u64 a2_1, .slice A2_2 l2_2.length c2_2, .int .u64 a2_3, .int .u64 a2_4] 61 (0, 0)) (by exact bF BK940.out)) : gb962 ≠ gb940)); have n12_ := Aside0.mk ((by rw [hg]; exact Nat.ne_of_lt (blk_lt (g := gb952) (o := .cells #[.int .u64 t949, .int .u64 t950] 28 (0, 0)) (by exact bF BK952.out)) : gb952 ≠ gb962)); have n13_ := Aside0.mk ((by rw [hg]; exact Nat.ne_of_gt (blk_lt (g := gb952) (o := .cells #[.int .u64 t949, .int .u64 t950] 28 (0, 0)) (by exact bF BK952.out)) : gb962 ≠ gb952)); clear HO_9; clear BK939; clear BK940; clear BK952; clear HB; have HO_9 := n0_; have BK939 := n1_; have BK940 := n2_; have BK952 := n3_; have HB := n4_; have BK962 := n5_; have GW962 := n6_; have GE962 := n7_; have NB939_962 := n8_; have NB962_939 := n9_; have NB940_962 := n10_; have NB962_940 := n11_; have NB952_962 := n12_; have NB962_952 := n13_; clear n0_ n1_ n2_ n3_ n4_ n5_ n6_ n7_ n8_ n9_ n10_ n11_ n12_ n13_; clear hb hbox hg; have hnb96 := NB962_939.out; have hnc96 := NB939_962.out; have hnb97 := NB962_940.out; have hnc97 := NB940_962.out; have hnb98 := NB962_952.out; have hnc98 := NB952_962.out; have hcz99_0 : w95.cell? ⟨gb962, 0, none⟩ = some (.int .u64 0) := (blk_cell BK962.out 0).trans rfl; have hcz99_1 : w95.cell? ⟨gb962, 1, none⟩ = some (.int .u64 0) := (blk_cell BK962.out 1).trans rfl; have hfz99_0 := blk_frozen BK962.out 0; have hfz99_1 := blk_frozen BK962.out 1) | (go_at_call 29; (with_reducible refine (steeplelaw21_awake.calls k3  true _ A70.out).mono ?_); rintro e w100 ⟨rfl, hb⟩; have n0_ := Aside0.mk (Kd.R_below (by (with_reducible repeat (first | apply Kd.R_alloc | apply Kd.R_drewN | apply Kd.R_drew)); exact (Kd.R_mono (Kd.R_far (p := ⟨gb962, 1, none⟩) (Kd.R_far (p := ⟨gb962, 0, none⟩) (Kd.R_mono HO_9.out (fun k_ hk => (⟨hk, hk.2⟩ : _ ∧ k_ ≠ gb962))) (fun _ hk => hk.2) (.int .u64 t959)) (fun _ hk => hk.2) (.int .u64 t960)) (fun _ h_ => h_.1))) hb); have n1_ := Aside0.mk (blk_below (g := gb939) (o := .cells #[.slice A1_0 l1_0.length c1_0, .slice (some ad944) l1_1.length c1_1] 59 (0, 0)) (by (with_reducible repeat (first | refine blk_drewN ?_ _ | refine blk_drew ?_ | refine blk_alloc ?_ _)); refine blk_far ?_ NB939_962.out _; (with_reducible repeat (first | refine blk_drewN ?_ _ | refine blk_drew ?_ | refine blk_alloc ?_ _)); refine blk_far ?_ NB939_962.out _; exact bF BK939.out) hb); have n2_ := Aside0.mk (blk_below (g := gb940) (o := .cells #[.int .u64 a2_0, .int .u64 a2_1, .slice A2_2 l2_2.length c2_2, .int .u64 a2_3, .int .u64 a2_4] 61 (0, 0)) (by (with_reducible repeat (first | refine blk_drewN ?_ _ | refine blk_drew ?_ | refine blk_alloc ?_ _)); refine blk_far ?_ NB940_962.out _; (with_reducible repeat (first | refine blk_drewN ?_ _ | refine blk_drew ?_ | refine blk_alloc ?_ _)); refine blk_far ?_ NB940_962.out _; exact bF BK940.out) hb); have n3_ := Aside0.mk (blk_below (g := gb952) (o := .cells #[.int .u64 t949, .int .u64 t950] 28 (0, 0)) (by (with_reducible repeat (first | refine blk_drewN ?_ _ | refine blk_drew ?_ | refine blk_alloc ?_ _)); refine blk_far ?_ NB952_962.out _; (with_reducible repeat (first | refine blk_drewN ?_ _ | refine blk_drew ?_ | refine blk_alloc ?_ _)); refine blk_far ?_ NB952_962.out _; exact bF BK952.out) hb); have n4_ := Aside0.mk (blk_below (g := gb962) (o := .cells #[.int .u64 t959, .int .u64 t960] 28 (0, 0)) (by (with_reducible repeat (first | refine blk_drewN ?_ _ | refine blk_drew ?_ | refine blk_alloc ?_ _)); refine blk_put (cs := #[.int .u64 t959, .int .u64 0]) ?_ 1 _ rfl; (with_reducible repeat (first | refine blk_drewN ?_ _ | refine blk_drew ?_ | refine blk_alloc ?_ _)); refine blk_put (cs := #[.int .u64 0, .int .u64 0]) ?_ 0 _ rfl; exact bF BK962.out) hb); have n5_ := Aside0.mk (below_step (by repeat (first | (with_reducible first | exact HB.out | apply bA | apply bN | apply bD | refine bS ?_ GE939.out | refine bS ?_ GE940.out | refine bS ?_ GE952.out | refine bS ?_ GE962.out) | exact HB.out)) hb); clear HO_9; clear BK939; clear BK940; clear BK952; clear BK962; clear HB; have HO_9 := n0_; have BK939 := n1_; have BK940 := n2_; have BK952 := n3_; have BK962 := n4_; have HB := n5_; clear n0_ n1_ n2_ n3_ n4_ n5_; (try clear hb); (try clear hb2); (try clear hk); (try clear hi))); try go_wp2_with (first | (go_at_call 40; (with_reducible refine (zero_Value.calls k3 a0 _ _ l1_0 _ _ x9_3 a2_0 a2_1 0 1 t959 t960 t961 _ ?side1 ?side2 ?side3 ?side4 A69.out).mono ?_); (case side1 => repeat (first | exact (Kd.C_below HR1_0.out HB.out) | (with_reducible refine Kd.C_alloc ?_ _) | (with_reducible refine Kd.C_drewN ?_ _) | (with_reducible refine Kd.C_drew ?_))); (case side2 => exact HC1_0.out); (case side3 => repeat (first | exact (Kd.R_reads' HO_9.out).2.2 | (with_reducible refine Kd.C_alloc ?_ _) | (with_reducible refine Kd.C_drewN ?_ _) | (with_reducible refine Kd.C_drew ?_))); (case side4 => exact (Kd.R_reads' HO_9.out).2.1); rintro e w94 ⟨rfl, hb⟩; have n0_ := Aside0.mk (Kd.R_below (by exact rF HO_9.out) hb); have n1_ := Aside0.mk (blk_below (g := gb939) (o := .cells #[.slice A1_0 l1_0.length c1_0, .slice (some ad944) l1_1.length c1_1] 59 (0, 0)) (by exact bF BK939.out) hb); have n2_ := Aside0.mk (blk_below (g := gb940) (o := .cells #[.int .u64 a2_0, .int .u64 a2_1, .slice A2_2 l2_2.length c2_2, .int .u64 a2_3, .int .u64 a2_4] 61 (0, 0)) (by exact bF BK940.out) hb); have n3_ := Aside0.mk (blk_below (g := gb952) (o := .cells #[.int .u64 t949, .int .u64 t950] 28 (0, 0)) (by exact bF BK952.out) hb); have n4_ := Aside0.mk (below_step (by repeat (first | (with_reducible first | exact HB.out | apply bA | apply bN | apply bD | refine bS ?_ GE939.out | refine bS ?_ GE940.out | refine bS ?_ GE952.out) | exact HB.out)) hb); clear HO_9; clear BK939; clear BK940; clear BK952; clear HB; have HO_9 := n0_; have BK939 := n1_; have BK940 := n2_; have BK952 := n3_; have HB := n4_; clear n0_ n1_ n2_ n3_ n4_; (try clear hb); (try clear hb2); (try clear hk); (try clear hi)) | ((with_reducible refine gate_dst (N := 14) rfl ?_); (try (refine gate_guard (by rfl) ?_; dsimp only)); refine box_event ?hg (N := 14) ?hd (cs := #[.int .u64 0, .int .u64 0]) (t := 28) ?hr ?_; (case hd => rfl); (case hg => rfl); (case hr => first | (go_simp; done) | (go_simp; rfl)); intro gb962 hg w95 hbox hb; have n0_ := Aside0.mk (Kd.R_below (Kd.R_elderB (by exact rF HO_9.out) gb962 (Nat.le_of_eq hg.symm)) hb); have n1_ := Aside0.mk (blk_below (g := gb939) (o := .cells #[.slice A1_0 l1_0.length c1_0, .slice (some ad944) l1_1.length c1_1] 59 (0, 0)) (by exact bF BK939.out) hb); have n2_ := Aside0.mk (blk_below (g := gb940) (o := .cells #[.int .u64 a2_0, .int .u64 a2_1, .slice A2_2 l2_2.length c2_2, .int .u64 a2_3, .int .u64 a2_4] 61 (0, 0)) (by exact bF BK940.out) hb); have n3_ := Aside0.mk (blk_below (g := gb952) (o := .cells #[.int .u64 t949, .int .u64 t950] 28 (0, 0)) (by exact bF BK952.out) hb); have n4_ := Aside0.mk (below_step (by repeat (first | (with_reducible first | exact HB.out | apply bA | apply bN | apply bD | refine bS ?_ GE939.out | refine bS ?_ GE940.out | refine bS ?_ GE952.out) | exact HB.out)) hb); have n5_ := Aside0.mk (hbox); have n6_ := Aside0.mk ((by rw [hg]; exact (below_size (by repeat (first | (with_reducible first | exact HB.out | apply bA | apply bN | apply bD | refine bS ?_ GE939.out | refine bS ?_ GE940.out | refine bS ?_ GE952.out) | exact HB.out))) : w.heap.size ≤ gb962)); have n7_ := Aside0.mk ((by rw [hg]; exact (below_size (by repeat (first | (with_reducible first | exact HB.out | apply bA | apply bN | apply bD | refine bS ?_ GE939.out | refine bS ?_ GE940.out | refine bS ?_ GE952.out) | exact HB.out))) : w.heap.size ≤ gb962)); have n8_ := Aside0.mk ((by rw [hg]; exact Nat.ne_of_lt (blk_lt (g := gb939) (o := .cells #[.slice A1_0 l1_0.length c1_0, .slice (some ad944) l1_1.length c1_1] 59 (0, 0)) (by exact bF BK939.out)) : gb939 ≠ gb962)); have n9_ := Aside0.mk ((by rw [hg]; exact Nat.ne_of_gt (blk_lt (g := gb939) (o := .cells #[.slice A1_0 l1_0.length c1_0, .slice (some ad944) l1_1.length c1_1] 59 (0, 0)) (by exact bF BK939.out)) : gb962 ≠ gb939)); have n10_ := Aside0.mk ((by rw [hg]; exact Nat.ne_of_lt (blk_lt (g := gb940) (o := .cells #[.int .u64 a2_0, .int .u64 a2_1, .slice A2_2 l2_2.length c2_2, .int .u64 a2_3, .int .u64 a2_4] 61 (0, 0)) (by exact bF BK940.out)) : gb940 ≠ gb962)); have n11_ := Aside0.mk ((by rw [hg]; exact Nat.ne_of_gt (blk_lt (g := gb940) (o := .cells #[.int .u64 a2_0, .int .u64 a2_1, .slice A2_2 l2_2.length c2_2, .int .u64 a2_3, .int .u64 a2_4] 61 (0, 0)) (by exact bF BK940.out)) : gb962 ≠ gb940)); have n12_ := Aside0.mk ((by rw [hg]; exact Nat.ne_of_lt (blk_lt (g := gb952) (o := .cells #[.int .u64 t949, .int .u64 t950] 28 (0, 0)) (by exact bF BK952.out)) : gb952 ≠ gb962)); have n13_ := Aside0.mk ((by rw [hg]; exact Nat.ne_of_gt (blk_lt (g := gb952) (o := .cells #[.int .u64 t949, .int .u64 t950] 28 (0, 0)) (by exact bF BK952.out)) : gb962 ≠ gb952)); clear HO_9; clear BK939; clear BK940; clear BK952; clear HB; have HO_9 := n0_; have BK939 := n1_; have BK940 := n2_; have BK952 := n3_; have HB := n4_; have BK962 := n5_; have GW962 := n6_; have GE962 := n7_; have NB939_962 := n8_; have NB962_939 := n9_; have NB940_962 := n10_; have NB962_940 := n11_; have NB952_962 := n12_; have NB962_952 := n13_; clear n0_ n1_ n2_ n3_ n4_ n5_ n6_ n7_ n8_ n9_ n10_ n11_ n12_ n13_; clear hb hbox hg; have hnb96 := NB962_939.out; have hnc96 := NB939_962.out; have hnb97 := NB962_940.out; have hnc97 := NB940_962.out; have hnb98 := NB962_952.out; have hnc98 := NB952_962.out; have hcz99_0 : w95.cell? ⟨gb962, 0, none⟩ = some (.int .u64 0) := (blk_cell BK962.out 0).trans rfl; have hcz99_1 : w95.cell? ⟨gb962, 1, none⟩ = some (.int .u64 0) := (blk_cell BK962.out 1).trans rfl; have hfz99_0 := blk_frozen BK962.out 0; have hfz99_1 := blk_frozen BK962.out 1) | (go_at_call 29; (with_reducible refine (steeplelaw21_awake.calls k3  true _ A70.out).mono ?_); rintro e w100 ⟨rfl, hb⟩; have n0_ := Aside0.mk (Kd.R_below (by (with_reducible repeat (first | apply Kd.R_alloc | apply Kd.R_drewN | apply Kd.R_drew)); exact (Kd.R_mono (Kd.R_far (p := ⟨gb962, 1, none⟩) (Kd.R_far (p := ⟨gb962, 0, none⟩) (Kd.R_mono HO_9.out (fun k_ hk => (⟨hk, hk.2⟩ : _ ∧ k_ ≠ gb962))) (fun _ hk => hk.2) (.int .u64 t959)) (fun _ hk => hk.2) (.int .u64 t960)) (fun _ h_ => h_.1))) hb); have n1_ := Aside0.mk (blk_below (g := gb939) (o := .cells #[.slice A1_0 l1_0.length c1_0, .slice (some ad944) l1_1.length c1_1] 59 (0, 0)) (by (with_reducible repeat (first | refine blk_drewN ?_ _ | refine blk_drew ?_ | refine blk_alloc ?_ _)); refine blk_far ?_ NB939_962.out _; (with_reducible repeat (first | refine blk_drewN ?_ _ | refine blk_drew ?_ | refine blk_alloc ?_ _)); refine blk_far ?_ NB939_962.out _; exact bF BK939.out) hb); have n2_ := Aside0.mk (blk_below (g := gb940) (o := .cells #[.int .u64 a2_0, .int .u64 a2_1, .slice A2_2 l2_2.length c2_2, .int .u64 a2_3, .int .u64 a2_4] 61 (0, 0)) (by (with_reducible repeat (first | refine blk_drewN ?_ _ | refine blk_drew ?_ | refine blk_alloc ?_ _)); refine blk_far ?_ NB940_962.out _; (with_reducible repeat (first | refine blk_drewN ?_ _ | refine blk_drew ?_ | refine blk_alloc ?_ _)); refine blk_far ?_ NB940_962.out _; exact bF BK940.out) hb); have n3_ := Aside0.mk (blk_below (g := gb952) (o := .cells #[.int .u64 t949, .int .u64 t950] 28 (0, 0)) (by (with_reducible repeat (first | refine blk_drewN ?_ _ | refine blk_drew ?_ | refine blk_alloc ?_ _)); refine blk_far ?_ NB952_962.out _; (with_reducible repeat (first | refine blk_drewN ?_ _ | refine blk_drew ?_ | refine blk_alloc ?_ _)); refine blk_far ?_ NB952_962.out _; exact bF BK952.out) hb); have n4_ := Aside0.mk (blk_below (g := gb962) (o := .cells #[.int .u64 t959, .int .u64 t960] 28 (0, 0)) (by (with_reducible repeat (first | refine blk_drewN ?_ _ | refine blk_drew ?_ | refine blk_alloc ?_ _)); refine blk_put (cs := #[.int .u64 t959, .int .u64 0]) ?_ 1 _ rfl; (with_reducible repeat (first | refine blk_drewN ?_ _ | refine blk_drew ?_ | refine blk_alloc ?_ _)); refine blk_put (cs := #[.int .u64 0, .int .u64 0]) ?_ 0 _ rfl; exact bF BK962.out) hb); have n5_ := Aside0.mk (below_step (by repeat (first | (with_reducible first | exact HB.out | apply bA | apply bN | apply bD | refine bS ?_ GE939.out | refine bS ?_ GE940.out | refine bS ?_ GE952.out | refine bS ?_ GE962.out) | exact HB.out)) hb); clear HO_9; clear BK939; clear BK940; clear BK952; clear BK962; clear HB; have HO_9 := n0_; have BK939 := n1_; have BK940 := n2_; have BK952 := n3_; have BK962 := n4_; have HB := n5_; clear n0_ n1_ n2_ n3_ n4_ n5_; (try clear hb); (try clear hb2); (try clear hk); (try clear hi))))
              go_ret
              exact ⟨by first | rfl | (simp [errW_none, errW_some] <;> rfl) | (simp [*, errW_none, errW_some] <;> rfl), by repeat (first | (with_reducible first | exact HB.out | apply bA | apply bN | apply bD | refine bS ?_ GE939.out | refine bS ?_ GE940.out | refine bS ?_ GE952.out | refine bS ?_ GE962.out) | exact HB.out)⟩
            ·replace c71 := Bool.eq_false_iff.mpr c71
             subst c71
             have H1 : (some false) = some r := by rw [if_neg (show ¬ (false = true) by decide)] at H; exact H
             clear H
             have H := H1
             clear H1
             obtain rfl := Option.some.inj H
             have hnb101 := NB939_940.out
             have hnc101 := NB940_939.out
             have hnb102 := NB939_952.out
             have hnc102 := NB952_939.out
             have hcz103_0 : wr.cell? ⟨gb939, 0, none⟩ = some (.slice A1_0 l1_0.length c1_0) := (blk_cell BK939.out 0).trans rfl
             have hcz103_1 : wr.cell? ⟨gb939, 1, none⟩ = some (.slice (some ad944) l1_1.length c1_1) := (blk_cell BK939.out 1).trans rfl
             have hfz103_0 := blk_frozen BK939.out 0
             have hfz103_1 := blk_frozen BK939.out 1
             have hnb104 := NB940_952.out
             have hnc104 := NB952_940.out
             have hcz105_0 : wr.cell? ⟨gb940, 0, none⟩ = some (.int .u64 a2_0) := (blk_cell BK940.out 0).trans rfl
             have hcz105_1 : wr.cell? ⟨gb940, 1, none⟩ = some (.int .u64 a2_1) := (blk_cell BK940.out 1).trans rfl
             have hcz105_2 : wr.cell? ⟨gb940, 2, none⟩ = some (.slice A2_2 l2_2.length c2_2) := (blk_cell BK940.out 2).trans rfl
             have hcz105_3 : wr.cell? ⟨gb940, 3, none⟩ = some (.int .u64 a2_3) := (blk_cell BK940.out 3).trans rfl
             have hcz105_4 : wr.cell? ⟨gb940, 4, none⟩ = some (.int .u64 a2_4) := (blk_cell BK940.out 4).trans rfl
             have hfz105_0 := blk_frozen BK940.out 0
             have hfz105_1 := blk_frozen BK940.out 1
             have hfz105_2 := blk_frozen BK940.out 2
             have hfz105_3 := blk_frozen BK940.out 3
             have hfz105_4 := blk_frozen BK940.out 4
             obtain ⟨Ao106, co106, eo106⟩ := Kd.R_slice HO_9.out
             subst eo106
             go_wp2_with (first | (go_at_call 40; (with_reducible refine (zero_Value.calls k3 a0 _ _ l1_0 _ _ x9_3 a2_0 a2_1 0 1 t959 t960 t961 _ ?side1 ?side2 ?side3 ?side4 A69.out).mono ?_); (case side1 => repeat (first | exact (Kd.C_below HR1_0.out HB.out) | (with_reducible refine Kd.C_alloc ?_ _) | (with_reducible refine Kd.C_drewN ?_ _) | (with_reducible refine Kd.C_drew ?_))); (case side2 => exact HC1_0.out); (case side3 => repeat (first | exact (Kd.R_reads' HO_9.out).2.2 | (with_reducible refine Kd.C_alloc ?_ _) | (with_reducible refine Kd.C_drewN ?_ _) | (with_reducible refine Kd.C_drew ?_))); (case side4 => exact (Kd.R_reads' HO_9.out).2.1); rintro e w107 ⟨rfl, hb⟩; have n0_ := Aside0.mk (Kd.R_below (by exact rF HO_9.out) hb); have n1_ := Aside0.mk (blk_below (g := gb939) (o := .cells #[.slice A1_0 l1_0.length c1_0, .slice (some ad944) l1_1.length c1_1] 59 (0, 0)) (by exact bF BK939.out) hb); have n2_ := Aside0.mk (blk_below (g := gb940) (o := .cells #[.int .u64 a2_0, .int .u64 a2_1, .slice A2_2 l2_2.length c2_2, .int .u64 a2_3, .int .u64 a2_4] 61 (0, 0)) (by exact bF BK940.out) hb); have n3_ := Aside0.mk (blk_below (g := gb952) (o := .cells #[.int .u64 t949, .int .u64 t950] 28 (0, 0)) (by exact bF BK952.out) hb); have n4_ := Aside0.mk (below_step (by repeat (first | (with_reducible first | exact HB.out | apply bA | apply bN | apply bD | refine bS ?_ GE939.out | refine bS ?_ GE940.out | refine bS ?_ GE952.out) | exact HB.out)) hb); clear HO_9; clear BK939; clear BK940; clear BK952; clear HB; have HO_9 := n0_; have BK939 := n1_; have BK940 := n2_; have BK952 := n3_; have HB := n4_; clear n0_ n1_ n2_ n3_ n4_; (try clear hb); (try clear hb2); (try clear hk); (try clear hi)) | ((with_reducible refine gate_dst (N := 14) rfl ?_); (try (refine gate_guard (by rfl) ?_; dsimp only)); refine box_event ?hg (N := 14) ?hd (cs := #[.int .u64 0, .int .u64 0]) (t := 28) ?hr ?_; (case hd => rfl); (case hg => rfl); (case hr => first | (go_simp; done) | (go_simp; rfl)); intro gb962 hg w108 hbox hb; have n0_ := Aside0.mk (Kd.R_below (Kd.R_elderB (by exact rF HO_9.out) gb962 (Nat.le_of_eq hg.symm)) hb); have n1_ := Aside0.mk (blk_below (g := gb939) (o := .cells #[.slice A1_0 l1_0.length c1_0, .slice (some ad944) l1_1.length c1_1] 59 (0, 0)) (by exact bF BK939.out) hb); have n2_ := Aside0.mk (blk_below (g := gb940) (o := .cells #[.int .u64 a2_0, .int .u64 a2_1, .slice A2_2 l2_2.length c2_2, .int .u64 a2_3, .int .u64 a2_4] 61 (0, 0)) (by exact bF BK940.out) hb); have n3_ := Aside0.mk (blk_below (g := gb952) (o := .cells #[.int .u64 t949, .int .u64 t950] 28 (0, 0)) (by exact bF BK952.out) hb); have n4_ := Aside0.mk (below_step (by repeat (first | (with_reducible first | exact HB.out | apply bA | apply bN | apply bD | refine bS ?_ GE939.out | refine bS ?_ GE940.out | refine bS ?_ GE952.out) | exact HB.out)) hb); have n5_ := Aside0.mk (hbox); have n6_ := Aside0.mk ((by rw [hg]; exact (below_size (by repeat (first | (with_reducible first | exact HB.out | apply bA | apply bN | apply bD | refine bS ?_ GE939.out | refine bS ?_ GE940.out | refine bS ?_ GE952.out) | exact HB.out))) : w.heap.size ≤ gb962)); have n7_ := Aside0.mk ((by rw [hg]; exact (below_size (by repeat (first | (with_reducible first | exact HB.out | apply bA | apply bN | apply bD | refine bS ?_ GE939.out | refine bS ?_ GE940.out | refine bS ?_ GE952.out) | exact HB.out))) : w.heap.size ≤ gb962)); have n8_ := Aside0.mk ((by rw [hg]; exact Nat.ne_of_lt (blk_lt (g := gb939) (o := .cells #[.slice A1_0 l1_0.length c1_0, .slice (some ad944) l1_1.length c1_1] 59 (0, 0)) (by exact bF BK939.out)) : gb939 ≠ gb962)); have n9_ := Aside0.mk ((by rw [hg]; exact Nat.ne_of_gt (blk_lt (g := gb939) (o := .cells #[.slice A1_0 l1_0.length c1_0, .slice (some ad944) l1_1.length c1_1] 59 (0, 0)) (by exact bF BK939.out)) : gb962 ≠ gb939)); have n10_ := Aside0.mk ((by rw [hg]; exact Nat.ne_of_lt (blk_lt (g := gb940) (o := .cells #[.int .u64 a2_0, .int .u64 a2_1, .slice A2_2 l2_2.length c2_2, .int .u64 a2_3, .int .u64 a2_4] 61 (0, 0)) (by exact bF BK940.out)) : gb940 ≠ gb962)); have n11_ := Aside0.mk ((by rw [hg]; exact Nat.ne_of_gt (blk_lt (g := gb940) (o := .cells #[.int .u64 a2_0, .int .u64 a2_1, .slice A2_2 l2_2.length c2_2, .int .u64 a2_3, .int .u64 a2_4] 61 (0, 0)) (by exact bF BK940.out)) : gb962 ≠ gb940)); have n12_ := Aside0.mk ((by rw [hg]; exact Nat.ne_of_lt (blk_lt (g := gb952) (o := .cells #[.int .u64 t949, .int .u64 t950] 28 (0, 0)) (by exact bF BK952.out)) : gb952 ≠ gb962)); have n13_ := Aside0.mk ((by rw [hg]; exact Nat.ne_of_gt (blk_lt (g := gb952) (o := .cells #[.int .u64 t949, .int .u64 t950] 28 (0, 0)) (by exact bF BK952.out)) : gb962 ≠ gb952)); clear HO_9; clear BK939; clear BK940; clear BK952; clear HB; have HO_9 := n0_; have BK939 := n1_; have BK940 := n2_; have BK952 := n3_; have HB := n4_; have BK962 := n5_; have GW962 := n6_; have GE962 := n7_; have NB939_962 := n8_; have NB962_939 := n9_; have NB940_962 := n10_; have NB962_940 := n11_; have NB952_962 := n12_; have NB962_952 := n13_; clear n0_ n1_ n2_ n3_ n4_ n5_ n6_ n7_ n8_ n9_ n10_ n11_ n12_ n13_; clear hb hbox hg; have hnb109 := NB962_939.out; have hnc109 := NB939_962.out; have hnb110 := NB962_940.out; have hnc110 := NB940_962.out; have hnb111 := NB962_952.out; have hnc111 := NB952_962.out; have hcz112_0 : w108.cell? ⟨gb962, 0, none⟩ = some (.int .u64 0) := (blk_cell BK962.out 0).trans rfl; have hcz112_1 : w108.cell? ⟨gb962, 1, none⟩ = some (.int .u64 0) := (blk_cell BK962.out 1).trans rfl; have hfz112_0 := blk_frozen BK962.out 0; have hfz112_1 := blk_frozen BK962.out 1) | (go_at_call 29; (with_reducible refine (steeplelaw21_awake.calls k3  false _ A70.out).mono ?_); rintro e w113 ⟨rfl, hb⟩; have n0_ := Aside0.mk (Kd.R_below (by (with_reducible repeat (first | apply Kd.R_alloc | apply Kd.R_drewN | apply Kd.R_drew)); exact (Kd.R_mono (Kd.R_far (p := ⟨gb962, 1, none⟩) (Kd.R_far (p := ⟨gb962, 0, none⟩) (Kd.R_mono HO_9.out (fun k_ hk => (⟨hk, hk.2⟩ : _ ∧ k_ ≠ gb962))) (fun _ hk => hk.2) (.int .u64 t959)) (fun _ hk => hk.2) (.int .u64 t960)) (fun _ h_ => h_.1))) hb); have n1_ := Aside0.mk (blk_below (g := gb939) (o := .cells #[.slice A1_0 l1_0.length c1_0, .slice (some ad944) l1_1.length c1_1] 59 (0, 0)) (by (with_reducible repeat (first | refine blk_drewN ?_ _ | refine blk_drew ?_ | refine blk_alloc ?_ _)); refine blk_far ?_ NB939_962.out _; (with_reducible repeat (first | refine blk_drewN ?_ _ | refine blk_drew ?_ | refine blk_alloc ?_ _)); refine blk_far ?_ NB939_962.out _; exact bF BK939.out) hb); have n2_ := Aside0.mk (blk_below (g := gb940) (o := .cells #[.int .u64 a2_0, .int .u64 a2_1, .slice A2_2 l2_2.length c2_2, .int .u64 a2_3, .int .u64 a2_4] 61 (0, 0)) (by (with_reducible repeat (first | refine blk_drewN ?_ _ | refine blk_drew ?_ | refine blk_alloc ?_ _)); refine blk_far ?_ NB940_962.out _; (with_reducible repeat (first | refine blk_drewN ?_ _ | refine blk_drew ?_ | refine blk_alloc ?_ _)); refine blk_far ?_ NB940_962.out _; exact bF BK940.out) hb); have n3_ := Aside0.mk (blk_below (g := gb952) (o := .cells #[.int .u64 t949, .int .u64 t950] 28 (0, 0)) (by (with_reducible repeat (first | refine blk_drewN ?_ _ | refine blk_drew ?_ | refine blk_alloc ?_ _)); refine blk_far ?_ NB952_962.out _; (with_reducible repeat (first | refine blk_drewN ?_ _ | refine blk_drew ?_ | refine blk_alloc ?_ _)); refine blk_far ?_ NB952_962.out _; exact bF BK952.out) hb); have n4_ := Aside0.mk (blk_below (g := gb962) (o := .cells #[.int .u64 t959, .int .u64 t960] 28 (0, 0)) (by (with_reducible repeat (first | refine blk_drewN ?_ _ | refine blk_drew ?_ | refine blk_alloc ?_ _)); refine blk_put (cs := #[.int .u64 t959, .int .u64 0]) ?_ 1 _ rfl; (with_reducible repeat (first | refine blk_drewN ?_ _ | refine blk_drew ?_ | refine blk_alloc ?_ _)); refine blk_put (cs := #[.int .u64 0, .int .u64 0]) ?_ 0 _ rfl; exact bF BK962.out) hb); have n5_ := Aside0.mk (below_step (by repeat (first | (with_reducible first | exact HB.out | apply bA | apply bN | apply bD | refine bS ?_ GE939.out | refine bS ?_ GE940.out | refine bS ?_ GE952.out | refine bS ?_ GE962.out) | exact HB.out)) hb); clear HO_9; clear BK939; clear BK940; clear BK952; clear BK962; clear HB; have HO_9 := n0_; have BK939 := n1_; have BK940 := n2_; have BK952 := n3_; have BK962 := n4_; have HB := n5_; clear n0_ n1_ n2_ n3_ n4_ n5_; (try clear hb); (try clear hb2); (try clear hk); (try clear hi)))
             repeat (go_quiet (first | (go_at_call 40; (with_reducible refine (zero_Value.calls k3 a0 _ _ l1_0 _ _ x9_3 a2_0 a2_1 0 1 t959 t960 t961 _ ?side1 ?side2 ?side3 ?side4 A69.out).mono ?_); (case side1 => repeat (first | exact (Kd.C_below HR1_0.out HB.out) | (with_reducible refine Kd.C_alloc ?_ _) | (with_reducible refine Kd.C_drewN ?_ _) | (with_reducible refine Kd.C_drew ?_))); (case side2 => exact HC1_0.out); (case side3 => repeat (first | exact (Kd.R_reads' HO_9.out).2.2 | (with_reducible refine Kd.C_alloc ?_ _) | (with_reducible refine Kd.C_drewN ?_ _) | (with_reducible refine Kd.C_drew ?_))); (case side4 => exact (Kd.R_reads' HO_9.out).2.1); rintro e w107 ⟨rfl, hb⟩; have n0_ := Aside0.mk (Kd.R_below (by exact rF HO_9.out) hb); have n1_ := Aside0.mk (blk_below (g := gb939) (o := .cells #[.slice A1_0 l1_0.length c1_0, .slice (some ad944) l1_1.length c1_1] 59 (0, 0)) (by exact bF BK939.out) hb); have n2_ := Aside0.mk (blk_below (g := gb940) (o := .cells #[.int .u64 a2_0, .int .u64 a2_1, .slice A2_2 l2_2.length c2_2, .int .u64 a2_3, .int .u64 a2_4] 61 (0, 0)) (by exact bF BK940.out) hb); have n3_ := Aside0.mk (blk_below (g := gb952) (o := .cells #[.int .u64 t949, .int .u64 t950] 28 (0, 0)) (by exact bF BK952.out) hb); have n4_ := Aside0.mk (below_step (by repeat (first | (with_reducible first | exact HB.out | apply bA | apply bN | apply bD | refine bS ?_ GE939.out | refine bS ?_ GE940.out | refine bS ?_ GE952.out) | exact HB.out)) hb); clear HO_9; clear BK939; clear BK940; clear BK952; clear HB; have HO_9 := n0_; have BK939 := n1_; have BK940 := n2_; have BK952 := n3_; have HB := n4_; clear n0_ n1_ n2_ n3_ n4_; (try clear hb); (try clear hb2); (try clear hk); (try clear hi)) | ((with_reducible refine gate_dst (N := 14) rfl ?_); (try (refine gate_guard (by rfl) ?_; dsimp only)); refine box_event ?hg (N := 14) ?hd (cs := #[.int .u64 0, .int .u64 0]) (t := 28) ?hr ?_; (case hd => rfl); (case hg => rfl); (case hr => first | (go_simp; done) | (go_simp; rfl)); intro gb962 hg w108 hbox hb; have n0_ := Aside0.mk (Kd.R_below (Kd.R_elderB (by exact rF HO_9.out) gb962 (Nat.le_of_eq hg.symm)) hb); have n1_ := Aside0.mk (blk_below (g := gb939) (o := .cells #[.slice A1_0 l1_0.length c1_0, .slice (some ad944) l1_1.length c1_1] 59 (0, 0)) (by exact bF BK939.out) hb); have n2_ := Aside0.mk (blk_below (g := gb940) (o := .cells #[.int .u64 a2_0, .int .u64 a2_1, .slice A2_2 l2_2.length c2_2, .int .u64 a2_3, .int .u64 a2_4] 61 (0, 0)) (by exact bF BK940.out) hb); have n3_ := Aside0.mk (blk_below (g := gb952) (o := .cells #[.int .u64 t949, .int .u64 t950] 28 (0, 0)) (by exact bF BK952.out) hb); have n4_ := Aside0.mk (below_step (by repeat (first | (with_reducible first | exact HB.out | apply bA | apply bN | apply bD | refine bS ?_ GE939.out | refine bS ?_ GE940.out | refine bS ?_ GE952.out) | exact HB.out)) hb); have n5_ := Aside0.mk (hbox); have n6_ := Aside0.mk ((by rw [hg]; exact (below_size (by repeat (first | (with_reducible first | exact HB.out | apply bA | apply bN | apply bD | refine bS ?_ GE939.out | refine bS ?_ GE940.out | refine bS ?_ GE952.out) | exact HB.out))) : w.heap.size ≤ gb962)); have n7_ := Aside0.mk ((by rw [hg]; exact (below_size (by repeat (first | (with_reducible first | exact HB.out | apply bA | apply bN | apply bD | refine bS ?_ GE939.out | refine bS ?_ GE940.out | refine bS ?_ GE952.out) | exact HB.out))) : w.heap.size ≤ gb962)); have n8_ := Aside0.mk ((by rw [hg]; exact Nat.ne_of_lt (blk_lt (g := gb939) (o := .cells #[.slice A1_0 l1_0.length c1_0, .slice (some ad944) l1_1.length c1_1] 59 (0, 0)) (by exact bF BK939.out)) : gb939 ≠ gb962)); have n9_ := Aside0.mk ((by rw [hg]; exact Nat.ne_of_gt (blk_lt (g := gb939) (o := .cells #[.slice A1_0 l1_0.length c1_0, .slice (some ad944) l1_1.length c1_1] 59 (0, 0)) (by exact bF BK939.out)) : gb962 ≠ gb939)); have n10_ := Aside0.mk ((by rw [hg]; exact Nat.ne_of_lt (blk_lt (g := gb940) (o := .cells #[.int .u64 a2_0, .int .u64 a2_1, .slice A2_2 l2_2.length c2_2, .int .u64 a2_3, .int .u64 a2_4] 61 (0, 0)) (by exact bF BK940.out)) : gb940 ≠ gb962)); have n11_ := Aside0.mk ((by rw [hg]; exact Nat.ne_of_gt (blk_lt (g := gb940) (o := .cells #[.int .u64 a2_0, .int .u64 a2_1, .slice A2_2 l2_2.length c2_2, .int .u64 a2_3, .int .u64 a2_4] 61 (0, 0)) (by exact bF BK940.out)) : gb962 ≠ gb940)); have n12_ := Aside0.mk ((by rw [hg]; exact Nat.ne_of_lt (blk_lt (g := gb952) (o := .cells #[.int .u64 t949, .int .u64 t950] 28 (0, 0)) (by exact bF BK952.out)) : gb952 ≠ gb962)); have n13_ := Aside0.mk ((by rw [hg]; exact Nat.ne_of_gt (blk_lt (g := gb952) (o := .cells #[.int .u64 t949, .int .u64 t950] 28 (0, 0)) (by exact bF BK952.out)) : gb962 ≠ gb952)); clear HO_9; clear BK939; clear BK940; clear BK952; clear HB; have HO_9 := n0_; have BK939 := n1_; have BK940 := n2_; have BK952 := n3_; have HB := n4_; have BK962 := n5_; have GW962 := n6_; have GE962 := n7_; have NB939_962 := n8_; have NB962_939 := n9_; have NB940_962 := n10_; have NB962_940 := n11_; have NB952_962 := n12_; have NB962_952 := n13_; clear n0_ n1_ n2_ n3_ n4_ n5_ n6_ n7_ n8_ n9_ n10_ n11_ n12_ n13_; clear hb hbox hg; have hnb109 := NB962_939.out; have hnc109 := NB939_962.out; have hnb110 := NB962_940.out; have hnc110 := NB940_962.out; have hnb111 := NB962_952.out; have hnc111 := NB952_962.out; have hcz112_0 : w108.cell? ⟨gb962, 0, none⟩ = some (.int .u64 0) := (blk_cell BK962.out 0).trans rfl; have hcz112_1 : w108.cell? ⟨gb962, 1, none⟩ = some (.int .u64 0) := (blk_cell BK962.out 1).trans rfl; have hfz112_0 := blk_frozen BK962.out 0; have hfz112_1 := blk_frozen BK962.out 1) | (go_at_call 29; (with_reducible refine (steeplelaw21_awake.calls k3  false _ A70.out).mono ?_); rintro e w113 ⟨rfl, hb⟩; have n0_ := Aside0.mk (Kd.R_below (by (with_reducible repeat (first | apply Kd.R_alloc | apply Kd.R_drewN | apply Kd.R_drew)); exact (Kd.R_mono (Kd.R_far (p := ⟨gb962, 1, none⟩) (Kd.R_far (p := ⟨gb962, 0, none⟩) (Kd.R_mono HO_9.out (fun k_ hk => (⟨hk, hk.2⟩ : _ ∧ k_ ≠ gb962))) (fun _ hk => hk.2) (.int .u64 t959)) (fun _ hk => hk.2) (.int .u64 t960)) (fun _ h_ => h_.1))) hb); have n1_ := Aside0.mk (blk_below (g := gb939) (o := .cells #[.slice A1_0 l1_0.length c1_0, .slice (some ad944) l1_1.length c1_1] 59 (0, 0)) (by (with_reducible repeat (first | refine blk_drewN ?_ _ | refine blk_drew ?_ | refine blk_alloc ?_ _)); refine blk_far ?_ NB939_962.out _; (with_reducible repeat (first | refine blk_drewN ?_ _ | refine blk_drew ?_ | refine blk_alloc ?_ _)); refine blk_far ?_ NB939_962.out _; exact bF BK939.out) hb); have n2_ := Aside0.mk (blk_below (g := gb940) (o := .cells #[.int .u64 a2_0, .int .u64 a2_1, .slice A2_2 l2_2.length c2_2, .int .u64 a2_3, .int .u64 a2_4] 61 (0, 0)) (by (with_reducible repeat (first | refine blk_drewN ?_ _ | refine blk_drew ?_ | refine blk_alloc ?_ _)); refine blk_far ?_ NB940_962.out _; (with_reducible repeat (first | refine blk_drewN ?_ _ | refine blk_drew ?_ | refine blk_alloc ?_ _)); refine blk_far ?_ NB940_962.out _; exact bF BK940.out) hb); have n3_ := Aside0.mk (blk_below (g := gb952) (o := .cells #[.int .u64 t949, .int .u64 t950] 28 (0, 0)) (by (with_reducible repeat (first | refine blk_drewN ?_ _ | refine blk_drew ?_ | refine blk_alloc ?_ _)); refine blk_far ?_ NB952_962.out _; (with_reducible repeat (first | refine blk_drewN ?_ _ | refine blk_drew ?_ | refine blk_alloc ?_ _)); refine blk_far ?_ NB952_962.out _; exact bF BK952.out) hb); have n4_ := Aside0.mk (blk_below (g := gb962) (o := .cells #[.int .u64 t959, .int .u64 t960] 28 (0, 0)) (by (with_reducible repeat (first | refine blk_drewN ?_ _ | refine blk_drew ?_ | refine blk_alloc ?_ _)); refine blk_put (cs := #[.int .u64 t959, .int .u64 0]) ?_ 1 _ rfl; (with_reducible repeat (first | refine blk_drewN ?_ _ | refine blk_drew ?_ | refine blk_alloc ?_ _)); refine blk_put (cs := #[.int .u64 0, .int .u64 0]) ?_ 0 _ rfl; exact bF BK962.out) hb); have n5_ := Aside0.mk (below_step (by repeat (first | (with_reducible first | exact HB.out | apply bA | apply bN | apply bD | refine bS ?_ GE939.out | refine bS ?_ GE940.out | refine bS ?_ GE952.out | refine bS ?_ GE962.out) | exact HB.out)) hb); clear HO_9; clear BK939; clear BK940; clear BK952; clear BK962; clear HB; have HO_9 := n0_; have BK939 := n1_; have BK940 := n2_; have BK952 := n3_; have BK962 := n4_; have HB := n5_; clear n0_ n1_ n2_ n3_ n4_ n5_; (try clear hb); (try clear hb2); (try clear hk); (try clear hi))); try go_wp2_with (first | (go_at_call 40; (with_reducible refine (zero_Value.calls k3 a0 _ _ l1_0 _ _ x9_3 a2_0 a2_1 0 1 t959 t960 t961 _ ?side1 ?side2 ?side3 ?side4 A69.out).mono ?_); (case side1 => repeat (first | exact (Kd.C_below HR1_0.out HB.out) | (with_reducible refine Kd.C_alloc ?_ _) | (with_reducible refine Kd.C_drewN ?_ _) | (with_reducible refine Kd.C_drew ?_))); (case side2 => exact HC1_0.out); (case side3 => repeat (first | exact (Kd.R_reads' HO_9.out).2.2 | (with_reducible refine Kd.C_alloc ?_ _) | (with_reducible refine Kd.C_drewN ?_ _) | (with_reducible refine Kd.C_drew ?_))); (case side4 => exact (Kd.R_reads' HO_9.out).2.1); rintro e w107 ⟨rfl, hb⟩; have n0_ := Aside0.mk (Kd.R_below (by exact rF HO_9.out) hb); have n1_ := Aside0.mk (blk_below (g := gb939) (o := .cells #[.slice A1_0 l1_0.length c1_0, .slice (some ad944) l1_1.length c1_1] 59 (0, 0)) (by exact bF BK939.out) hb); have n2_ := Aside0.mk (blk_below (g := gb940) (o := .cells #[.int .u64 a2_0, .int .u64 a2_1, .slice A2_2 l2_2.length c2_2, .int .u64 a2_3, .int .u64 a2_4] 61 (0, 0)) (by exact bF BK940.out) hb); have n3_ := Aside0.mk (blk_below (g := gb952) (o := .cells #[.int .u64 t949, .int .u64 t950] 28 (0, 0)) (by exact bF BK952.out) hb); have n4_ := Aside0.mk (below_step (by repeat (first | (with_reducible first | exact HB.out | apply bA | apply bN | apply bD | refine bS ?_ GE939.out | refine bS ?_ GE940.out | refine bS ?_ GE952.out) | exact HB.out)) hb); clear HO_9; clear BK939; clear BK940; clear BK952; clear HB; have HO_9 := n0_; have BK939 := n1_; have BK940 := n2_; have BK952 := n3_; have HB := n4_; clear n0_ n1_ n2_ n3_ n4_; (try clear hb); (try clear hb2); (try clear hk); (try clear hi)) | ((with_reducible refine gate_dst (N := 14) rfl ?_); (try (refine gate_guard (by rfl) ?_; dsimp only)); refine box_event ?hg (N := 14) ?hd (cs := #[.int .u64 0, .int .u64 0]) (t := 28) ?hr ?_; (case hd => rfl); (case hg => rfl); (case hr => first | (go_simp; done) | (go_simp; rfl)); intro gb962 hg w108 hbox hb; have n0_ := Aside0.mk (Kd.R_below (Kd.R_elderB (by exact rF HO_9.out) gb962 (Nat.le_of_eq hg.symm)) hb); have n1_ := Aside0.mk (blk_below (g := gb939) (o := .cells #[.slice A1_0 l1_0.length c1_0, .slice (some ad944) l1_1.length c1_1] 59 (0, 0)) (by exact bF BK939.out) hb); have n2_ := Aside0.mk (blk_below (g := gb940) (o := .cells #[.int .u64 a2_0, .int .u64 a2_1, .slice A2_2 l2_2.length c2_2, .int .u64 a2_3, .int .u64 a2_4] 61 (0, 0)) (by exact bF BK940.out) hb); have n3_ := Aside0.mk (blk_below (g := gb952) (o := .cells #[.int .u64 t949, .int .u64 t950] 28 (0, 0)) (by exact bF BK952.out) hb); have n4_ := Aside0.mk (below_step (by repeat (first | (with_reducible first | exact HB.out | apply bA | apply bN | apply bD | refine bS ?_ GE939.out | refine bS ?_ GE940.out | refine bS ?_ GE952.out) | exact HB.out)) hb); have n5_ := Aside0.mk (hbox); have n6_ := Aside0.mk ((by rw [hg]; exact (below_size (by repeat (first | (with_reducible first | exact HB.out | apply bA | apply bN | apply bD | refine bS ?_ GE939.out | refine bS ?_ GE940.out | refine bS ?_ GE952.out) | exact HB.out))) : w.heap.size ≤ gb962)); have n7_ := Aside0.mk ((by rw [hg]; exact (below_size (by repeat (first | (with_reducible first | exact HB.out | apply bA | apply bN | apply bD | refine bS ?_ GE939.out | refine bS ?_ GE940.out | refine bS ?_ GE952.out) | exact HB.out))) : w.heap.size ≤ gb962)); have n8_ := Aside0.mk ((by rw [hg]; exact Nat.ne_of_lt (blk_lt (g := gb939) (o := .cells #[.slice A1_0 l1_0.length c1_0, .slice (some ad944) l1_1.length c1_1] 59 (0, 0)) (by exact bF BK939.out)) : gb939 ≠ gb962)); have n9_ := Aside0.mk ((by rw [hg]; exact Nat.ne_of_gt (blk_lt (g := gb939) (o := .cells #[.slice A1_0 l1_0.length c1_0, .slice (some ad944) l1_1.length c1_1] 59 (0, 0)) (by exact bF BK939.out)) : gb962 ≠ gb939)); have n10_ := Aside0.mk ((by rw [hg]; exact Nat.ne_of_lt (blk_lt (g := gb940) (o := .cells #[.int .u64 a2_0, .int .u64 a2_1, .slice A2_2 l2_2.length c2_2, .int .u64 a2_3, .int .u64 a2_4] 61 (0, 0)) (by exact bF BK940.out)) : gb940 ≠ gb962)); have n11_ := Aside0.mk ((by rw [hg]; exact Nat.ne_of_gt (blk_lt (g := gb940) (o := .cells #[.int .u64 a2_0, .int .u64 a2_1, .slice A2_2 l2_2.length c2_2, .int .u64 a2_3, .int .u64 a2_4] 61 (0, 0)) (by exact bF BK940.out)) : gb962 ≠ gb940)); have n12_ := Aside0.mk ((by rw [hg]; exact Nat.ne_of_lt (blk_lt (g := gb952) (o := .cells #[.int .u64 t949, .int .u64 t950] 28 (0, 0)) (by exact bF BK952.out)) : gb952 ≠ gb962)); have n13_ := Aside0.mk ((by rw [hg]; exact Nat.ne_of_gt (blk_lt (g := gb952) (o := .cells #[.int .u64 t949, .int .u64 t950] 28 (0, 0)) (by exact bF BK952.out)) : gb962 ≠ gb952)); clear HO_9; clear BK939; clear BK940; clear BK952; clear HB; have HO_9 := n0_; have BK939 := n1_; have BK940 := n2_; have BK952 := n3_; have HB := n4_; have BK962 := n5_; have GW962 := n6_; have GE962 := n7_; have NB939_962 := n8_; have NB962_939 := n9_; have NB940_962 := n10_; have NB962_940 := n11_; have NB952_962 := n12_; have NB962_952 := n13_; clear n0_ n1_ n2_ n3_ n4_ n5_ n6_ n7_ n8_ n9_ n10_ n11_ n12_ n13_; clear hb hbox hg; have hnb109 := NB962_939.out; have hnc109 := NB939_962.out; have hnb110 := NB962_940.out; have hnc110 := NB940_962.out; have hnb111 := NB962_952.out; have hnc111 := NB952_962.out; have hcz112_0 : w108.cell? ⟨gb962, 0, none⟩ = some (.int .u64 0) := (blk_cell BK962.out 0).trans rfl; have hcz112_1 : w108.cell? ⟨gb962, 1, none⟩ = some (.int .u64 0) := (blk_cell BK962.out 1).trans rfl; have hfz112_0 := blk_frozen BK962.out 0; have hfz112_1 := blk_frozen BK962.out 1) | (go_at_call 29; (with_reducible refine (steeplelaw21_awake.calls k3  false _ A70.out).mono ?_); rintro e w113 ⟨rfl, hb⟩; have n0_ := Aside0.mk (Kd.R_below (by (with_reducible repeat (first | apply Kd.R_alloc | apply Kd.R_drewN | apply Kd.R_drew)); exact (Kd.R_mono (Kd.R_far (p := ⟨gb962, 1, none⟩) (Kd.R_far (p := ⟨gb962, 0, none⟩) (Kd.R_mono HO_9.out (fun k_ hk => (⟨hk, hk.2⟩ : _ ∧ k_ ≠ gb962))) (fun _ hk => hk.2) (.int .u64 t959)) (fun _ hk => hk.2) (.int .u64 t960)) (fun _ h_ => h_.1))) hb); have n1_ := Aside0.mk (blk_below (g := gb939) (o := .cells #[.slice A1_0 l1_0.length c1_0, .slice (some ad944) l1_1.length c1_1] 59 (0, 0)) (by (with_reducible repeat (first | refine blk_drewN ?_ _ | refine blk_drew ?_ | refine blk_alloc ?_ _)); refine blk_far ?_ NB939_962.out _; (with_reducible repeat (first | refine blk_drewN ?_ _ | refine blk_drew ?_ | refine blk_alloc ?_ _)); refine blk_far ?_ NB939_962.out _; exact bF BK939.out) hb); have n2_ := Aside0.mk (blk_below (g := gb940) (o := .cells #[.int .u64 a2_0, .int .u64 a2_1, .slice A2_2 l2_2.length c2_2, .int .u64 a2_3, .int .u64 a2_4] 61 (0, 0)) (by (with_reducible repeat (first | refine blk_drewN ?_ _ | refine blk_drew ?_ | refine blk_alloc ?_ _)); refine blk_far ?_ NB940_962.out _; (with_reducible repeat (first | refine blk_drewN ?_ _ | refine blk_drew ?_ | refine blk_alloc ?_ _)); refine blk_far ?_ NB940_962.out _; exact bF BK940.out) hb); have n3_ := Aside0.mk (blk_below (g := gb952) (o := .cells #[.int .u64 t949, .int .u64 t950] 28 (0, 0)) (by (with_reducible repeat (first | refine blk_drewN ?_ _ | refine blk_drew ?_ | refine blk_alloc ?_ _)); refine blk_far ?_ NB952_962.out _; (with_reducible repeat (first | refine blk_drewN ?_ _ | refine blk_drew ?_ | refine blk_alloc ?_ _)); refine blk_far ?_ NB952_962.out _; exact bF BK952.out) hb); have n4_ := Aside0.mk (blk_below (g := gb962) (o := .cells #[.int .u64 t959, .int .u64 t960] 28 (0, 0)) (by (with_reducible repeat (first | refine blk_drewN ?_ _ | refine blk_drew ?_ | refine blk_alloc ?_ _)); refine blk_put (cs := #[.int .u64 t959, .int .u64 0]) ?_ 1 _ rfl; (with_reducible repeat (first | refine blk_drewN ?_ _ | refine blk_drew ?_ | refine blk_alloc ?_ _)); refine blk_put (cs := #[.int .u64 0, .int .u64 0]) ?_ 0 _ rfl; exact bF BK962.out) hb); have n5_ := Aside0.mk (below_step (by repeat (first | (with_reducible first | exact HB.out | apply bA | apply bN | apply bD | refine bS ?_ GE939.out | refine bS ?_ GE940.out | refine bS ?_ GE952.out | refine bS ?_ GE962.out) | exact HB.out)) hb); clear HO_9; clear BK939; clear BK940; clear BK952; clear BK962; clear HB; have HO_9 := n0_; have BK939 := n1_; have BK940 := n2_; have BK952 := n3_; have BK962 := n4_; have HB := n5_; clear n0_ n1_ n2_ n3_ n4_ n5_; (try clear hb); (try clear hb2); (try clear hk); (try clear hi))))
             go_ret
             exact ⟨by first | rfl | (simp [errW_none, errW_some] <;> rfl) | (simp [*, errW_none, errW_some] <;> rfl), by repeat (first | (with_reducible first | exact HB.out | apply bA | apply bN | apply bD | refine bS ?_ GE939.out | refine bS ?_ GE940.out | refine bS ?_ GE952.out | refine bS ?_ GE962.out) | exact HB.out)⟩
        ·rw [if_neg c49] at H
         have c49b0 : (t951 == 0) = false := beq_eq_false_iff_ne.mpr c49
         have c49b1 : (t951 != 0) = true := bne_iff_ne.mpr c49
         replace H := Option.bind_eq_some_iff.mp H
         obtain ⟨t953, A1140, H⟩ := H
         replace H : (some t953) = some r := H
         have A114 := Aside0.mk A1140
         clear A1140
         obtain rfl := Option.some.inj H
         have hnb115 := NB939_940.out
         have hnc115 := NB940_939.out
         have hcz116_0 : wc.cell? ⟨gb939, 0, none⟩ = some (.slice A1_0 l1_0.length c1_0) := (blk_cell BK939.out 0).trans rfl
         have hcz116_1 : wc.cell? ⟨gb939, 1, none⟩ = some (.slice (some ad944) l1_1.length c1_1) := (blk_cell BK939.out 1).trans rfl
         have hfz116_0 := blk_frozen BK939.out 0
         have hfz116_1 := blk_frozen BK939.out 1
         have hcz117_0 : wc.cell? ⟨gb940, 0, none⟩ = some (.int .u64 a2_0) := (blk_cell BK940.out 0).trans rfl
         have hcz117_1 : wc.cell? ⟨gb940, 1, none⟩ = some (.int .u64 a2_1) := (blk_cell BK940.out 1).trans rfl
         have hcz117_2 : wc.cell? ⟨gb940, 2, none⟩ = some (.slice A2_2 l2_2.length c2_2) := (blk_cell BK940.out 2).trans rfl
         have hcz117_3 : wc.cell? ⟨gb940, 3, none⟩ = some (.int .u64 a2_3) := (blk_cell BK940.out 3).trans rfl
         have hcz117_4 : wc.cell? ⟨gb940, 4, none⟩ = some (.int .u64 a2_4) := (blk_cell BK940.out 4).trans rfl
         have hfz117_0 := blk_frozen BK940.out 0
         have hfz117_1 := blk_frozen BK940.out 1
         have hfz117_2 := blk_frozen BK940.out 2
         have hfz117_3 := blk_frozen BK940.out 3
         have hfz117_4 := blk_frozen BK940.out 4
         obtain ⟨Ao118, co118, eo118⟩ := Kd.R_slice HO_8.out
         subst eo118
         go_wp2_with (first | (go_at_call 33; (with_reducible refine (zero_Sum.calls kj26 a0 _ _ l1_0 _ _ l1_1 a2_0 a2_1 _ _ x8_26 t949 t950 t951 _ ?side1 ?side2 ?side3 ?side4 ?side5 ?side6 A48.out).mono ?_); (case side1 => repeat (first | exact (Kd.C_below HR1_0.out HB.out) | (with_reducible refine Kd.C_alloc ?_ _) | (with_reducible refine Kd.C_drewN ?_ _) | (with_reducible refine Kd.C_drew ?_))); (case side2 => exact HC1_0.out); (case side3 => repeat (first | exact (Kd.C_below HR1_1.out HB.out) | (with_reducible refine Kd.C_alloc ?_ _) | (with_reducible refine Kd.C_drewN ?_ _) | (with_reducible refine Kd.C_drew ?_))); (case side4 => exact HC1_1.out); (case side5 => repeat (first | exact (Kd.R_reads' HO_8.out).2.2 | (with_reducible refine Kd.C_alloc ?_ _) | (with_reducible refine Kd.C_drewN ?_ _) | (with_reducible refine Kd.C_drew ?_))); (case side6 => exact (Kd.R_reads' HO_8.out).2.1); rintro e w119 ⟨rfl, hb⟩; have n0_ := Aside0.mk (Kd.R_below (by exact rF HO_8.out) hb); have n1_ := Aside0.mk (Kd.R_below (by exact rF HO_9.out) hb); have n2_ := Aside0.mk (blk_below (g := gb939) (o := .cells #[.slice A1_0 l1_0.length c1_0, .slice (some ad944) l1_1.length c1_1] 59 (0, 0)) (by exact bF BK939.out) hb); have n3_ := Aside0.mk (blk_below (g := gb940) (o := .cells #[.int .u64 a2_0, .int .u64 a2_1, .slice A2_2 l2_2.length c2_2, .int .u64 a2_3, .int .u64 a2_4] 61 (0, 0)) (by exact bF BK940.out) hb); have n4_ := Aside0.mk (below_step (by repeat (first | (with_reducible first | exact HB.out | apply bA | apply bN | apply bD | refine bS ?_ GE939.out | refine bS ?_ GE940.out) | exact HB.out)) hb); clear HO_8; clear HO_9; clear BK939; clear BK940; clear HB; have HO_8 := n0_; have HO_9 := n1_; have BK939 := n2_; have BK940 := n3_; have HB := n4_; clear n0_ n1_ n2_ n3_ n4_; (try clear hb); (try clear hb2); (try clear hk); (try clear hi)) | ((with_reducible refine gate_dst (N := 11) rfl ?_); (try (refine gate_guard (by rfl) ?_; dsimp only)); refine box_event ?hg (N := 11) ?hd (cs := #[.int .u64 0, .int .u64 0]) (t := 28) ?hr ?_; (case hd => rfl); (case hg => rfl); (case hr => first | (go_simp; done) | (go_simp; rfl)); intro gb952 hg w120 hbox hb; have n0_ := Aside0.mk (Kd.R_below (Kd.R_elderB (by exact rF HO_8.out) gb952 (Nat.le_of_eq hg.symm)) hb); have n1_ := Aside0.mk (Kd.R_below (Kd.R_elderB (by exact rF HO_9.out) gb952 (Nat.le_of_eq hg.symm)) hb); have n2_ := Aside0.mk (blk_below (g := gb939) (o := .cells #[.slice A1_0 l1_0.length c1_0, .slice (some ad944) l1_1.length c1_1] 59 (0, 0)) (by exact bF BK939.out) hb); have n3_ := Aside0.mk (blk_below (g := gb940) (o := .cells #[.int .u64 a2_0, .int .u64 a2_1, .slice A2_2 l2_2.length c2_2, .int .u64 a2_3, .int .u64 a2_4] 61 (0, 0)) (by exact bF BK940.out) hb); have n4_ := Aside0.mk (below_step (by repeat (first | (with_reducible first | exact HB.out | apply bA | apply bN | apply bD | refine bS ?_ GE939.out | refine bS ?_ GE940.out) | exact HB.out)) hb); have n5_ := Aside0.mk (hbox); have n6_ := Aside0.mk ((by rw [hg]; exact (below_size (by repeat (first | (with_reducible first | exact HB.out | apply bA | apply bN | apply bD | refine bS ?_ GE939.out | refine bS ?_ GE940.out) | exact HB.out))) : w.heap.size ≤ gb952)); have n7_ := Aside0.mk ((by rw [hg]; exact (below_size (by repeat (first | (with_reducible first | exact HB.out | apply bA | apply bN | apply bD | refine bS ?_ GE939.out | refine bS ?_ GE940.out) | exact HB.out))) : w.heap.size ≤ gb952)); have n8_ := Aside0.mk ((by rw [hg]; exact Nat.ne_of_lt (blk_lt (g := gb939) (o := .cells #[.slice A1_0 l1_0.length c1_0, .slice (some ad944) l1_1.length c1_1] 59 (0, 0)) (by exact bF BK939.out)) : gb939 ≠ gb952)); have n9_ := Aside0.mk ((by rw [hg]; exact Nat.ne_of_gt (blk_lt (g := gb939) (o := .cells #[.slice A1_0 l1_0.length c1_0, .slice (some ad944) l1_1.length c1_1] 59 (0, 0)) (by exact bF BK939.out)) : gb952 ≠ gb939)); have n10_ := Aside0.mk ((by rw [hg]; exact Nat.ne_of_lt (blk_lt (g := gb940) (o := .cells #[.int .u64 a2_0, .int .u64 a2_1, .slice A2_2 l2_2.length c2_2, .int .u64 a2_3, .int .u64 a2_4] 61 (0, 0)) (by exact bF BK940.out)) : gb940 ≠ gb952)); have n11_ := Aside0.mk ((by rw [hg]; exact Nat.ne_of_gt (blk_lt (g := gb940) (o := .cells #[.int .u64 a2_0, .int .u64 a2_1, .slice A2_2 l2_2.length c2_2, .int .u64 a2_3, .int .u64 a2_4] 61 (0, 0)) (by exact bF BK940.out)) : gb952 ≠ gb940)); clear HO_8; clear HO_9; clear BK939; clear BK940; clear HB; have HO_8 := n0_; have HO_9 := n1_; have BK939 := n2_; have BK940 := n3_; have HB := n4_; have BK952 := n5_; have GW952 := n6_; have GE952 := n7_; have NB939_952 := n8_; have NB952_939 := n9_; have NB940_952 := n10_; have NB952_940 := n11_; clear n0_ n1_ n2_ n3_ n4_ n5_ n6_ n7_ n8_ n9_ n10_ n11_; clear hb hbox hg; have hnb121 := NB952_939.out; have hnc121 := NB939_952.out; have hnb122 := NB952_940.out; have hnc122 := NB940_952.out; have hcz123_0 : w120.cell? ⟨gb952, 0, none⟩ = some (.int .u64 0) := (blk_cell BK952.out 0).trans rfl; have hcz123_1 : w120.cell? ⟨gb952, 1, none⟩ = some (.int .u64 0) := (blk_cell BK952.out 1).trans rfl; have hfz123_0 := blk_frozen BK952.out 0; have hfz123_1 := blk_frozen BK952.out 1) | (go_at_call 29; (with_reducible refine (steeplelaw21_awake.calls kj26  t953 _ A114.out).mono ?_); rintro e w124 ⟨rfl, hb⟩; have n0_ := Aside0.mk (Kd.R_below (by (with_reducible repeat (first | apply Kd.R_alloc | apply Kd.R_drewN | apply Kd.R_drew)); exact (Kd.R_mono (Kd.R_far (p := ⟨gb952, 1, none⟩) (Kd.R_far (p := ⟨gb952, 0, none⟩) (Kd.R_mono HO_8.out (fun k_ hk => (⟨hk, hk.2⟩ : _ ∧ k_ ≠ gb952))) (fun _ hk => hk.2) (.int .u64 t949)) (fun _ hk => hk.2) (.int .u64 t950)) (fun _ h_ => h_.1))) hb); have n1_ := Aside0.mk (Kd.R_below (by (with_reducible repeat (first | apply Kd.R_alloc | apply Kd.R_drewN | apply Kd.R_drew)); exact (Kd.R_mono (Kd.R_far (p := ⟨gb952, 1, none⟩) (Kd.R_far (p := ⟨gb952, 0, none⟩) (Kd.R_mono HO_9.out (fun k_ hk => (⟨hk, hk.2⟩ : _ ∧ k_ ≠ gb952))) (fun _ hk => hk.2) (.int .u64 t949)) (fun _ hk => hk.2) (.int .u64 t950)) (fun _ h_ => h_.1))) hb); have n2_ := Aside0.mk (blk_below (g := gb939) (o := .cells #[.slice A1_0 l1_0.length c1_0, .slice (some ad944) l1_1.length c1_1] 59 (0, 0)) (by (with_reducible repeat (first | refine blk_drewN ?_ _ | refine blk_drew ?_ | refine blk_alloc ?_ _)); refine blk_far ?_ NB939_952.out _; (with_reducible repeat (first | refine blk_drewN ?_ _ | refine blk_drew ?_ | refine blk_alloc ?_ _)); refine blk_far ?_ NB939_952.out _; exact bF BK939.out) hb); have n3_ := Aside0.mk (blk_below (g := gb940) (o := .cells #[.int .u64 a2_0, .int .u64 a2_1, .slice A2_2 l2_2.length c2_2, .int .u64 a2_3, .int .u64 a2_4] 61 (0, 0)) (by (with_reducible repeat (first | refine blk_drewN ?_ _ | refine blk_drew ?_ | refine blk_alloc ?_ _)); refine blk_far ?_ NB940_952.out _; (with_reducible repeat (first | refine blk_drewN ?_ _ | refine blk_drew ?_ | refine blk_alloc ?_ _)); refine blk_far ?_ NB940_952.out _; exact bF BK940.out) hb); have n4_ := Aside0.mk (blk_below (g := gb952) (o := .cells #[.int .u64 t949, .int .u64 t950] 28 (0, 0)) (by (with_reducible repeat (first | refine blk_drewN ?_ _ | refine blk_drew ?_ | refine blk_alloc ?_ _)); refine blk_put (cs := #[.int .u64 t949, .int .u64 0]) ?_ 1 _ rfl; (with_reducible repeat (first | refine blk_drewN ?_ _ | refine blk_drew ?_ | refine blk_alloc ?_ _)); refine blk_put (cs := #[.int .u64 0, .int .u64 0]) ?_ 0 _ rfl; exact bF BK952.out) hb); have n5_ := Aside0.mk (below_step (by repeat (first | (with_reducible first | exact HB.out | apply bA | apply bN | apply bD | refine bS ?_ GE939.out | refine bS ?_ GE940.out | refine bS ?_ GE952.out) | exact HB.out)) hb); clear HO_8; clear HO_9; clear BK939; clear BK940; clear BK952; clear HB; have HO_8 := n0_; have HO_9 := n1_; have BK939 := n2_; have BK940 := n3_; have BK952 := n4_; have HB := n5_; clear n0_ n1_ n2_ n3_ n4_ n5_; (try clear hb); (try clear hb2); (try clear hk); (try clear hi)))
         repeat (go_quiet (first | (go_at_call 33; (with_reducible refine (zero_Sum.calls kj26 a0 _ _ l1_0 _ _ l1_1 a2_0 a2_1 _ _ x8_26 t949 t950 t951 _ ?side1 ?side2 ?side3 ?side4 ?side5 ?side6 A48.out).mono ?_); (case side1 => repeat (first | exact (Kd.C_below HR1_0.out HB.out) | (with_reducible refine Kd.C_alloc ?_ _) | (with_reducible refine Kd.C_drewN ?_ _) | (with_reducible refine Kd.C_drew ?_))); (case side2 => exact HC1_0.out); (case side3 => repeat (first | exact (Kd.C_below HR1_1.out HB.out) | (with_reducible refine Kd.C_alloc ?_ _) | (with_reducible refine Kd.C_drewN ?_ _) | (with_reducible refine Kd.C_drew ?_))); (case side4 => exact HC1_1.out); (case side5 => repeat (first | exact (Kd.R_reads' HO_8.out).2.2 | (with_reducible refine Kd.C_alloc ?_ _) | (with_reducible refine Kd.C_drewN ?_ _) | (with_reducible refine Kd.C_drew ?_))); (case side6 => exact (Kd.R_reads' HO_8.out).2.1); rintro e w119 ⟨rfl, hb⟩; have n0_ := Aside0.mk (Kd.R_below (by exact rF HO_8.out) hb); have n1_ := Aside0.mk (Kd.R_below (by exact rF HO_9.out) hb); have n2_ := Aside0.mk (blk_below (g := gb939) (o := .cells #[.slice A1_0 l1_0.length c1_0, .slice (some ad944) l1_1.length c1_1] 59 (0, 0)) (by exact bF BK939.out) hb); have n3_ := Aside0.mk (blk_below (g := gb940) (o := .cells #[.int .u64 a2_0, .int .u64 a2_1, .slice A2_2 l2_2.length c2_2, .int .u64 a2_3, .int .u64 a2_4] 61 (0, 0)) (by exact bF BK940.out) hb); have n4_ := Aside0.mk (below_step (by repeat (first | (with_reducible first | exact HB.out | apply bA | apply bN | apply bD | refine bS ?_ GE939.out | refine bS ?_ GE940.out) | exact HB.out)) hb); clear HO_8; clear HO_9; clear BK939; clear BK940; clear HB; have HO_8 := n0_; have HO_9 := n1_; have BK939 := n2_; have BK940 := n3_; have HB := n4_; clear n0_ n1_ n2_ n3_ n4_; (try clear hb); (try clear hb2); (try clear hk); (try clear hi)) | ((with_reducible refine gate_dst (N := 11) rfl ?_); (try (refine gate_guard (by rfl) ?_; dsimp only)); refine box_event ?hg (N := 11) ?hd (cs := #[.int .u64 0, .int .u64 0]) (t := 28) ?hr ?_; (case hd => rfl); (case hg => rfl); (case hr => first | (go_simp; done) | (go_simp; rfl)); intro gb952 hg w120 hbox hb; have n0_ := Aside0.mk (Kd.R_below (Kd.R_elderB (by exact rF HO_8.out) gb952 (Nat.le_of_eq hg.symm)) hb); have n1_ := Aside0.mk (Kd.R_below (Kd.R_elderB (by exact rF HO_9.out) gb952 (Nat.le_of_eq hg.symm)) hb); have n2_ := Aside0.mk (blk_below (g := gb939) (o := .cells #[.slice A1_0 l1_0.length c1_0, .slice (some ad944) l1_1.length c1_1] 59 (0, 0)) (by exact bF BK939.out) hb); have n3_ := Aside0.mk (blk_below (g := gb940) (o := .cells #[.int .u64 a2_0, .int .u64 a2_1, .slice A2_2 l2_2.length c2_2, .int .u64 a2_3, .int .u64 a2_4] 61 (0, 0)) (by exact bF BK940.out) hb); have n4_ := Aside0.mk (below_step (by repeat (first | (with_reducible first | exact HB.out | apply bA | apply bN | apply bD | refine bS ?_ GE939.out | refine bS ?_ GE940.out) | exact HB.out)) hb); have n5_ := Aside0.mk (hbox); have n6_ := Aside0.mk ((by rw [hg]; exact (below_size (by repeat (first | (with_reducible first | exact HB.out | apply bA | apply bN | apply bD | refine bS ?_ GE939.out | refine bS ?_ GE940.out) | exact HB.out))) : w.heap.size ≤ gb952)); have n7_ := Aside0.mk ((by rw [hg]; exact (below_size (by repeat (first | (with_reducible first | exact HB.out | apply bA | apply bN | apply bD | refine bS ?_ GE939.out | refine bS ?_ GE940.out) | exact HB.out))) : w.heap.size ≤ gb952)); have n8_ := Aside0.mk ((by rw [hg]; exact Nat.ne_of_lt (blk_lt (g := gb939) (o := .cells #[.slice A1_0 l1_0.length c1_0, .slice (some ad944) l1_1.length c1_1] 59 (0, 0)) (by exact bF BK939.out)) : gb939 ≠ gb952)); have n9_ := Aside0.mk ((by rw [hg]; exact Nat.ne_of_gt (blk_lt (g := gb939) (o := .cells #[.slice A1_0 l1_0.length c1_0, .slice (some ad944) l1_1.length c1_1] 59 (0, 0)) (by exact bF BK939.out)) : gb952 ≠ gb939)); have n10_ := Aside0.mk ((by rw [hg]; exact Nat.ne_of_lt (blk_lt (g := gb940) (o := .cells #[.int .u64 a2_0, .int .u64 a2_1, .slice A2_2 l2_2.length c2_2, .int .u64 a2_3, .int .u64 a2_4] 61 (0, 0)) (by exact bF BK940.out)) : gb940 ≠ gb952)); have n11_ := Aside0.mk ((by rw [hg]; exact Nat.ne_of_gt (blk_lt (g := gb940) (o := .cells #[.int .u64 a2_0, .int .u64 a2_1, .slice A2_2 l2_2.length c2_2, .int .u64 a2_3, .int .u64 a2_4] 61 (0, 0)) (by exact bF BK940.out)) : gb952 ≠ gb940)); clear HO_8; clear HO_9; clear BK939; clear BK940; clear HB; have HO_8 := n0_; have HO_9 := n1_; have BK939 := n2_; have BK940 := n3_; have HB := n4_; have BK952 := n5_; have GW952 := n6_; have GE952 := n7_; have NB939_952 := n8_; have NB952_939 := n9_; have NB940_952 := n10_; have NB952_940 := n11_; clear n0_ n1_ n2_ n3_ n4_ n5_ n6_ n7_ n8_ n9_ n10_ n11_; clear hb hbox hg; have hnb121 := NB952_939.out; have hnc121 := NB939_952.out; have hnb122 := NB952_940.out; have hnc122 := NB940_952.out; have hcz123_0 : w120.cell? ⟨gb952, 0, none⟩ = some (.int .u64 0) := (blk_cell BK952.out 0).trans rfl; have hcz123_1 : w120.cell? ⟨gb952, 1, none⟩ = some (.int .u64 0) := (blk_cell BK952.out 1).trans rfl; have hfz123_0 := blk_frozen BK952.out 0; have hfz123_1 := blk_frozen BK952.out 1) | (go_at_call 29; (with_reducible refine (steeplelaw21_awake.calls kj26  t953 _ A114.out).mono ?_); rintro e w124 ⟨rfl, hb⟩; have n0_ := Aside0.mk (Kd.R_below (by (with_reducible repeat (first | apply Kd.R_alloc | apply Kd.R_drewN | apply Kd.R_drew)); exact (Kd.R_mono (Kd.R_far (p := ⟨gb952, 1, none⟩) (Kd.R_far (p := ⟨gb952, 0, none⟩) (Kd.R_mono HO_8.out (fun k_ hk => (⟨hk, hk.2⟩ : _ ∧ k_ ≠ gb952))) (fun _ hk => hk.2) (.int .u64 t949)) (fun _ hk => hk.2) (.int .u64 t950)) (fun _ h_ => h_.1))) hb); have n1_ := Aside0.mk (Kd.R_below (by (with_reducible repeat (first | apply Kd.R_alloc | apply Kd.R_drewN | apply Kd.R_drew)); exact (Kd.R_mono (Kd.R_far (p := ⟨gb952, 1, none⟩) (Kd.R_far (p := ⟨gb952, 0, none⟩) (Kd.R_mono HO_9.out (fun k_ hk => (⟨hk, hk.2⟩ : _ ∧ k_ ≠ gb952))) (fun _ hk => hk.2) (.int .u64 t949)) (fun _ hk => hk.2) (.int .u64 t950)) (fun _ h_ => h_.1))) hb); have n2_ := Aside0.mk (blk_below (g := gb939) (o := .cells #[.slice A1_0 l1_0.length c1_0, .slice (some ad944) l1_1.length c1_1] 59 (0, 0)) (by (with_reducible repeat (first | refine blk_drewN ?_ _ | refine blk_drew ?_ | refine blk_alloc ?_ _)); refine blk_far ?_ NB939_952.out _; (with_reducible repeat (first | refine blk_drewN ?_ _ | refine blk_drew ?_ | refine blk_alloc ?_ _)); refine blk_far ?_ NB939_952.out _; exact bF BK939.out) hb); have n3_ := Aside0.mk (blk_below (g := gb940) (o := .cells #[.int .u64 a2_0, .int .u64 a2_1, .slice A2_2 l2_2.length c2_2, .int .u64 a2_3, .int .u64 a2_4] 61 (0, 0)) (by (with_reducible repeat (first | refine blk_drewN ?_ _ | refine blk_drew ?_ | refine blk_alloc ?_ _)); refine blk_far ?_ NB940_952.out _; (with_reducible repeat (first | refine blk_drewN ?_ _ | refine blk_drew ?_ | refine blk_alloc ?_ _)); refine blk_far ?_ NB940_952.out _; exact bF BK940.out) hb); have n4_ := Aside0.mk (blk_below (g := gb952) (o := .cells #[.int .u64 t949, .int .u64 t950] 28 (0, 0)) (by (with_reducible repeat (first | refine blk_drewN ?_ _ | refine blk_drew ?_ | refine blk_alloc ?_ _)); refine blk_put (cs := #[.int .u64 t949, .int .u64 0]) ?_ 1 _ rfl; (with_reducible repeat (first | refine blk_drewN ?_ _ | refine blk_drew ?_ | refine blk_alloc ?_ _)); refine blk_put (cs := #[.int .u64 0, .int .u64 0]) ?_ 0 _ rfl; exact bF BK952.out) hb); have n5_ := Aside0.mk (below_step (by repeat (first | (with_reducible first | exact HB.out | apply bA | apply bN | apply bD | refine bS ?_ GE939.out | refine bS ?_ GE940.out | refine bS ?_ GE952.out) | exact HB.out)) hb); clear HO_8; clear HO_9; clear BK939; clear BK940; clear BK952; clear HB; have HO_8 := n0_; have HO_9 := n1_; have BK939 := n2_; have BK940 := n3_; have BK952 := n4_; have HB := n5_; clear n0_ n1_ n2_ n3_ n4_ n5_; (try clear hb); (try clear hb2); (try clear hk); (try clear hi))); try go_wp2_with (first | (go_at_call 33; (with_reducible refine (zero_Sum.calls kj26 a0 _ _ l1_0 _ _ l1_1 a2_0 a2_1 _ _ x8_26 t949 t950 t951 _ ?side1 ?side2 ?side3 ?side4 ?side5 ?side6 A48.out).mono ?_); (case side1 => repeat (first | exact (Kd.C_below HR1_0.out HB.out) | (with_reducible refine Kd.C_alloc ?_ _) | (with_reducible refine Kd.C_drewN ?_ _) | (with_reducible refine Kd.C_drew ?_))); (case side2 => exact HC1_0.out); (case side3 => repeat (first | exact (Kd.C_below HR1_1.out HB.out) | (with_reducible refine Kd.C_alloc ?_ _) | (with_reducible refine Kd.C_drewN ?_ _) | (with_reducible refine Kd.C_drew ?_))); (case side4 => exact HC1_1.out); (case side5 => repeat (first | exact (Kd.R_reads' HO_8.out).2.2 | (with_reducible refine Kd.C_alloc ?_ _) | (with_reducible refine Kd.C_drewN ?_ _) | (with_reducible refine Kd.C_drew ?_))); (case side6 => exact (Kd.R_reads' HO_8.out).2.1); rintro e w119 ⟨rfl, hb⟩; have n0_ := Aside0.mk (Kd.R_below (by exact rF HO_8.out) hb); have n1_ := Aside0.mk (Kd.R_below (by exact rF HO_9.out) hb); have n2_ := Aside0.mk (blk_below (g := gb939) (o := .cells #[.slice A1_0 l1_0.length c1_0, .slice (some ad944) l1_1.length c1_1] 59 (0, 0)) (by exact bF BK939.out) hb); have n3_ := Aside0.mk (blk_below (g := gb940) (o := .cells #[.int .u64 a2_0, .int .u64 a2_1, .slice A2_2 l2_2.length c2_2, .int .u64 a2_3, .int .u64 a2_4] 61 (0, 0)) (by exact bF BK940.out) hb); have n4_ := Aside0.mk (below_step (by repeat (first | (with_reducible first | exact HB.out | apply bA | apply bN | apply bD | refine bS ?_ GE939.out | refine bS ?_ GE940.out) | exact HB.out)) hb); clear HO_8; clear HO_9; clear BK939; clear BK940; clear HB; have HO_8 := n0_; have HO_9 := n1_; have BK939 := n2_; have BK940 := n3_; have HB := n4_; clear n0_ n1_ n2_ n3_ n4_; (try clear hb); (try clear hb2); (try clear hk); (try clear hi)) | ((with_reducible refine gate_dst (N := 11) rfl ?_); (try (refine gate_guard (by rfl) ?_; dsimp only)); refine box_event ?hg (N := 11) ?hd (cs := #[.int .u64 0, .int .u64 0]) (t := 28) ?hr ?_; (case hd => rfl); (case hg => rfl); (case hr => first | (go_simp; done) | (go_simp; rfl)); intro gb952 hg w120 hbox hb; have n0_ := Aside0.mk (Kd.R_below (Kd.R_elderB (by exact rF HO_8.out) gb952 (Nat.le_of_eq hg.symm)) hb); have n1_ := Aside0.mk (Kd.R_below (Kd.R_elderB (by exact rF HO_9.out) gb952 (Nat.le_of_eq hg.symm)) hb); have n2_ := Aside0.mk (blk_below (g := gb939) (o := .cells #[.slice A1_0 l1_0.length c1_0, .slice (some ad944) l1_1.length c1_1] 59 (0, 0)) (by exact bF BK939.out) hb); have n3_ := Aside0.mk (blk_below (g := gb940) (o := .cells #[.int .u64 a2_0, .int .u64 a2_1, .slice A2_2 l2_2.length c2_2, .int .u64 a2_3, .int .u64 a2_4] 61 (0, 0)) (by exact bF BK940.out) hb); have n4_ := Aside0.mk (below_step (by repeat (first | (with_reducible first | exact HB.out | apply bA | apply bN | apply bD | refine bS ?_ GE939.out | refine bS ?_ GE940.out) | exact HB.out)) hb); have n5_ := Aside0.mk (hbox); have n6_ := Aside0.mk ((by rw [hg]; exact (below_size (by repeat (first | (with_reducible first | exact HB.out | apply bA | apply bN | apply bD | refine bS ?_ GE939.out | refine bS ?_ GE940.out) | exact HB.out))) : w.heap.size ≤ gb952)); have n7_ := Aside0.mk ((by rw [hg]; exact (below_size (by repeat (first | (with_reducible first | exact HB.out | apply bA | apply bN | apply bD | refine bS ?_ GE939.out | refine bS ?_ GE940.out) | exact HB.out))) : w.heap.size ≤ gb952)); have n8_ := Aside0.mk ((by rw [hg]; exact Nat.ne_of_lt (blk_lt (g := gb939) (o := .cells #[.slice A1_0 l1_0.length c1_0, .slice (some ad944) l1_1.length c1_1] 59 (0, 0)) (by exact bF BK939.out)) : gb939 ≠ gb952)); have n9_ := Aside0.mk ((by rw [hg]; exact Nat.ne_of_gt (blk_lt (g := gb939) (o := .cells #[.slice A1_0 l1_0.length c1_0, .slice (some ad944) l1_1.length c1_1] 59 (0, 0)) (by exact bF BK939.out)) : gb952 ≠ gb939)); have n10_ := Aside0.mk ((by rw [hg]; exact Nat.ne_of_lt (blk_lt (g := gb940) (o := .cells #[.int .u64 a2_0, .int .u64 a2_1, .slice A2_2 l2_2.length c2_2, .int .u64 a2_3, .int .u64 a2_4] 61 (0, 0)) (by exact bF BK940.out)) : gb940 ≠ gb952)); have n11_ := Aside0.mk ((by rw [hg]; exact Nat.ne_of_gt (blk_lt (g := gb940) (o := .cells #[.int .u64 a2_0, .int .u64 a2_1, .slice A2_2 l2_2.length c2_2, .int .u64 a2_3, .int .u64 a2_4] 61 (0, 0)) (by exact bF BK940.out)) : gb952 ≠ gb940)); clear HO_8; clear HO_9; clear BK939; clear BK940; clear HB; have HO_8 := n0_; have HO_9 := n1_; have BK939 := n2_; have BK940 := n3_; have HB := n4_; have BK952 := n5_; have GW952 := n6_; have GE952 := n7_; have NB939_952 := n8_; have NB952_939 := n9_; have NB940_952 := n10_; have NB952_940 := n11_; clear n0_ n1_ n2_ n3_ n4_ n5_ n6_ n7_ n8_ n9_ n10_ n11_; clear hb hbox hg; have hnb121 := NB952_939.out; have hnc121 := NB939_952.out; have hnb122 := NB952_940.out; have hnc122 := NB940_952.out; have hcz123_0 : w120.cell? ⟨gb952, 0, none⟩ = some (.int .u64 0) := (blk_cell BK952.out 0).trans rfl; have hcz123_1 : w120.cell? ⟨gb952, 1, none⟩ = some (.int .u64 0) := (blk_cell BK952.out 1).trans rfl; have hfz123_0 := blk_frozen BK952.out 0; have hfz123_1 := blk_frozen BK952.out 1) | (go_at_call 29; (with_reducible refine (steeplelaw21_awake.calls kj26  t953 _ A114.out).mono ?_); rintro e w124 ⟨rfl, hb⟩; have n0_ := Aside0.mk (Kd.R_below (by (with_reducible repeat (first | apply Kd.R_alloc | apply Kd.R_drewN | apply Kd.R_drew)); exact (Kd.R_mono (Kd.R_far (p := ⟨gb952, 1, none⟩) (Kd.R_far (p := ⟨gb952, 0, none⟩) (Kd.R_mono HO_8.out (fun k_ hk => (⟨hk, hk.2⟩ : _ ∧ k_ ≠ gb952))) (fun _ hk => hk.2) (.int .u64 t949)) (fun _ hk => hk.2) (.int .u64 t950)) (fun _ h_ => h_.1))) hb); have n1_ := Aside0.mk (Kd.R_below (by (with_reducible repeat (first | apply Kd.R_alloc | apply Kd.R_drewN | apply Kd.R_drew)); exact (Kd.R_mono (Kd.R_far (p := ⟨gb952, 1, none⟩) (Kd.R_far (p := ⟨gb952, 0, none⟩) (Kd.R_mono HO_9.out (fun k_ hk => (⟨hk, hk.2⟩ : _ ∧ k_ ≠ gb952))) (fun _ hk => hk.2) (.int .u64 t949)) (fun _ hk => hk.2) (.int .u64 t950)) (fun _ h_ => h_.1))) hb); have n2_ := Aside0.mk (blk_below (g := gb939) (o := .cells #[.slice A1_0 l1_0.length c1_0, .slice (some ad944) l1_1.length c1_1] 59 (0, 0)) (by (with_reducible repeat (first | refine blk_drewN ?_ _ | refine blk_drew ?_ | refine blk_alloc ?_ _)); refine blk_far ?_ NB939_952.out _; (with_reducible repeat (first | refine blk_drewN ?_ _ | refine blk_drew ?_ | refine blk_alloc ?_ _)); refine blk_far ?_ NB939_952.out _; exact bF BK939.out) hb); have n3_ := Aside0.mk (blk_below (g := gb940) (o := .cells #[.int .u64 a2_0, .int .u64 a2_1, .slice A2_2 l2_2.length c2_2, .int .u64 a2_3, .int .u64 a2_4] 61 (0, 0)) (by (with_reducible repeat (first | refine blk_drewN ?_ _ | refine blk_drew ?_ | refine blk_alloc ?_ _)); refine blk_far ?_ NB940_952.out _; (with_reducible repeat (first | refine blk_drewN ?_ _ | refine blk_drew ?_ | refine blk_alloc ?_ _)); refine blk_far ?_ NB940_952.out _; exact bF BK940.out) hb); have n4_ := Aside0.mk (blk_below (g := gb952) (o := .cells #[.int .u64 t949, .int .u64 t950] 28 (0, 0)) (by (with_reducible repeat (first | refine blk_drewN ?_ _ | refine blk_drew ?_ | refine blk_alloc ?_ _)); refine blk_put (cs := #[.int .u64 t949, .int .u64 0]) ?_ 1 _ rfl; (with_reducible repeat (first | refine blk_drewN ?_ _ | refine blk_drew ?_ | refine blk_alloc ?_ _)); refine blk_put (cs := #[.int .u64 0, .int .u64 0]) ?_ 0 _ rfl; exact bF BK952.out) hb); have n5_ := Aside0.mk (below_step (by repeat (first | (with_reducible first | exact HB.out | apply bA | apply bN | apply bD | refine bS ?_ GE939.out | refine bS ?_ GE940.out | refine bS ?_ GE952.out) | exact HB.out)) hb); clear HO_8; clear HO_9; clear BK939; clear BK940; clear BK952; clear HB; have HO_8 := n0_; have HO_9 := n1_; have BK939 := n2_; have BK940 := n3_; have BK952 := n4_; have HB := n5_; clear n0_ n1_ n2_ n3_ n4_ n5_; (try clear hb); (try clear hb2); (try clear hk); (try clear hi))))
         go_ret
         exact ⟨by first | rfl | (simp [errW_none, errW_some] <;> rfl) | (simp [*, errW_none, errW_some] <;> rfl), by repeat (first | (with_reducible first | exact HB.out | apply bA | apply bN | apply bD | refine bS ?_ GE939.out | refine bS ?_ GE940.out | refine bS ?_ GE952.out) | exact HB.out)⟩
    ·rw [if_neg c25] at H
     exact absurd H (by simp)
end Go.Proofs.Ytoaepfgfbfgcdaa.Q
namespace Go.Proofs.Ytoaepfgfbfgcdaa.Q
open Go.RowKit Go.Proofs.YtoaepfgfbfgcdaaW.PrintWords Go.Proofs.YtoaepfgfbfgcdaaW.PrintLast Go.Proofs.YtoaepfgfbfgcdaaW.PrintMore
def Ev {α : Type} (f : Nat → Option α) (r : α) : Prop := ∃ k, ∀ m, k ≤ m → f m = some r
theorem Ev.const {α : Type} {o : Option α} {r : α} (h : o = some r) : Ev (fun _ => o) r := ⟨0, fun _ _ => h⟩
theorem Ev.pure {α : Type} (r : α) : Ev (fun _ => some r) r := ⟨0, fun _ _ => rfl⟩
theorem Ev.succ {α : Type} {f : Nat → Option α} {r : α} (h : Ev (fun k => f (k + 1)) r) : Ev f r := by
 obtain ⟨k, hk⟩ := h
 refine ⟨k + 1, fun m hm => ?_⟩
 obtain ⟨j, rfl⟩ : ∃ j, m = j + 1 := ⟨m - 1, by omega⟩
 exact hk j (by omega)
theorem Ev.bind {α β : Type} {f : Nat → Option α} {g : Nat → α → Option β} {a : α} {r : β} (h : Ev f a) (h2 : Ev (fun k => g k a) r) : Ev (fun k => (f k).bind (g k)) r := by
 obtain ⟨k, hk⟩ := h
 obtain ⟨j, hj⟩ := h2
 refine ⟨max k j, fun m hm => ?_⟩
 show (f m).bind (g m) = some r
 rw [hk m (Nat.le_trans (Nat.le_max_left _ _) hm)]
 exact hj m (Nat.le_trans (Nat.le_max_right _ _) hm)
theorem Ev.pos {α : Type} {c : Prop} [Decidable c] {f g : Nat → Option α} {r : α} (hc : c) (h : Ev f r) : Ev (fun k => if c then f k else g k) r := by
 obtain ⟨k, hk⟩ := h
 exact ⟨k, fun m hm => by show (if c then f m else g m) = _; rw [if_pos hc]; exact hk m hm⟩
theorem Ev.neg {α : Type} {c : Prop} [Decidable c] {f g : Nat → Option α} {r : α} (hc : ¬ c) (h : Ev g r) : Ev (fun k => if c then f k else g k) r := by
 obtain ⟨k, hk⟩ := h
 exact ⟨k, fun m hm => by show (if c then f m else g m) = _; rw [if_neg hc]; exact hk m hm⟩
theorem Ev.ite {α : Type} {c : Prop} [Decidable c] {f g : Nat → Option α} {r s : α} (h1 : c → Ev f r) (h2 : ¬ c → Ev g s) : Ev (fun k => if c then f k else g k) (if c then r else s) := by
 by_cases hc : c
 ·rw [if_pos hc]; exact Ev.pos hc (h1 hc)
 ·rw [if_neg hc]; exact Ev.neg hc (h2 hc)
theorem Ev.get {α : Type} {f : Nat → Option α} {r : α} (h : Ev f r) : ∃ k, f k = some r := ⟨h.choose, h.choose_spec _ (Nat.le_refl _)⟩
theorem Ev.uniq {α : Type} {f : Nat → Option α} {r s : α} (h : Ev f r) (h2 : Ev f s) : r = s := by
 obtain ⟨k, hk⟩ := h
 obtain ⟨j, hj⟩ := h2
 exact Option.some.inj ((hk (max k j) (Nat.le_max_left _ _)).symm.trans (hj (max k j) (Nat.le_max_right _ _)))
theorem Ev.of_mono {α : Type} {f : Nat → Option α} {r : α} (hm : ∀ k, LeO (f k) (f (k + 1))) (k : Nat) (h : f k = some r) : Ev f r := by
 refine ⟨k, fun m hkm => ?_⟩
 obtain ⟨d, rfl⟩ : ∃ d, m = k + d := ⟨m - k, by omega⟩
 clear hkm
 induction d with
 | zero => exact h
 | succ d ih => exact hm (k + d) r ih
theorem Ev.congr {α : Type} {f : Nat → Option α} {r s : α} (h : Ev f r) (e : r = s) : Ev f s := e ▸ h
theorem w64_succ {n : Nat} (h : n < 9223372036854775807) : wrap64 ((n : Int) + 1) = ((n + 1 : Nat) : Int) := by
 unfold wrap64; omega
theorem w64_id {n : Int} (h0 : -9223372036854775808 ≤ n) (h1 : n < 9223372036854775808) : wrap64 n = n := by
 unfold wrap64; omega
theorem getD_part {α : Type} (pre : List α) (x z : α) (r : List α) : (pre ++ x :: r).getD ((pre.length : Int)).toNat z = x := by
 simp
theorem lt_part {α : Type} (pre : List α) (x : α) (r : List α) : (pre.length : Int) < ((pre ++ x :: r).length : Int) := by
 simp; omega
theorem ge_part {α : Type} (pre : List α) : ¬ (pre.length : Int) < ((pre ++ ([] : List α)).length : Int) := by simp
def hiW (n : Nat) (x : Int) : Int := shr .u64 x (2 ^ n : Nat)
def loW (n : Nat) (x : Int) : Int := Go.bits .and .u64 x (2 ^ (2 ^ n) - 1 : Nat)
def joinW (n : Nat) (h l : Int) : Int := Go.bits .or .u64 (shl .u64 h (2 ^ n : Nat)) l
theorem below6 {n : Nat} (h : n < 6) : n = 0 ∨ n = 1 ∨ n = 2 ∨ n = 3 ∨ n = 4 ∨ n = 5 := by omega
theorem amount (n : Nat) (h : n < 6) : shl .i64 1 (wrap64 (((n + 1 : Nat) : Int) - 1)) = ((2 ^ n : Nat) : Int) ∧ shl .u64 1 (wrap64 (((n + 1 : Nat) : Int) - 1)) = ((2 ^ n : Nat) : Int) ∧ IntKind.u64.wrap (shl .u64 1 ((2 ^ n : Nat) : Int) - 1) = ((2 ^ (2 ^ n) - 1 : Nat) : Int) ∧ 0 ≤ wrap64 (((n + 1 : Nat) : Int) - 1) ∧ (0 : Int) ≤ ((2 ^ n : Nat) : Int) := by
 rcases below6 h with rfl | rfl | rfl | rfl | rfl | rfl <;> decide +kernel
theorem halves_eq (n : Nat) (h : n < 6) (x : Int) : tower_halves.f ((n + 1 : Nat) : Int) x = some (hiW n x, loW n x) := by
 obtain ⟨e1, e2, e3, e4, e5⟩ := amount n h
 unfold tower_halves.f
 rw [if_pos e4, e1, if_pos e5, e3]
 rfl
theorem join_eq (n : Nat) (h : n < 6) (a b : Int) : tower_join.f ((n + 1 : Nat) : Int) a b = some (joinW n a b) := by
 obtain ⟨e1, e2, e3, e4, e5⟩ := amount n h
 unfold tower_join.f
 rw [if_pos e4, e2]
 rfl
theorem w64_pred (n : Nat) (h : n < 6) : wrap64 (((n + 1 : Nat) : Int) - 1) = (n : Int) := by
 unfold wrap64; omega
def mulXS : Nat → Int → Int
 | 0, x => x
 | n + 1, x => joinW n (Go.bits .xor .u64 (loW n x) (mulXS n (hiW n x))) (hiW n x)
theorem mulX_ev : ∀ (n : Nat), n ≤ 6 → ∀ x, Ev (fun k => tower_mulX.f k (n : Int) x) (mulXS n x)
 | 0, _, x => by
  refine Ev.succ ?_
  simp only [tower_mulX.f]
  exact Ev.pos rfl (Ev.pure _)
 | n + 1, h, x => by
  refine Ev.succ ?_
  simp only [tower_mulX.f, halves_eq n (by omega), join_eq n (by omega), w64_pred n (by omega), Option.bind_some]
  exact Ev.neg (by omega) (Ev.bind (mulX_ev n (by omega) _) (Ev.pure _))
def mulS : Nat → Int → Int → Int
 | 0, a, b => Go.bits .and .u64 (Go.bits .and .u64 a b) 1
 | n + 1, a, b =>
  if a = 0 ∨ b = 0 then Go.bits .and .u64 (Go.bits .and .u64 a b) 1 else
  joinW n (Go.bits .xor .u64 (Go.bits .xor .u64 (Go.bits .xor .u64 (mulS n (Go.bits .xor .u64 (hiW n a) (loW n a)) (Go.bits .xor .u64 (hiW n b) (loW n b))) (mulS n (hiW n a) (hiW n b))) (mulS n (loW n a) (loW n b))) (mulXS n (mulS n (hiW n a) (hiW n b)))) (Go.bits .xor .u64 (mulS n (loW n a) (loW n b)) (mulS n (hiW n a) (hiW n b)))
theorem mul_ev : ∀ (n : Nat), n ≤ 6 → ∀ a b, Ev (fun k => tower_mul.f k (n : Int) a b) (mulS n a b)
 | 0, _, a, b => by
  refine Ev.succ ?_
  simp only [tower_mul.f]
  refine Ev.pos (by simp) (Ev.succ ?_)
  simp only [tower_mul.j0]
  exact Ev.pos trivial (Ev.pure _)
 | n + 1, h, a, b => by
  have J : ∀ c : Bool, (c = true ↔ a = 0 ∨ b = 0) → Ev (fun k => tower_mul.j0 k ((n + 1 : Nat) : Int) a b c) (mulS (n + 1) a b) := by
   intro c hc
   refine Ev.succ ?_
   simp only [tower_mul.j0, halves_eq n (by omega), join_eq n (by omega), w64_pred n (by omega), Option.bind_some]
   rw [mulS]
   by_cases h1 : c = true
   ·exact Ev.congr (Ev.pos h1 (Ev.pure _)) (by rw [if_pos (hc.1 h1)])
   ·refine Ev.congr (Ev.neg h1 (Ev.bind (mul_ev n (by omega) _ _) (Ev.bind (mul_ev n (by omega) _ _) (Ev.bind (mul_ev n (by omega) _ _) (Ev.bind (mulX_ev n (by omega) _) (Ev.pure _)))))) (by rw [if_neg (fun x => h1 (hc.2 x))])
  refine Ev.succ ?_
  simp only [tower_mul.f]
  refine Ev.neg (by omega) ?_
  by_cases ha : a = 0
  ·exact Ev.pos ha (J _ (by simp [ha]))
  ·exact Ev.neg ha (J _ (by simp [ha]))
def MulS (level : Int) (a b : S28) : S28 :=
 if ofB level a.f0 a.f1 = true ∧ ofB level b.f0 b.f1 = true then
  (if level ≤ 6 then ⟨0, mulS level.toNat a.f1 b.f1⟩ else
   ⟨Go.bits .xor .u64 (Go.bits .xor .u64 (Go.bits .xor .u64 (mulS 6 (Go.bits .xor .u64 a.f0 a.f1) (Go.bits .xor .u64 b.f0 b.f1)) (mulS 6 a.f0 b.f0)) (mulS 6 a.f1 b.f1)) (mulXS 6 (mulS 6 a.f0 b.f0)), Go.bits .xor .u64 (mulS 6 a.f1 b.f1) (mulS 6 a.f0 b.f0)⟩)
 else ⟨0, 0⟩
theorem of_level {level h l : Int} (e : ofB level h l = true) : 0 ≤ level ∧ level ≤ 7 := by
 have hc : level < 0 ∨ 7 < level ∨ (0 ≤ level ∧ level ≤ 7) := by omega
 rcases hc with h0 | h0 | h0
 ·have e0 : ofB level h l = false := by unfold ofB; repeat rw [if_neg (by omega)]
  rw [e0] at e; cases e
 ·have e0 : ofB level h l = false := by unfold ofB; repeat rw [if_neg (by omega)]
  rw [e0] at e; cases e
 ·exact h0
theorem Mul_ev (level : Int) (a b : S28) : Ev (fun k => tower_Mul.f k level a.f0 a.f1 b.f0 b.f1) ((MulS level a b).f0, (MulS level a b).f1) := by
 have J : ∀ c : Bool, (c = true ↔ ¬ (ofB level a.f0 a.f1 = true ∧ ofB level b.f0 b.f1 = true)) → Ev (fun k => tower_Mul.j0 k level c a.f0 a.f1 b.f0 b.f1) ((MulS level a b).f0, (MulS level a b).f1) := by
  intro c hc
  refine Ev.succ ?_
  simp only [tower_Mul.j0]
  unfold MulS
  by_cases h1 : c = true
  ·exact Ev.congr (Ev.pos h1 (Ev.pure _)) (by rw [if_neg (hc.1 h1)])
  ·have h2 : ofB level a.f0 a.f1 = true ∧ ofB level b.f0 b.f1 = true := Decidable.byContradiction (fun x => h1 (hc.2 x))
   have hL := of_level h2.1
   rw [if_pos h2]
   refine Ev.neg h1 ?_
   by_cases h6 : level ≤ 6
   ·refine Ev.congr (Ev.pos h6 (Ev.bind (a := mulS level.toNat a.f1 b.f1) ?_ (Ev.pure _))) (by rw [if_pos h6])
    have := mul_ev level.toNat (by omega) a.f1 b.f1
    rwa [Int.toNat_of_nonneg hL.1] at this
   ·exact Ev.congr (Ev.neg h6 (Ev.bind (mul_ev 6 (by omega) _ _) (Ev.bind (mul_ev 6 (by omega) _ _) (Ev.bind (mul_ev 6 (by omega) _ _) (Ev.bind (mulX_ev 6 (by omega) _) (Ev.pure _)))))) (by rw [if_neg h6])
 simp only [tower_Mul.f, octet_Of.f, Option.bind_some]
 by_cases h1 : ofB level a.f0 a.f1 = true
 ·exact Ev.pos h1 (J _ (by cases h2 : ofB level b.f0 b.f1 <;> simp [h1]))
 ·exact Ev.neg h1 (J _ (by simp [h1]))
theorem and_zero_l (a : Int) : Go.bits .and .u64 0 a = 0 := by
 unfold Go.bits
 simp
 decide +kernel
theorem and_zero_r (a : Int) : Go.bits .and .u64 a 0 = 0 := by
 unfold Go.bits
 simp
 decide +kernel
theorem mulS_zero_r (n : Nat) (a : Int) : mulS n a 0 = 0 := by
 cases n with
 | zero => rw [mulS, and_zero_r, and_zero_l]
 | succ n => rw [mulS, if_pos (Or.inr rfl), and_zero_r, and_zero_l]
theorem mulS_zero_l (n : Nat) (a : Int) : mulS n 0 a = 0 := by
 cases n with
 | zero => rw [mulS, and_zero_l, and_zero_l]
 | succ n => rw [mulS, if_pos (Or.inl rfl), and_zero_l, and_zero_l]
theorem hiW_zero (n : Nat) : hiW n 0 = 0 := by simp [hiW, shr]
theorem loW_zero (n : Nat) : loW n 0 = 0 := and_zero_l _
theorem joinW_zero (n : Nat) : joinW n 0 0 = 0 := by
 unfold joinW shl
 rw [Int.zero_mul]
 decide +kernel
theorem mulXS_zero : ∀ n, mulXS n 0 = 0
 | 0 => rfl
 | n + 1 => by
  rw [mulXS, hiW_zero, loW_zero, mulXS_zero n]
  rw [show Go.bits .xor .u64 0 0 = 0 from by decide +kernel, joinW_zero]
theorem MulS_zero_r (level : Int) (a : S28) : MulS level a ⟨0, 0⟩ = ⟨0, 0⟩ := by
 unfold MulS
 simp only [mulS_zero_r, mulXS_zero, show Go.bits .xor .u64 0 0 = 0 from by decide +kernel, ite_self]
theorem MulS_zero_l (level : Int) (a : S28) : MulS level ⟨0, 0⟩ a = ⟨0, 0⟩ := by
 unfold MulS
 simp only [mulS_zero_l, mulXS_zero, show Go.bits .xor .u64 0 0 = 0 from by decide +kernel, ite_self]
end Go.Proofs.Ytoaepfgfbfgcdaa.Q
set_option linter.unusedSimpArgs false
set_option linter.unusedVariables false
namespace Go.Proofs.Ytoaepfgfbfgcdaa.Steeple
class R2 (R : Type) extends Add R, Mul R where
 zero : R
 one : R
 add_assoc : ∀ a b c : R, a + b + c = a + (b + c)
 add_comm : ∀ a b : R, a + b = b + a
 add_zero : ∀ a : R, a + zero = a
 add_self : ∀ a : R, a + a = zero
 mul_assoc : ∀ a b c : R, a * b * c = a * (b * c)
 mul_comm : ∀ a b : R, a * b = b * a
 mul_one : ∀ a : R, a * one = a
 mul_add : ∀ a b c : R, a * (b + c) = a * b + a * c
instance {R : Type} [R2 R] : Zero R := ⟨R2.zero⟩
instance {R : Type} [R2 R] : One R := ⟨R2.one⟩
namespace R2
section
variable {R : Type} [R2 R]
theorem addAssoc (a b c : R) : a + b + c = a + (b + c) := R2.add_assoc a b c
theorem addComm (a b : R) : a + b = b + a := R2.add_comm a b
theorem addLeft (a b c : R) : a + (b + c) = b + (a + c) := by rw [← addAssoc, addComm a b, addAssoc]
theorem addZero (a : R) : a + 0 = a := R2.add_zero a
theorem zeroAdd (a : R) : 0 + a = a := by rw [addComm, addZero]
theorem addSelf (a : R) : a + a = 0 := R2.add_self a
theorem addCancel (a b : R) : a + (a + b) = b := by rw [← addAssoc, addSelf, zeroAdd]
theorem mulAssoc (a b c : R) : a * b * c = a * (b * c) := R2.mul_assoc a b c
theorem mulComm (a b : R) : a * b = b * a := R2.mul_comm a b
theorem mulLeft (a b c : R) : a * (b * c) = b * (a * c) := by rw [← mulAssoc, mulComm a b, mulAssoc]
theorem mulOne (a : R) : a * 1 = a := R2.mul_one a
theorem oneMul (a : R) : 1 * a = a := by rw [mulComm, mulOne]
theorem mulAdd (a b c : R) : a * (b + c) = a * b + a * c := R2.mul_add a b c
theorem addMul (a b c : R) : (a + b) * c = a * c + b * c := by rw [mulComm, mulAdd, mulComm c a, mulComm c b]
theorem mulZero (a : R) : a * 0 = 0 := by
 have h : a * (0 + 0) = a * 0 + a * 0 := mulAdd a 0 0
 rw [addSelf] at h; rw [addSelf] at h; exact h
theorem zeroMul (a : R) : 0 * a = 0 := by rw [mulComm, mulZero]
theorem add_eq_zero {a b : R} (h : a + b = 0) : a = b := by
 have : a + b + b = 0 + b := by rw [h]
 rwa [addAssoc, addSelf, addZero, zeroAdd] at this
theorem add_left_cancel {a b c : R} (h : a + b = a + c) : b = c := by
 have : a + (a + b) = a + (a + c) := by rw [h]
 rwa [addCancel, addCancel] at this
end
end R2
class R2X (R : Type) extends R2 R where
 x : R
structure Ext (R : Type) where
 hi : R
 lo : R
namespace Ext
variable {R : Type}
theorem ext' {a b : Ext R} (h : a.hi = b.hi) (l : a.lo = b.lo) : a = b := by cases a; cases b; simp_all
variable [R2X R]
def add (a b : Ext R) : Ext R := ⟨a.hi + b.hi, a.lo + b.lo⟩
def mul (a b : Ext R) : Ext R := ⟨a.hi * b.lo + a.lo * b.hi + R2X.x * (a.hi * b.hi), a.lo * b.lo + a.hi * b.hi⟩
instance : R2X (Ext R) where
 add := add
 mul := mul
 zero := ⟨0, 0⟩
 one := ⟨0, 1⟩
 x := ⟨1, 0⟩
 add_assoc a b c := ext' (R2.addAssoc ..) (R2.addAssoc ..)
 add_comm a b := ext' (R2.addComm ..) (R2.addComm ..)
 add_zero a := ext' (R2.addZero _) (R2.addZero _)
 add_self a := ext' (R2.addSelf _) (R2.addSelf _)
 mul_assoc a b c := by
  show mul (mul a b) c = mul a (mul b c)
  apply ext' <;> simp only [mul, R2.mulAdd, R2.addMul, R2.mulAssoc, R2.mulComm, R2.mulLeft, R2.addAssoc, R2.addComm, R2.addLeft, R2.addSelf, R2.addCancel, R2.addZero, R2.zeroAdd]
 mul_comm a b := by
  show mul a b = mul b a
  apply ext' <;> simp only [mul, R2.mulAdd, R2.addMul, R2.mulAssoc, R2.mulComm, R2.mulLeft, R2.addAssoc, R2.addComm, R2.addLeft, R2.addSelf, R2.addCancel, R2.addZero, R2.zeroAdd]
 mul_one a := by
  show mul a ⟨0, 1⟩ = a
  apply ext' <;> simp only [mul, R2.mulOne, R2.mulZero, R2.addZero, R2.zeroAdd]
 mul_add a b c := by
  show mul a (add b c) = add (mul a b) (mul a c)
  apply ext' <;> simp only [mul, add, R2.mulAdd, R2.addMul, R2.mulAssoc, R2.mulComm, R2.mulLeft, R2.addAssoc, R2.addComm, R2.addLeft, R2.addSelf, R2.addCancel, R2.addZero, R2.zeroAdd]
end Ext
def Lv : Nat → Type
 | 0 => Bool
 | n + 1 => Ext (Lv n)
@[reducible] def bitRing : R2X Bool where
 add := xor
 mul := and
 zero := false
 one := true
 x := true
 add_assoc := by decide
 add_comm := by decide
 add_zero := by decide
 add_self := by decide
 mul_assoc := by decide
 mul_comm := by decide
 mul_one := by decide
 mul_add := by decide
@[reducible] def lvRing : (n : Nat) → R2X (Lv n)
 | 0 => bitRing
 | n + 1 => @Ext.instR2X (Lv n) (lvRing n)
instance (n : Nat) : R2X (Lv n) := lvRing n
namespace Lv
def hi {n : Nat} (a : Lv (n + 1)) : Lv n := Ext.hi a
def lo {n : Nat} (a : Lv (n + 1)) : Lv n := Ext.lo a
def mk {n : Nat} (h l : Lv n) : Lv (n + 1) := Ext.mk h l
def gen (n : Nat) : Lv n := R2X.x
theorem ext {n : Nat} {a b : Lv (n + 1)} (h : hi a = hi b) (l : lo a = lo b) : a = b := Ext.ext' h l
theorem mk_hi_lo {n : Nat} (a : Lv (n + 1)) : mk (hi a) (lo a) = a := rfl
@[simp] theorem hi_mk {n : Nat} (h l : Lv n) : hi (mk h l) = h := rfl
@[simp] theorem lo_mk {n : Nat} (h l : Lv n) : lo (mk h l) = l := rfl
theorem mk_add {n : Nat} (a b c d : Lv n) : mk a b + mk c d = mk (a + c) (b + d) := rfl
theorem mk_mul {n : Nat} (a b c d : Lv n) : mk a b * mk c d = mk (a * d + b * c + gen n * (a * c)) (b * d + a * c) := rfl
theorem hi_add {n : Nat} (a b : Lv (n + 1)) : hi (a + b) = hi a + hi b := rfl
theorem lo_add {n : Nat} (a b : Lv (n + 1)) : lo (a + b) = lo a + lo b := rfl
theorem hi_mul {n : Nat} (a b : Lv (n + 1)) : hi (a * b) = hi a * lo b + lo a * hi b + gen n * (hi a * hi b) := rfl
theorem lo_mul {n : Nat} (a b : Lv (n + 1)) : lo (a * b) = lo a * lo b + hi a * hi b := rfl
theorem zero_mk (n : Nat) : (0 : Lv (n + 1)) = mk 0 0 := rfl
theorem one_mk (n : Nat) : (1 : Lv (n + 1)) = mk 0 1 := rfl
theorem gen_mk (n : Nat) : gen (n + 1) = mk 1 0 := rfl
theorem hi_zero (n : Nat) : hi (0 : Lv (n + 1)) = 0 := rfl
theorem lo_zero (n : Nat) : lo (0 : Lv (n + 1)) = 0 := rfl
theorem hi_one (n : Nat) : hi (1 : Lv (n + 1)) = 0 := rfl
theorem lo_one (n : Nat) : lo (1 : Lv (n + 1)) = 1 := rfl
theorem gen_zero : gen 0 = 1 := rfl
theorem one_ne_zero : (n : Nat) → (1 : Lv n) ≠ 0
 | 0 => by intro h; exact absurd (show true = false from h) (by decide)
 | n + 1 => fun h => one_ne_zero n (congrArg lo h)
def tr : (n : Nat) → Lv n → Bool
 | 0, b => b
 | n + 1, a => tr n (hi a * gen n)
theorem tr_add : (n : Nat) → (a b : Lv n) → tr n (a + b) = xor (tr n a) (tr n b)
 | 0, _, _ => rfl
 | n + 1, a, b => by
  show tr n ((hi a + hi b) * gen n) = _
  rw [R2.addMul, tr_add n]; rfl
theorem tr_sq : (n : Nat) → (a : Lv n) → tr n (a * a) = tr n a
 | 0, a => by cases (show Bool from a) <;> rfl
 | n + 1, a => by
  show tr n ((hi a * lo a + lo a * hi a + gen n * (hi a * hi a)) * gen n) = tr n (hi a * gen n)
  have : (hi a * lo a + lo a * hi a + gen n * (hi a * hi a)) * gen n = (hi a * gen n) * (hi a * gen n) := by
   simp only [R2.mulAdd, R2.addMul, R2.mulAssoc, R2.mulComm, R2.mulLeft, R2.addAssoc, R2.addComm, R2.addLeft, R2.addSelf, R2.addCancel, R2.addZero, R2.zeroAdd]
  rw [this, tr_sq n]
theorem tr_gen : (n : Nat) → tr n (gen n) = true
 | 0 => rfl
 | n + 1 => by
  show tr n (1 * gen n) = true
  rw [R2.oneMul, tr_gen n]
def ginv : (n : Nat) → Lv n
 | 0 => 1
 | n + 1 => mk 1 (gen n)
theorem gen_mul_ginv : (n : Nat) → gen n * ginv n = 1
 | 0 => rfl
 | n + 1 => by
  show mk 1 0 * mk 1 (gen n) = mk 0 1
  rw [mk_mul]
  simp only [R2.mulOne, R2.zeroMul, R2.oneMul, R2.addZero, R2.zeroAdd, R2.addSelf]
theorem tr_ginv : (n : Nat) → tr n (ginv n) = true
 | 0 => rfl
 | n + 1 => by
  show tr n (1 * gen n) = true
  rw [R2.oneMul, tr_gen n]
theorem tr_zero (n : Nat) : tr n 0 = false := by
 have := tr_add n 0 0
 rw [R2.addZero] at this
 cases h : tr n 0 <;> simp_all
def nrm {n : Nat} (a : Lv (n + 1)) : Lv n := lo a * (lo a + gen n * hi a) + hi a * hi a
def conj {n : Nat} (a : Lv (n + 1)) : Lv (n + 1) := mk (hi a) (lo a + gen n * hi a)
theorem mul_conj {n : Nat} (a : Lv (n + 1)) : a * conj a = mk 0 (nrm a) := by
 apply ext
 ·rw [hi_mul]
  simp only [conj, nrm, hi_mk, lo_mk, R2.mulAdd, R2.addMul, R2.mulAssoc, R2.mulComm, R2.mulLeft, R2.addAssoc, R2.addComm, R2.addLeft, R2.addSelf, R2.addCancel, R2.addZero, R2.zeroAdd]
 ·rw [lo_mul]; rfl
def inv : (n : Nat) → Lv n → Lv n
 | 0, b => b
 | n + 1, a => mk (hi a * inv n (nrm a)) ((lo a + gen n * hi a) * inv n (nrm a))
theorem nrm_ne (n : Nat) (hf : ∀ a : Lv n, a ≠ 0 → a * inv n a = 1) (a : Lv (n + 1)) (h : nrm a = 0) : a = 0 := by
 have key : ∀ x y : Lv n, x * y = 0 → x ≠ 0 → y = 0 := by
  intro x y hxy hx
  have h1 := hf x hx
  calc y = (x * inv n x) * y := by rw [h1, R2.oneMul]
   _ = inv n x * (x * y) := by rw [R2.mulComm x, R2.mulAssoc]
   _ = 0 := by rw [hxy, R2.mulZero]
 by_cases hh : hi a = 0
 ·have hl : lo a * lo a = 0 := by
   have := h; unfold nrm at this; rw [hh] at this
   simpa only [R2.mulZero, R2.addZero] using this
  have : lo a = 0 := by
   by_cases hz : lo a = 0
   ·exact hz
   ·exact key _ _ hl hz
  exact ext (by rw [hh]; rfl) (by rw [this]; rfl)
 ·exfalso
  have hi1 := hf _ hh
  have hg := gen_mul_ginv n
  let t := lo a * (inv n (hi a) * ginv n)
  have e : t * t + t = ginv n * ginv n := by
   have e1 : (lo a * lo a + gen n * (hi a * lo a) + hi a * hi a) = 0 := by
    have := h; unfold nrm at this
    rw [← this]
    simp only [R2.mulAdd, R2.addMul, R2.mulAssoc, R2.mulComm, R2.mulLeft, R2.addAssoc, R2.addComm, R2.addLeft]
   have e2 : (lo a * lo a + gen n * (hi a * lo a) + hi a * hi a) * (inv n (hi a) * inv n (hi a) * (ginv n * ginv n)) = 0 := by rw [e1, R2.zeroMul]
   have e3 : (lo a * lo a + gen n * (hi a * lo a) + hi a * hi a) * (inv n (hi a) * inv n (hi a) * (ginv n * ginv n)) = t * t + (gen n * ginv n) * ((hi a * inv n (hi a)) * t) + (hi a * inv n (hi a)) * (hi a * inv n (hi a)) * (ginv n * ginv n) := by
    simp only [t, R2.mulAdd, R2.addMul, R2.mulAssoc, R2.mulComm, R2.mulLeft, R2.addAssoc, R2.addComm, R2.addLeft]
   rw [e3, hi1, hg] at e2
   simp only [R2.oneMul] at e2
   exact R2.add_eq_zero e2
  have e4 := congrArg (tr n) e
  rw [tr_add, tr_sq, tr_sq, tr_ginv] at e4
  cases h5 : tr n t <;> rw [h5] at e4 <;> simp at e4
theorem mul_inv : (n : Nat) → (a : Lv n) → a ≠ 0 → a * inv n a = 1
 | 0, a, h => by
  have : a = true := by
   have h2 : ∀ b : Bool, b ≠ false → b = true := by decide
   exact h2 a h
  rw [this]; rfl
 | n + 1, a, h => by
  have hn : nrm a ≠ 0 := fun e => h (nrm_ne n (mul_inv n) a e)
  have h1 := mul_inv n _ hn
  have e : inv (n + 1) a = conj a * mk 0 (inv n (nrm a)) := by
   apply ext
   ·rw [hi_mul]; simp only [inv, conj, hi_mk, lo_mk, R2.mulZero, R2.addZero]
   ·rw [lo_mul]; simp only [inv, conj, hi_mk, lo_mk, R2.mulZero, R2.addZero]
  rw [e, ← R2.mulAssoc, mul_conj, mk_mul, h1]
  simp only [R2.mulZero, R2.zeroMul, R2.addZero]
  rfl
theorem mul_eq_zero {n : Nat} {a b : Lv n} (h : a * b = 0) : a = 0 ∨ b = 0 := by
 by_cases ha : a = 0
 ·exact .inl ha
 ·refine .inr ?_
  have h1 := mul_inv n a ha
  have : b = (a * inv n a) * b := by rw [h1, R2.oneMul]
  rw [this, R2.mulComm a, R2.mulAssoc, h, R2.mulZero]
theorem inv_zero : (n : Nat) → inv n 0 = 0
 | 0 => rfl
 | n + 1 => by
  have : nrm (0 : Lv (n + 1)) = 0 := by
   show (0 : Lv n) * _ + 0 * 0 = 0
   rw [R2.zeroMul, R2.zeroMul, R2.addZero]
  show mk (0 * inv n (nrm 0)) ((0 + gen n * 0) * inv n (nrm 0)) = mk 0 0
  rw [this, inv_zero n]
  simp only [R2.mulZero]
end Lv
namespace Lv
def up {n : Nat} (a : Lv n) : Lv (n + 1) := mk 0 a
theorem up_add {n : Nat} (a b : Lv n) : up (a + b) = up a + up b := by
 show mk 0 (a + b) = mk (0 + 0) (a + b)
 rw [R2.addZero]
theorem up_mul {n : Nat} (a b : Lv n) : up (a * b) = up a * up b := by
 unfold up; rw [mk_mul]
 simp only [R2.mulZero, R2.zeroMul, R2.addZero, R2.zeroAdd]
theorem up_zero (n : Nat) : up (0 : Lv n) = 0 := rfl
theorem up_one (n : Nat) : up (1 : Lv n) = 1 := rfl
theorem up_inj {n : Nat} {a b : Lv n} (h : up a = up b) : a = b := congrArg lo h
theorem mk_mul_up {n : Nat} (h l g : Lv n) : mk h l * up g = mk (h * g) (l * g) := by
 unfold up; rw [mk_mul]
 simp only [R2.mulZero, R2.zeroMul, R2.addZero, R2.zeroAdd]
def sqn {n : Nat} : Nat → Lv n → Lv n
 | 0, a => a
 | j + 1, a => sqn j a * sqn j a
theorem sqn_add {n : Nat} (j : Nat) (a b : Lv n) : sqn j (a + b) = sqn j a + sqn j b := by
 induction j with
 | zero => rfl
 | succ j ih =>
  simp only [sqn, ih]
  simp only [R2.mulAdd, R2.addMul, R2.mulAssoc, R2.mulComm, R2.mulLeft, R2.addAssoc, R2.addComm, R2.addLeft, R2.addSelf, R2.addCancel, R2.addZero, R2.zeroAdd]
theorem sqn_mul {n : Nat} (j : Nat) (a b : Lv n) : sqn j (a * b) = sqn j a * sqn j b := by
 induction j with
 | zero => rfl
 | succ j ih =>
  simp only [sqn, ih]
  simp only [R2.mulAssoc, R2.mulComm, R2.mulLeft]
theorem sqn_one {n : Nat} (j : Nat) : sqn j (1 : Lv n) = 1 := by
 induction j with
 | zero => rfl
 | succ j ih => simp only [sqn, ih, R2.mulOne]
theorem sqn_up {n : Nat} (j : Nat) (a : Lv n) : sqn j (up a) = up (sqn j a) := by
 induction j with
 | zero => rfl
 | succ j ih => simp only [sqn, ih, up_mul]
theorem sqn_sqn {n : Nat} (j k : Nat) (a : Lv n) : sqn (j + k) a = sqn j (sqn k a) := by
 induction j with
 | zero => rw [Nat.zero_add]; rfl
 | succ j ih => rw [Nat.succ_add]; simp only [sqn, ih]
theorem sqn_all : (n : Nat) → (a : Lv n) → sqn (2 ^ n) a = a
 | 0, a => by
  have h : ∀ b : Bool, and b b = b := by decide
  exact h a
 | n + 1, a => by
  have ih := sqn_all n
  let X : Lv (n + 1) := mk 1 0
  have ha : ∀ h l : Lv n, mk h l = up h * X + up l := by
   intro h l
   show mk h l = mk 0 h * mk 1 0 + mk 0 l
   rw [mk_mul, mk_add]
   simp only [R2.mulZero, R2.zeroMul, R2.mulOne, R2.addZero, R2.zeroAdd]
  have hX : X * X = up (gen n) * X + 1 := by
   show mk 1 0 * mk 1 0 = mk 0 (gen n) * mk 1 0 + mk 0 1
   rw [mk_mul, mk_mul, mk_add]
   simp only [R2.mulZero, R2.zeroMul, R2.mulOne, R2.addZero, R2.zeroAdd]
  let Y := sqn (2 ^ n) X
  have hY : Y * Y = up (gen n) * Y + 1 := by
   show sqn (2 ^ n) X * sqn (2 ^ n) X = up (gen n) * sqn (2 ^ n) X + 1
   rw [← sqn_mul, hX, sqn_add, sqn_mul, sqn_up, ih, sqn_one]
  have hr : (Y + X) * (Y + X + up (gen n)) = 0 := by
   have e : (Y + X) * (Y + X + up (gen n)) = (Y * Y + up (gen n) * Y + 1) + (X * X + up (gen n) * X + 1) := by
    simp only [R2.mulAdd, R2.addMul, R2.mulAssoc, R2.mulComm, R2.mulLeft, R2.addAssoc, R2.addComm, R2.addLeft, R2.addSelf, R2.addCancel, R2.addZero, R2.zeroAdd]
   rw [e, hY, hX]
   simp only [R2.addAssoc, R2.addComm, R2.addLeft, R2.addSelf, R2.addCancel, R2.addZero, R2.zeroAdd]
  have hYY : sqn (2 ^ n) Y = X := by
   rcases mul_eq_zero hr with h | h
   ·have hYX := R2.add_eq_zero h
    have : sqn (2 ^ n) Y = sqn (2 ^ n) X := by rw [hYX]
    rw [this]; exact hYX
   ·have hYX : Y = X + up (gen n) := R2.add_eq_zero (by rw [← R2.addAssoc]; exact h)
    have : sqn (2 ^ n) Y = sqn (2 ^ n) (X + up (gen n)) := congrArg _ hYX
    rw [this, sqn_add, sqn_up, ih]
    show Y + up (gen n) = X
    rw [hYX, R2.addAssoc, R2.addSelf, R2.addZero]
  have h2 : ∀ b : Lv (n + 1), sqn (2 ^ n) (sqn (2 ^ n) b) = b := by
   intro b
   have hb := ha (hi b) (lo b)
   rw [mk_hi_lo] at hb
   have : sqn (2 ^ n) b = up (hi b) * Y + up (lo b) := by
    have := congrArg (sqn (2 ^ n)) hb
    rw [sqn_add, sqn_mul, sqn_up, sqn_up, ih, ih] at this
    exact this
   rw [this, sqn_add, sqn_mul, sqn_up, sqn_up, ih, ih, hYY]
   exact hb.symm
  have e : 2 ^ (n + 1) = 2 ^ n + 2 ^ n := by rw [Nat.pow_succ]; omega
  rw [e, sqn_sqn]
  exact h2 a
def sqs {n : Nat} (a : Lv n) : Nat → Lv n
 | 0 => 1
 | m + 1 => sqs a m * sqn (m + 1) a
theorem sqs_eq {n : Nat} (a : Lv n) (m : Nat) : (a * sqs a m) * a = sqn (m + 1) a := by
 induction m with
 | zero => simp only [sqs, sqn, R2.mulOne]
 | succ m ih =>
  have : a * sqs a (m + 1) * a = (a * sqs a m * a) * sqn (m + 1) a := by
   simp only [sqs, R2.mulAssoc, R2.mulComm, R2.mulLeft]
  rw [this, ih]; rfl
theorem inv_unique {n : Nat} {a b : Lv n} (h : a * b = 1) : b = inv n a := by
 have ha : a ≠ 0 := by
  intro e; rw [e, R2.zeroMul] at h; exact one_ne_zero n h.symm
 have h1 := mul_inv n a ha
 calc b = (a * inv n a) * b := by rw [h1, R2.oneMul]
  _ = inv n a * (a * b) := by rw [R2.mulComm a, R2.mulAssoc]
  _ = inv n a := by rw [h, R2.mulOne]
theorem sqs_inv {n : Nat} (a : Lv n) (hn : 0 < n) : sqs a (2 ^ n - 1) = inv n a := by
 have hp : 2 ≤ 2 ^ n := by
  have := Nat.pow_le_pow_right (show 0 < 2 by decide) hn
  simpa using this
 by_cases ha : a = 0
 ·subst ha
  rw [inv_zero]
  obtain ⟨m, hm⟩ : ∃ m, 2 ^ n - 1 = m + 1 := ⟨2 ^ n - 2, by omega⟩
  rw [hm]
  have : ∀ j, sqn j (0 : Lv n) = 0 := by
   intro j
   induction j with
   | zero => rfl
   | succ j ih => simp only [sqn, ih, R2.mulZero]
  show sqs 0 m * sqn (m + 1) 0 = 0
  rw [this, R2.mulZero]
 ·apply inv_unique
  have h := sqs_eq a (2 ^ n - 1)
  rw [show 2 ^ n - 1 + 1 = 2 ^ n by omega, sqn_all] at h
  have h1 := mul_inv n a ha
  calc a * sqs a (2 ^ n - 1) = (a * sqs a (2 ^ n - 1) * a) * inv n a := by rw [R2.mulAssoc, h1, R2.mulOne]
   _ = 1 := by rw [h, h1]
theorem inv_up {n : Nat} (a : Lv n) : inv (n + 1) (up a) = up (inv n a) := by
 by_cases ha : a = 0
 ·subst ha; rw [up_zero, inv_zero, inv_zero, up_zero]
 ·exact (inv_unique (by rw [← up_mul, mul_inv n a ha, up_one])).symm
end Lv
end Go.Proofs.Ytoaepfgfbfgcdaa.Steeple
namespace Go.Proofs.Ytoaepfgfbfgcdaa.Q
open Go.RowKit Go.Proofs.YtoaepfgfbfgcdaaW.PrintWords Go.Proofs.YtoaepfgfbfgcdaaW.PrintLast Go.Proofs.YtoaepfgfbfgcdaaW.PrintMore
open Go.Proofs.Ytoaepfgfbfgcdaa.Steeple
theorem u64_wrap {n : Nat} (h : n < 2 ^ 64) : IntKind.u64.wrap (n : Int) = (n : Int) := by
 have : IntKind.u64.wrap (n : Int) = (n : Int) % 18446744073709551616 := by simp [IntKind.wrap, IntKind.bits, IntKind.signed]
 rw [this]; omega
theorem u64_wraps : ∀ n : Int, 0 ≤ n → n < 2 ^ 64 → IntKind.u64.wrap n = n := by
 intro n h0 h1
 have : IntKind.u64.wrap n = n % 18446744073709551616 := by simp [IntKind.wrap, IntKind.bits, IntKind.signed]
 rw [this]; omega
theorem xor_nat {a b : Nat} (ha : a < 2 ^ 64) (hb : b < 2 ^ 64) : Go.bits .xor .u64 (a : Int) (b : Int) = ((a ^^^ b : Nat) : Int) := by
 have hk : (IntKind.u64).bits = 64 := rfl
 have h1 : a % 2 ^ 64 = a := Nat.mod_eq_of_lt ha
 have h2 : b % 2 ^ 64 = b := Nat.mod_eq_of_lt hb
 simp only [Go.bits, BitVec.ofInt_natCast, BitVec.toNat_xor, BitVec.toNat_ofNat, hk, h1, h2]
 exact u64_wrap (Nat.xor_lt_two_pow ha hb)
theorem and_nat {a b : Nat} (ha : a < 2 ^ 64) (hb : b < 2 ^ 64) : Go.bits .and .u64 (a : Int) (b : Int) = ((a &&& b : Nat) : Int) := (bits_nat .u64 64 (Nat.le_refl _) u64_wraps a b ha hb).1
theorem or_nat {a b : Nat} (ha : a < 2 ^ 64) (hb : b < 2 ^ 64) : Go.bits .or .u64 (a : Int) (b : Int) = ((a ||| b : Nat) : Int) := (bits_nat .u64 64 (Nat.le_refl _) u64_wraps a b ha hb).2
def sz (n : Nat) : Nat := 2 ^ 2 ^ n
theorem sz_pos (n : Nat) : 0 < sz n := Nat.two_pow_pos _
theorem sz_succ (n : Nat) : sz (n + 1) = sz n * sz n := by unfold sz; rw [Nat.pow_succ 2 n, Nat.mul_two, Nat.pow_add]
theorem sz_two (n : Nat) : 2 ≤ sz n := by
 unfold sz
 have : 2 ^ 1 ≤ 2 ^ 2 ^ n := Nat.pow_le_pow_right (by decide) (Nat.two_pow_pos n)
 simpa using this
theorem sz_le {n : Nat} (h : n ≤ 6) : sz n ≤ 2 ^ 64 := Nat.pow_le_pow_right (by decide) (show 2 ^ n ≤ 2 ^ 6 from Nat.pow_le_pow_right (by decide) h)
theorem hiW_nat (n a : Nat) (h : n < 6) : hiW n (a : Int) = ((a / sz n : Nat) : Int) := by
 unfold hiW shr sz
 have hk : (IntKind.u64).bits = 64 := rfl
 have h2 : 2 ^ n ≤ 2 ^ 6 := Nat.pow_le_pow_right (by decide) (by omega)
 rw [hk, Int.toNat_natCast, Nat.min_eq_left h2]
 simp
theorem loW_nat (n a : Nat) (h : n < 6) (ha : a < 2 ^ 64) : loW n (a : Int) = ((a % sz n : Nat) : Int) := by
 unfold loW sz
 have h1 : 2 ^ 2 ^ n ≤ 2 ^ 64 := sz_le (by omega)
 have h2 : 0 < 2 ^ 2 ^ n := sz_pos n
 rw [and_nat ha (by omega), Nat.and_two_pow_sub_one_eq_mod]
theorem joinW_nat (n a b : Nat) (h : n < 6) (ha : a < sz n) (hb : b < sz n) : joinW n (a : Int) (b : Int) = ((a * sz n + b : Nat) : Int) := by
 unfold joinW shl
 have hk : (IntKind.u64).bits = 64 := rfl
 have h2 : 2 ^ n ≤ 2 ^ 6 := Nat.pow_le_pow_right (by decide) (by omega)
 have h3 : sz n * sz n ≤ 2 ^ 64 := by rw [← sz_succ]; exact sz_le (by omega)
 have h4 : a * sz n < sz n * sz n := Nat.mul_lt_mul_of_pos_right ha (sz_pos n)
 rw [hk, Int.toNat_natCast, Nat.min_eq_left h2]
 rw [show (a : Int) * 2 ^ 2 ^ n = ((a * sz n : Nat) : Int) by unfold sz; simp, u64_wrap (by omega)]
 have h5 : sz n ≤ 2 ^ 64 := sz_le (by omega)
 rw [or_nat (by omega) (by omega)]
 congr 1
 unfold sz at hb ⊢
 rw [Nat.mul_comm a, ← Nat.two_pow_add_eq_or_of_lt hb]
def emb : (n : Nat) → Nat → Lv n
 | 0, x => decide (x % 2 = 1)
 | n + 1, x => Lv.mk (emb n (x / sz n)) (emb n (x % sz n))
theorem emb_zero : ∀ n, emb n 0 = 0
 | 0 => rfl
 | n + 1 => by rw [emb, Nat.zero_div, Nat.zero_mod, emb_zero n]; rfl
theorem emb_one : ∀ n, emb n 1 = 1
 | 0 => rfl
 | n + 1 => by
  have := sz_two n
  rw [emb, Nat.div_eq_of_lt (by omega), Nat.mod_eq_of_lt (by omega), emb_zero n, emb_one n]; rfl
theorem emb_xor : ∀ (n a b : Nat), emb n (a ^^^ b) = emb n a + emb n b
 | 0, a, b => by
  have : (a ^^^ b) % 2 = (a % 2 ^^^ b % 2) := Nat.xor_mod_two_pow (n := 1)
  show decide ((a ^^^ b) % 2 = 1) = xor (decide (a % 2 = 1)) (decide (b % 2 = 1))
  rw [this]
  rcases Nat.mod_two_eq_zero_or_one a with h1 | h1 <;> rcases Nat.mod_two_eq_zero_or_one b with h2 | h2 <;> rw [h1, h2] <;> decide
 | n + 1, a, b => by
  have h1 : (a ^^^ b) / sz n = a / sz n ^^^ b / sz n := by
   unfold sz
   rw [← Nat.shiftRight_eq_div_pow, ← Nat.shiftRight_eq_div_pow, ← Nat.shiftRight_eq_div_pow, Nat.shiftRight_xor_distrib]
  have h2 : (a ^^^ b) % sz n = a % sz n ^^^ b % sz n := by unfold sz; exact Nat.xor_mod_two_pow
  rw [emb, h1, h2, emb_xor n, emb_xor n]
  rfl
theorem emb_inj : ∀ (n a b : Nat), a < sz n → b < sz n → emb n a = emb n b → a = b
 | 0, a, b, ha, hb, h => by
  have e : sz 0 = 2 := rfl
  rw [e] at ha hb
  have h' : decide (a % 2 = 1) = decide (b % 2 = 1) := h
  rw [decide_eq_decide] at h'
  omega
 | n + 1, a, b, ha, hb, h => by
  rw [sz_succ] at ha hb
  have h1 := emb_inj n (a / sz n) (b / sz n) (Nat.div_lt_of_lt_mul ha) (Nat.div_lt_of_lt_mul hb) (congrArg Lv.hi h)
  have h2 := emb_inj n (a % sz n) (b % sz n) (Nat.mod_lt _ (sz_pos n)) (Nat.mod_lt _ (sz_pos n)) (congrArg Lv.lo h)
  rw [← Nat.div_add_mod a (sz n), ← Nat.div_add_mod b (sz n), h1, h2]
theorem emb_join {n a b : Nat} (hb : b < sz n) : emb (n + 1) (a * sz n + b) = Lv.mk (emb n a) (emb n b) := by
 have hp := sz_pos n
 have e1 : (a * sz n + b) / sz n = a := by rw [Nat.mul_comm a, Nat.mul_add_div hp, Nat.div_eq_of_lt hb, Nat.add_zero]
 have e2 : (a * sz n + b) % sz n = b := by rw [Nat.mul_comm a, Nat.mul_add_mod, Nat.mod_eq_of_lt hb]
 rw [emb, e1, e2]
theorem join_lt {n a b : Nat} (ha : a < sz n) (hb : b < sz n) : a * sz n + b < sz (n + 1) := by
 rw [sz_succ]
 calc a * sz n + b < a * sz n + sz n := by omega
  _ = (a + 1) * sz n := by rw [Nat.add_mul, Nat.one_mul]
  _ ≤ sz n * sz n := Nat.mul_le_mul_right _ ha
theorem xor_lt {n a b : Nat} (ha : a < sz n) (hb : b < sz n) : a ^^^ b < sz n := Nat.xor_lt_two_pow ha hb
theorem mulXS_emb : ∀ (n : Nat), n ≤ 6 → ∀ a : Nat, a < sz n → ∃ c : Nat, c < sz n ∧ mulXS n (a : Int) = (c : Int) ∧ emb n c = Lv.gen n * emb n a
 | 0, _, a, ha => ⟨a, ha, rfl, by rw [Lv.gen_zero, R2.oneMul]⟩
 | n + 1, h, a, ha => by
  have h64 := sz_le (n := n) (by omega)
  have h65 := sz_le h
  rw [sz_succ] at ha
  have hh : a / sz n < sz n := Nat.div_lt_of_lt_mul ha
  have hl : a % sz n < sz n := Nat.mod_lt _ (sz_pos n)
  obtain ⟨c, hc, e1, e2⟩ := mulXS_emb n (by omega) (a / sz n) hh
  rw [mulXS, hiW_nat n a (by omega), loW_nat n a (by omega) (by rw [sz_succ] at h65; omega), e1, xor_nat (by omega) (by omega), joinW_nat n _ _ (by omega) (xor_lt hl hc) hh]
  refine ⟨_, join_lt (xor_lt hl hc) hh, rfl, ?_⟩
  rw [emb_join hh, emb_xor, e2, emb, Lv.gen_mk, Lv.mk_mul]
  simp only [R2.zeroMul, R2.oneMul, R2.addZero, R2.zeroAdd]
theorem mulS_emb : ∀ (n : Nat), n ≤ 6 → ∀ a b : Nat, a < sz n → b < sz n → ∃ c : Nat, c < sz n ∧ mulS n (a : Int) (b : Int) = (c : Int) ∧ emb n c = emb n a * emb n b
 | 0, _, a, b, ha, hb => by
  have e : sz 0 = 2 := rfl
  rw [e] at ha hb
  have h1 : a = 0 ∨ a = 1 := by omega
  have h2 : b = 0 ∨ b = 1 := by omega
  rcases h1 with rfl | rfl <;> rcases h2 with rfl | rfl
  ·exact ⟨0, by decide, by decide +kernel, rfl⟩
  ·exact ⟨0, by decide, by decide +kernel, rfl⟩
  ·exact ⟨0, by decide, by decide +kernel, rfl⟩
  ·exact ⟨1, by decide, by decide +kernel, rfl⟩
 | n + 1, h, a, b, ha, hb => by
  by_cases h0 : (a : Int) = 0 ∨ (b : Int) = 0
  ·refine ⟨0, sz_pos _, ?_, ?_⟩
   ·rcases h0 with h0 | h0 <;> rw [h0]
    ·exact mulS_zero_l _ _
    ·exact mulS_zero_r _ _
   ·rcases h0 with h0 | h0
    ·rw [show a = 0 by omega, emb_zero, R2.zeroMul]
    ·rw [show b = 0 by omega, emb_zero, R2.mulZero]
  ·have h64 := sz_le (n := n) (by omega)
   have h65 := sz_le h
   have ha' := ha
   have hb' := hb
   rw [sz_succ] at ha hb
   have ha1 : a / sz n < sz n := Nat.div_lt_of_lt_mul ha
   have hb1 : b / sz n < sz n := Nat.div_lt_of_lt_mul hb
   have ha0 : a % sz n < sz n := Nat.mod_lt _ (sz_pos n)
   have hb0 : b % sz n < sz n := Nat.mod_lt _ (sz_pos n)
   obtain ⟨u, hu, u1, u2⟩ := mulS_emb n (by omega) _ _ ha1 hb1
   obtain ⟨v, hv, v1, v2⟩ := mulS_emb n (by omega) _ _ ha0 hb0
   obtain ⟨t, ht, t1, t2⟩ := mulS_emb n (by omega) _ _ (xor_lt ha1 ha0) (xor_lt hb1 hb0)
   obtain ⟨g, hg, g1, g2⟩ := mulXS_emb n (by omega) u hu
   rw [mulS, if_neg h0, hiW_nat n a (by omega), loW_nat n a (by omega) (by omega), hiW_nat n b (by omega), loW_nat n b (by omega) (by omega), xor_nat (a := a / sz n) (by omega) (by omega), xor_nat (a := b / sz n) (by omega) (by omega), u1, v1, t1, g1]
   rw [xor_nat (a := t) (b := u) (by omega) (by omega)]
   have hx1 := xor_lt ht hu
   rw [xor_nat (b := v) (by omega) (by omega)]
   have hx2 := xor_lt hx1 hv
   rw [xor_nat (b := g) (by omega) (by omega)]
   have hx3 := xor_lt hx2 hg
   rw [xor_nat (a := v) (b := u) (by omega) (by omega)]
   have hx4 := xor_lt hv hu
   rw [joinW_nat n _ _ (by omega) hx3 hx4]
   refine ⟨_, join_lt hx3 hx4, rfl, ?_⟩
   rw [emb_join hx4, emb_xor, emb_xor, emb_xor, emb_xor, t2, u2, v2, g2, u2, emb_xor, emb_xor]
   rw [emb, emb, Lv.mk_mul]
   congr 1
   simp only [R2.mulAdd, R2.addMul, R2.addAssoc, R2.addComm, R2.addLeft, R2.addCancel, R2.addSelf, R2.addZero]
end Go.Proofs.Ytoaepfgfbfgcdaa.Q
namespace Go.Proofs.Ytoaepfgfbfgcdaa.Q
open Go.RowKit Go.Proofs.YtoaepfgfbfgcdaaW.PrintWords Go.Proofs.YtoaepfgfbfgcdaaW.PrintLast Go.Proofs.YtoaepfgfbfgcdaaW.PrintMore
def val0 (o : S149) : Prop := o.f3.f0 = 0 ∧ o.f3.f1 = 0
instance (o : S149) : Decidable (val0 o) := by unfold val0; infer_instance
def aheadP (o : S149) (n : Int) : Prop := 0 ≤ o.f1 ∧ o.f1 < n ∧ 0 ≤ o.f2 ∧ o.f2 < n
instance (o : S149) (n : Int) : Decidable (aheadP o n) := by unfold aheadP; infer_instance
def stepS (level vars : Int) (o : S149) (ds : List Int) : Int × Int :=
 if o.f0 = 1 ∧ o.f1 = 0 ∧ o.f2 = 0 then (if ofB level o.f3.f0 o.f3.f1 = true then (0, 0) else (0, 5))
 else if o.f0 = 2 ∧ o.f2 = 0 ∧ val0 o then (if o.f1 < 0 then (0, 4) else if o.f1 ≥ vars then (0, 4) else (1, 0))
 else if o.f0 = 3 ∧ val0 o ∧ aheadP o ds.length then (mx (rd ds o.f1) (rd ds o.f2), 0)
 else if o.f0 = 4 ∧ val0 o ∧ aheadP o ds.length then (wrap64 (rd ds o.f1 + rd ds o.f2), 0) else (0, 3)
theorem ahead_eq (o : S149) (n : Int) : expr_ahead.f o.f0 o.f1 o.f2 o.f3.f0 o.f3.f1 n = some (decide (aheadP o n)) := by
 unfold expr_ahead.f aheadP
 by_cases h1 : o.f1 ≥ 0 <;> by_cases h2 : o.f1 < n <;> by_cases h3 : o.f2 ≥ 0 <;> simp [h1, h2, h3] <;> omega
theorem val0_eq (o : S149) : (o.f3.f0 == 0 && (o.f3.f1 == 0)) = decide (val0 o) := by
 unfold val0
 by_cases h1 : o.f3.f0 = 0 <;> by_cases h2 : o.f3.f1 = 0 <;> simp [h1, h2]
theorem Ev.j {α : Type} {f : Nat → Bool → Option α} {r : α} (b : Bool) (h : Ev (fun k => f k b) r) (b' : Bool) (e : b' = b) : Ev (fun k => f k b') r := e ▸ h
theorem step_j2 (ds : List Int) (o : S149) (b : Bool) (hb : b = true → aheadP o ds.length) : Ev (fun k => expr_step.j2 k ds b o.f0 o.f1 o.f2 o.f3.f0 o.f3.f1 0 0) (if b = true then (mx (rd ds o.f1) (rd ds o.f2), 0) else if o.f0 = 4 ∧ val0 o ∧ aheadP o ds.length then (wrap64 (rd ds o.f1 + rd ds o.f2), 0) else (0, 3)) := by
 refine Ev.succ ?_
 simp only [expr_step.j2, ahead_eq, val0_eq, Option.bind_some]
 cases b with
 | true =>
  obtain ⟨h1, h2, h3, h4⟩ := hb rfl
  simp only [h1, h2, h3, h4, if_true]
  exact Ev.pure _
 | false =>
  by_cases h4 : o.f0 = 4
  ·by_cases hv : val0 o
   ·by_cases ha : aheadP o ds.length
    ·obtain ⟨h1, h2, h3, h5⟩ := id ha
     simp [h4, hv, ha, h1, h2, h3, h5]
     exact Ev.pure _
    ·simp [h4, hv, ha]
     exact Ev.pure _
   ·simp [h4, hv]
    exact Ev.pure _
  ·simp [h4]
   exact Ev.pure _
theorem step_j1 (vars : Int) (ds : List Int) (o : S149) (b : Bool) : Ev (fun k => expr_step.j1 k vars ds b o.f0 o.f1 o.f2 o.f3.f0 o.f3.f1 0 0) (if b = true then (if o.f1 < 0 then (0, 4) else if o.f1 ≥ vars then (0, 4) else (1, 0)) else if o.f0 = 3 ∧ val0 o ∧ aheadP o ds.length then (mx (rd ds o.f1) (rd ds o.f2), 0) else if o.f0 = 4 ∧ val0 o ∧ aheadP o ds.length then (wrap64 (rd ds o.f1 + rd ds o.f2), 0) else (0, 3)) := by
 refine Ev.succ ?_
 simp only [expr_step.j1, ahead_eq, val0_eq, Option.bind_some]
 cases b with
 | true =>
  simp only [if_true]
  exact Ev.ite (fun _ => Ev.pure _) (fun _ => Ev.ite (fun _ => Ev.pure _) (fun _ => Ev.pure _))
 | false =>
  have J := fun b hb => step_j2 ds o b hb
  by_cases h3 : o.f0 = 3
  ·by_cases hv : val0 o
   ·by_cases ha : aheadP o ds.length
    ·have := J true (fun _ => ha)
     simpa [h3, hv, ha] using this
    ·have := J false (fun h => by cases h)
     simpa [h3, hv, ha] using this
   ·have := J false (fun h => by cases h)
    simpa [h3, hv] using this
  ·have := J false (fun h => by cases h)
   simpa [h3] using this
theorem step_j0 (level vars : Int) (ds : List Int) (o : S149) (b : Bool) : Ev (fun k => expr_step.j0 k level vars ds b o.f0 o.f1 o.f2 o.f3.f0 o.f3.f1 0 0) (if b = true then (if ofB level o.f3.f0 o.f3.f1 = true then (0, 0) else (0, 5)) else if o.f0 = 2 ∧ o.f2 = 0 ∧ val0 o then (if o.f1 < 0 then (0, 4) else if o.f1 ≥ vars then (0, 4) else (1, 0)) else if o.f0 = 3 ∧ val0 o ∧ aheadP o ds.length then (mx (rd ds o.f1) (rd ds o.f2), 0) else if o.f0 = 4 ∧ val0 o ∧ aheadP o ds.length then (wrap64 (rd ds o.f1 + rd ds o.f2), 0) else (0, 3)) := by
 refine Ev.succ ?_
 simp only [expr_step.j0, octet_Of.f, val0_eq, Option.bind_some]
 cases b with
 | true =>
  simp only [if_true]
  exact Ev.ite (fun _ => Ev.pure _) (fun _ => Ev.pure _)
 | false =>
  have J := fun b => step_j1 vars ds o b
  by_cases h2 : o.f0 = 2
  ·by_cases h0 : o.f2 = 0
   ·by_cases hv : val0 o
    ·simpa [h2, h0, hv] using J true
    ·simpa [h2, h0, hv] using J false
   ·simpa [h2, h0] using J false
  ·simpa [h2] using J false
theorem step_ev (level vars : Int) (o : S149) (ds : List Int) : Ev (fun k => expr_step.f k level vars o.f0 o.f1 o.f2 o.f3.f0 o.f3.f1 ds) (stepS level vars o ds) := by
 simp only [expr_step.f]
 have J := fun b => step_j0 level vars ds o b
 unfold stepS
 by_cases h1 : o.f0 = 1
 ·by_cases h2 : o.f1 = 0
  ·by_cases h3 : o.f2 = 0
   ·simpa [h1, h2, h3] using J true
   ·have e3 : (o.f2 == 0) = false := beq_eq_false_iff_ne.mpr h3
    simpa [h1, h2, h3, e3] using J false
  ·simpa [h1, h2] using J false
 ·simpa [h1] using J false
def degsL (level vars : Int) : List S149 → List Int → List Int × Int
 | [], ds => (ds, 0)
 | o :: r, ds => if (stepS level vars o ds).2 = 0 ∧ 8 < (stepS level vars o ds).1 then ([], 7) else if (stepS level vars o ds).2 = 0 then degsL level vars r (ds ++ [(stepS level vars o ds).1]) else ([], (stepS level vars o ds).2)
theorem degs_l0 (level vars : Int) : ∀ (r pre : List S149) (ds : List Int), (pre ++ r).length ≤ 200 → ds.length = pre.length → Ev (fun k => expr_degrees.l0 k level vars ds (pre ++ r) ((pre ++ r).length : Int) (pre.length : Int)) (degsL level vars r ds)
 | [], pre, ds, hl, hd => by
  refine Ev.succ ?_
  simp only [expr_degrees.l0]
  exact Ev.neg (ge_part pre) (Ev.pure _)
 | o :: r, pre, ds, hl, hd => by
  have IH := degs_l0 level vars r (pre ++ [o]) (ds ++ [(stepS level vars o ds).1]) (by simpa using hl) (by simp [hd])
  refine Ev.succ ?_
  simp only [expr_degrees.l0]
  refine Ev.pos (lt_part pre o r) (Ev.pos (by omega) (Ev.pos (lt_part pre o r) ?_))
  have e : rd_T149 (pre ++ o :: r) (pre.length : Int) = o := getD_part pre o z149 r
  rw [e]
  refine Ev.bind (step_ev level vars o ds) ?_
  obtain ⟨d, hd1⟩ : ∃ d, (stepS level vars o ds).1 = d := ⟨_, rfl⟩
  obtain ⟨c, hc1⟩ : ∃ c, (stepS level vars o ds).2 = c := ⟨_, rfl⟩
  rw [hd1] at IH
  rw [degsL, hd1, hc1]
  have hlen : pre.length < 200 := by simp at hl; omega
  have J : ∀ b : Bool, (b = true ↔ c = 0 ∧ 8 < d) → Ev (fun k => expr_degrees.j2 k level vars ds d c (pre ++ o :: r) ((pre ++ o :: r).length : Int) (pre.length : Int) b) (if c = 0 ∧ 8 < d then ([], 7) else if c = 0 then degsL level vars r (ds ++ [d]) else ([], c)) := by
   intro b hb
   refine Ev.succ ?_
   simp only [expr_degrees.j2]
   by_cases h1 : b = true
   ·rw [if_pos (hb.1 h1)]
    exact Ev.pos h1 (Ev.pure _)
   ·rw [if_neg (fun h => h1 (hb.2 h))]
    refine Ev.neg h1 ?_
    by_cases h0 : c = 0
    ·rw [if_pos h0]
     refine Ev.pos h0 (Ev.pos (by omega) ?_)
     rw [w64_succ (by omega)]
     simpa using IH
    ·rw [if_neg h0]
     exact Ev.neg h0 (Ev.pure _)
  by_cases h0 : c = 0
  ·refine Ev.pos h0 (J _ ?_)
   simp [h0]
  ·refine Ev.neg h0 (J _ ?_)
   simp [h0]
def wideS (level : Int) : Int := if level < 0 ∨ 7 < level then 0 else if level ≤ 3 then 1 else shl .i64 1 (wrap64 (level - 3))
theorem wide_ev (level : Int) : Ev (fun k => octet_Wide.f k level) (wideS level) := by
 have J : ∀ b : Bool, (b = true ↔ level < 0 ∨ 7 < level) → Ev (fun k => octet_Wide.j0 k level b) (wideS level) := by
  intro b hb
  refine Ev.succ ?_
  simp only [octet_Wide.j0]
  unfold wideS
  by_cases h : b = true
  ·rw [if_pos (hb.1 h)]; exact Ev.pos h (Ev.pure _)
  ·have h' : ¬ (level < 0 ∨ 7 < level) := fun x => h (hb.2 x)
   rw [if_neg h']
   refine Ev.neg h ?_
   by_cases h3 : level ≤ 3
   ·exact Ev.congr (Ev.pos h3 (Ev.pure _)) (by rw [if_pos h3])
   ·refine Ev.congr (Ev.neg h3 (Ev.pos ?_ (Ev.pure _))) (by rw [if_neg h3])
    rw [w64_id (by omega) (by omega)]
    omega
 simp only [octet_Wide.f]
 by_cases h : level < 0
 ·exact Ev.pos h (J _ (by simp [h]))
 ·exact Ev.neg h (J _ (by simp [h]))
theorem wide_zero (level : Int) : wideS level = 0 ↔ level < 0 ∨ 7 < level := by
 unfold wideS
 by_cases h : level < 0 ∨ 7 < level
 ·simp [h]
 ·rw [if_neg h]
  have hc : level = 0 ∨ level = 1 ∨ level = 2 ∨ level = 3 ∨ level = 4 ∨ level = 5 ∨ level = 6 ∨ level = 7 := by omega
  rcases hc with rfl | rfl | rfl | rfl | rfl | rfl | rfl | rfl <;> decide +kernel
def degS (level vars : Int) (l : List S149) : List Int × Int :=
 if wideS level = 0 ∨ vars < 0 then ([], 1) else if l.length = 0 then ([], 3) else if 200 < l.length then ([], 2) else degsL level vars l []
theorem degs_ev (level vars : Int) (l : List S149) : Ev (fun k => expr_degrees.f k level vars l) (degS level vars l) := by
 have J : ∀ b : Bool, (b = true ↔ wideS level = 0 ∨ vars < 0) → Ev (fun k => expr_degrees.j0 k level vars l b) (degS level vars l) := by
  intro b hb
  refine Ev.succ ?_
  simp only [expr_degrees.j0]
  unfold degS
  by_cases h : b = true
  ·rw [if_pos (hb.1 h)]; exact Ev.pos h (Ev.pure _)
  ·rw [if_neg (fun x => h (hb.2 x))]
   refine Ev.neg h ?_
   by_cases h0 : l.length = 0
   ·rw [if_pos h0]; exact Ev.pos (by omega) (Ev.pure _)
   ·rw [if_neg h0]
    refine Ev.neg (by omega) ?_
    by_cases h2 : 200 < l.length
    ·rw [if_pos h2]; exact Ev.pos (by omega) (Ev.pure _)
    ·rw [if_neg h2]
     refine Ev.neg (by omega) ?_
     have := degs_l0 level vars l [] [] (by simpa using h2) rfl
     simpa using this
 simp only [expr_degrees.f]
 refine Ev.bind (wide_ev level) ?_
 by_cases h : wideS level = 0
 ·exact Ev.pos h (J _ (by simp [h]))
 ·exact Ev.neg h (J _ (by simp [h]))
def chkS (level vars : Int) (l : List S149) : Int := (degS level vars l).2
theorem chk_ev (level vars : Int) (l : List S149) : Ev (fun k => expr_Check.f k level vars l) (chkS level vars l) := by
 simp only [expr_Check.f]
 exact Ev.bind (degs_ev level vars l) (Ev.pure _)
def xorE (a b : S28) : S28 := ⟨Go.bits .xor .u64 a.f0 b.f0, Go.bits .xor .u64 a.f1 b.f1⟩
def StepOK (level vars : Int) (n : Nat) (o : S149) : Prop :=
 (o.f0 = 1 ∧ o.f1 = 0 ∧ o.f2 = 0 ∧ ofB level o.f3.f0 o.f3.f1 = true) ∨ (o.f0 = 2 ∧ o.f2 = 0 ∧ val0 o ∧ 0 ≤ o.f1 ∧ o.f1 < vars) ∨ ((o.f0 = 3 ∨ o.f0 = 4) ∧ val0 o ∧ aheadP o n)
def StepsOK (level vars : Int) : Nat → List S149 → Prop
 | _, [] => True
 | n, o :: r => StepOK level vars n o ∧ StepsOK level vars (n + 1) r
theorem step_ok {level vars : Int} {o : S149} {ds : List Int} (h : (stepS level vars o ds).2 = 0) : StepOK level vars ds.length o := by
 unfold stepS at h
 by_cases h1 : o.f0 = 1 ∧ o.f1 = 0 ∧ o.f2 = 0
 ·rw [if_pos h1] at h
  by_cases h2 : ofB level o.f3.f0 o.f3.f1 = true
  ·exact .inl ⟨h1.1, h1.2.1, h1.2.2, h2⟩
  ·rw [if_neg h2] at h; simp at h
 rw [if_neg h1] at h
 by_cases h2 : o.f0 = 2 ∧ o.f2 = 0 ∧ val0 o
 ·rw [if_pos h2] at h
  by_cases h3 : o.f1 < 0
  ·rw [if_pos h3] at h; simp at h
  ·rw [if_neg h3] at h
   by_cases h4 : o.f1 ≥ vars
   ·rw [if_pos h4] at h; simp at h
   ·exact .inr (.inl ⟨h2.1, h2.2.1, h2.2.2, by omega, by omega⟩)
 rw [if_neg h2] at h
 by_cases h3 : o.f0 = 3 ∧ val0 o ∧ aheadP o ds.length
 ·exact .inr (.inr ⟨.inl h3.1, h3.2⟩)
 rw [if_neg h3] at h
 by_cases h4 : o.f0 = 4 ∧ val0 o ∧ aheadP o ds.length
 ·exact .inr (.inr ⟨.inr h4.1, h4.2⟩)
 rw [if_neg h4] at h
 simp at h
theorem degsL_ok {level vars : Int} : ∀ (l : List S149) (ds : List Int), (degsL level vars l ds).2 = 0 → StepsOK level vars ds.length l ∧ (degsL level vars l ds).1.length = ds.length + l.length
 | [], ds, h => ⟨trivial, by simp [degsL]⟩
 | o :: r, ds, h => by
  rw [degsL] at h ⊢
  by_cases h1 : (stepS level vars o ds).2 = 0 ∧ 8 < (stepS level vars o ds).1
  ·rw [if_pos h1] at h; simp at h
  ·rw [if_neg h1] at h ⊢
   by_cases h0 : (stepS level vars o ds).2 = 0
   ·rw [if_pos h0] at h ⊢
    obtain ⟨a, b⟩ := degsL_ok r _ h
    refine ⟨⟨step_ok h0, by simpa using a⟩, ?_⟩
    rw [b]; simp; omega
   ·rw [if_neg h0] at h
    exact absurd h h0
theorem chk_ok {level vars : Int} {l : List S149} (h : chkS level vars l = 0) : 0 ≤ level ∧ level ≤ 7 ∧ 0 ≤ vars ∧ 0 < l.length ∧ l.length ≤ 200 ∧ StepsOK level vars 0 l := by
 unfold chkS degS at h
 by_cases h1 : wideS level = 0 ∨ vars < 0
 ·rw [if_pos h1] at h; simp at h
 rw [if_neg h1] at h
 have hw : ¬ (level < 0 ∨ 7 < level) := fun x => h1 (.inl ((wide_zero level).2 x))
 by_cases h2 : l.length = 0
 ·rw [if_pos h2] at h; simp at h
 rw [if_neg h2] at h
 by_cases h3 : 200 < l.length
 ·rw [if_pos h3] at h; simp at h
 rw [if_neg h3] at h
 have := (degsL_ok l [] h).1
 exact ⟨by omega, by omega, by omega, by omega, by omega, this⟩
def stepV (level : Int) (v : List S28) (o : S149) (acc : List S28) : S28 :=
 if o.f0 = 1 then o.f3 else if o.f0 = 2 then rd_T28 v o.f1 else if o.f0 = 3 then xorE (rd_T28 acc o.f1) (rd_T28 acc o.f2) else if o.f0 = 4 then MulS level (rd_T28 acc o.f1) (rd_T28 acc o.f2) else ⟨0, 0⟩
def evs (level : Int) (v : List S28) : List S149 → List S28 → List S28
 | [], acc => acc
 | o :: r, acc => evs level v r (acc ++ [stepV level v o acc])
theorem evs_len (level : Int) (v : List S28) : ∀ (l : List S149) (acc : List S28), (evs level v l acc).length = acc.length + l.length
 | [], acc => rfl
 | o :: r, acc => by rw [evs, evs_len level v r]; simp; omega
def lastE (l : List S28) : S28 := l.getD (l.length - 1) z28
def evalS (level : Int) (l : List S149) (v : List S28) : S28 := lastE (evs level v l [])
theorem eval_l1 (level : Int) (v : List S28) : ∀ (r pre : List S149) (acc : List S28), (pre ++ r).length ≤ 200 → 0 < (pre ++ r).length → acc.length = pre.length → StepsOK level v.length acc.length r →
  Ev (fun k => expr_Eval.l1 k level v acc (pre ++ r) ((pre ++ r).length : Int) (pre.length : Int)) ((lastE (evs level v r acc)).f0, (lastE (evs level v r acc)).f1, 0)
 | [], pre, acc, hl, hp, hd, hs => by
  refine Ev.succ ?_
  simp only [expr_Eval.l1]
  refine Ev.neg (ge_part pre) ?_
  have ha : 0 < acc.length := by rw [hd]; simpa using hp
  have hb : acc.length ≤ 200 := by rw [hd]; simpa using hl
  have e : wrap64 ((acc.length : Int) - 1) = ((acc.length - 1 : Nat) : Int) := by rw [w64_id (by omega) (by omega)]; omega
  rw [e]
  refine Ev.pos (by omega) (Ev.pos (by omega) ?_)
  exact Ev.pure _
 | o :: r, pre, acc, hl, hp, hd, hs => by
  obtain ⟨h1, h2⟩ := hs
  have hlen : pre.length < 200 := by simp at hl; omega
  have IH : Ev (fun k => expr_Eval.l1 k level v (acc ++ [stepV level v o acc]) (pre ++ o :: r) ((pre ++ o :: r).length : Int) (wrap64 ((pre.length : Int) + 1))) ((lastE (evs level v (o :: r) acc)).f0, (lastE (evs level v (o :: r) acc)).f1, 0) := by
   rw [w64_succ (by omega)]
   have := eval_l1 level v r (pre ++ [o]) (acc ++ [stepV level v o acc]) (by simpa using hl) (by simp; omega) (by simp [hd]) (by simpa using h2)
   rw [show (pre ++ [o]) ++ r = pre ++ o :: r by simp, show (pre ++ [o]).length = pre.length + 1 by simp] at this
   exact this
  refine Ev.succ ?_
  simp only [expr_Eval.l1]
  refine Ev.pos (lt_part pre o r) (Ev.pos (by omega) (Ev.pos (lt_part pre o r) ?_))
  have e : rd_T149 (pre ++ o :: r) (pre.length : Int) = o := getD_part pre o z149 r
  rw [e]
  have hlim : acc.length < 8796093022208 := by omega
  rcases h1 with ⟨k1, _, _, _⟩ | ⟨k1, _, _, a1, a2⟩ | ⟨k1 | k1, _, a1, a2, a3, a4⟩
  ·refine Ev.pos k1 (Ev.pos hlim ?_)
   rw [show stepV level v o acc = o.f3 by unfold stepV; rw [if_pos k1]] at IH
   exact IH
  ·refine Ev.neg (by omega) (Ev.pos k1 (Ev.pos a1 (Ev.pos a2 (Ev.pos hlim ?_))))
   rw [show stepV level v o acc = rd_T28 v o.f1 by unfold stepV; rw [if_neg (by omega), if_pos k1]] at IH
   exact IH
  ·refine Ev.neg (by omega) (Ev.neg (by omega) (Ev.pos k1 (Ev.pos a1 (Ev.pos a2 (Ev.pos a3 (Ev.pos a4 ?_))))))
   rw [show stepV level v o acc = xorE (rd_T28 acc o.f1) (rd_T28 acc o.f2) by unfold stepV; rw [if_neg (by omega), if_neg (by omega), if_pos k1]] at IH
   simp only [tower_Add.f, Option.bind_some]
   exact Ev.pos hlim IH
  ·refine Ev.neg (by omega) (Ev.neg (by omega) (Ev.neg (by omega) (Ev.pos k1 (Ev.pos a1 (Ev.pos a2 (Ev.pos a3 (Ev.pos a4 ?_)))))))
   rw [show stepV level v o acc = MulS level (rd_T28 acc o.f1) (rd_T28 acc o.f2) by unfold stepV; rw [if_neg (by omega), if_neg (by omega), if_neg (by omega), if_pos k1]] at IH
   exact Ev.bind (Mul_ev level _ _) (Ev.pos hlim IH)
def ofE (level : Int) (x : S28) : Bool := ofB level x.f0 x.f1
theorem eval_l0 (level : Int) (l : List S149) (v : List S28) (r : Int × Int × Int) (hr : Ev (fun k => expr_Eval.l1 k level v [] l (l.length : Int) 0) r) : ∀ (s pre : List S28), v = pre ++ s → v.length ≤ 9223372036854775806 →
  Ev (fun k => expr_Eval.l0 k level l v v (v.length : Int) (pre.length : Int)) (if s.all (ofE level) = true then r else (0, 0, 5))
 | [], pre, hv, hl => by
  refine Ev.succ ?_
  simp only [expr_Eval.l0]
  exact Ev.neg (by rw [hv]; exact ge_part pre) (Ev.congr hr (by simp))
 | x :: s, pre, hv, hl => by
  have IH := eval_l0 level l v r hr s (pre ++ [x]) (by simpa using hv) hl
  refine Ev.succ ?_
  simp only [expr_Eval.l0]
  have lt : (pre.length : Int) < (v.length : Int) := by rw [hv]; exact lt_part pre x s
  refine Ev.pos lt (Ev.pos (by omega) (Ev.pos lt ?_))
  have e : rd_T28 v (pre.length : Int) = x := by rw [hv]; exact getD_part pre x z28 s
  rw [e]
  simp only [octet_Of.f, Option.bind_some]
  by_cases h : ofB level x.f0 x.f1 = true
  ·refine Ev.pos h ?_
   rw [w64_succ (by omega)]
   rw [show (pre ++ [x]).length = pre.length + 1 by simp] at IH
   refine Ev.congr IH ?_
   rw [List.all_cons, show ofE level x = true from h, Bool.true_and]
  ·refine Ev.neg h (Ev.congr (Ev.pure _) ?_)
   rw [List.all_cons, show ofE level x = false by simpa [ofE] using h, Bool.false_and]
   rfl
def EvalS (level : Int) (l : List S149) (v : List S28) : S28 × Int :=
 if chkS level v.length l = 0 then (if v.all (ofE level) = true then (evalS level l v, 0) else (⟨0, 0⟩, 5)) else (⟨0, 0⟩, chkS level v.length l)
theorem Eval_ev (level : Int) (l : List S149) (v : List S28) (hv : v.length ≤ 9223372036854775806) : Ev (fun k => expr_Eval.f k level l v) ((EvalS level l v).1.f0, (EvalS level l v).1.f1, (EvalS level l v).2) := by
 simp only [expr_Eval.f]
 refine Ev.bind (chk_ev level v.length l) ?_
 unfold EvalS
 by_cases h : chkS level v.length l = 0
 ·rw [if_pos h]
  obtain ⟨_, _, _, h1, h2, h3⟩ := chk_ok h
  refine Ev.pos h ?_
  have := eval_l0 level l v _ (eval_l1 level v l [] [] h2 h1 rfl h3) v [] rfl hv
  refine Ev.congr this ?_
  by_cases h4 : v.all (ofE level) = true
  ·rw [if_pos h4, if_pos h4]; rfl
  ·rw [if_neg h4, if_neg h4]
 ·rw [if_neg h]
  exact Ev.neg h (Ev.pure _)
end Go.Proofs.Ytoaepfgfbfgcdaa.Q
set_option linter.unusedVariables false
set_option linter.unusedSimpArgs false
namespace Go.Proofs.Ytoaepfgfbfgcdaa.Q
open Go.RowKit Go.Proofs.YtoaepfgfbfgcdaaW.PrintWords Go.Proofs.YtoaepfgfbfgcdaaW.PrintLast Go.Proofs.YtoaepfgfbfgcdaaW.PrintMore
open Go.Proofs.Ytoaepfgfbfgcdaa.Steeple
theorem inK_u64 {n : Int} : InK .u64 n ↔ 0 ≤ n ∧ n < 2 ^ 64 := by
 have e1 : (IntKind.u64).min = 0 := rfl
 have e2 : (IntKind.u64).max = 18446744073709551615 := rfl
 unfold InK
 simp only [Lit.wf, e1, e2]
 simp
 omega
theorem q28 {x : S28} : Q28 x ↔ ∃ h l : Nat, h < 2 ^ 64 ∧ l < 2 ^ 64 ∧ x = ⟨(h : Int), (l : Int)⟩ := by
 unfold Q28
 rw [inK_u64, inK_u64]
 constructor
 ·rintro ⟨⟨h0, h1⟩, h2, h3⟩
  refine ⟨x.f0.toNat, x.f1.toNat, by omega, by omega, ?_⟩
  rw [Int.toNat_of_nonneg h0, Int.toNat_of_nonneg h2]
 ·rintro ⟨h, l, h1, h2, rfl⟩
  exact ⟨⟨by simp, by simp; omega⟩, by simp, by simp; omega⟩
def E (x : S28) : Lv 7 := Lv.mk (emb 6 x.f0.toNat) (emb 6 x.f1.toNat)
theorem E_mk (h l : Nat) : E ⟨(h : Int), (l : Int)⟩ = Lv.mk (emb 6 h) (emb 6 l) := rfl
theorem E_zero : E ⟨0, 0⟩ = 0 := by
 show Lv.mk (emb 6 0) (emb 6 0) = 0
 rw [emb_zero]; rfl
theorem E_one : E ⟨0, 1⟩ = 1 := by
 show Lv.mk (emb 6 0) (emb 6 1) = 1
 rw [emb_zero, emb_one]; rfl
theorem E_inj {a b : S28} (ha : Q28 a) (hb : Q28 b) (h : E a = E b) : a = b := by
 obtain ⟨h1, l1, a1, a2, rfl⟩ := q28.1 ha
 obtain ⟨h2, l2, b1, b2, rfl⟩ := q28.1 hb
 have e : sz 6 = 2 ^ 64 := rfl
 have g1 := emb_inj 6 h1 h2 (by rw [e]; exact a1) (by rw [e]; exact b1) (congrArg Lv.hi h)
 have g2 := emb_inj 6 l1 l2 (by rw [e]; exact a2) (by rw [e]; exact b2) (congrArg Lv.lo h)
 rw [g1, g2]
theorem q_zero : Q28 ⟨0, 0⟩ := q28.2 ⟨0, 0, by decide, by decide, rfl⟩
theorem q_one : Q28 ⟨0, 1⟩ := q28.2 ⟨0, 1, by decide, by decide, rfl⟩
theorem of_nat {n : Nat} (hn : n ≤ 6) {h l : Nat} (hh : h < 2 ^ 64) (hl : l < 2 ^ 64) : ofE (n : Int) ⟨(h : Int), (l : Int)⟩ = true ↔ h = 0 ∧ l < sz n := by
 have hc : n = 0 ∨ n = 1 ∨ n = 2 ∨ n = 3 ∨ n = 4 ∨ n = 5 ∨ n = 6 := by omega
 rcases hc with rfl | rfl | rfl | rfl | rfl | rfl | rfl
 ·have e : sz 0 = 2 := rfl
  rw [e]; simp [ofE, ofB]; omega
 ·have e : sz 1 = 4 := rfl
  rw [e]; simp [ofE, ofB]; omega
 ·have e : sz 2 = 16 := rfl
  rw [e]; simp [ofE, ofB]; omega
 ·have e : sz 3 = 256 := rfl
  rw [e]; simp [ofE, ofB]; omega
 ·have e : sz 4 = 65536 := rfl
  rw [e]; simp [ofE, ofB]; omega
 ·have e : sz 5 = 4294967296 := rfl
  rw [e]; simp [ofE, ofB]; omega
 ·have e : sz 6 = 18446744073709551616 := rfl
  rw [e]; simp [ofE, ofB]; omega
theorem of_seven (x : S28) : ofE 7 x = true := by simp [ofE, ofB]
theorem E_add {a b : S28} (ha : Q28 a) (hb : Q28 b) : E (xorE a b) = E a + E b ∧ Q28 (xorE a b) := by
 obtain ⟨h1, l1, a1, a2, rfl⟩ := q28.1 ha
 obtain ⟨h2, l2, b1, b2, rfl⟩ := q28.1 hb
 have e : xorE ⟨(h1 : Int), (l1 : Int)⟩ ⟨(h2 : Int), (l2 : Int)⟩ = ⟨((h1 ^^^ h2 : Nat) : Int), ((l1 ^^^ l2 : Nat) : Int)⟩ := by
  unfold xorE; rw [xor_nat a1 b1, xor_nat a2 b2]
 rw [e]
 refine ⟨?_, q28.2 ⟨_, _, Nat.xor_lt_two_pow a1 b1, Nat.xor_lt_two_pow a2 b2, rfl⟩⟩
 rw [E_mk, E_mk, E_mk, emb_xor, emb_xor]
 rfl
theorem of_add {level : Int} {a b : S28} (ha : Q28 a) (hb : Q28 b) (oa : ofE level a = true) (ob : ofE level b = true) : ofE level (xorE a b) = true := by
 have hL := of_level oa
 obtain ⟨h1, l1, a1, a2, rfl⟩ := q28.1 ha
 obtain ⟨h2, l2, b1, b2, rfl⟩ := q28.1 hb
 have e : xorE ⟨(h1 : Int), (l1 : Int)⟩ ⟨(h2 : Int), (l2 : Int)⟩ = ⟨((h1 ^^^ h2 : Nat) : Int), ((l1 ^^^ l2 : Nat) : Int)⟩ := by
  unfold xorE; rw [xor_nat a1 b1, xor_nat a2 b2]
 rw [e]
 obtain ⟨n, rfl⟩ := Int.eq_ofNat_of_zero_le hL.1
 by_cases h6 : n ≤ 6
 ·have oa' := (of_nat h6 a1 a2).1 oa
  have ob' := (of_nat h6 b1 b2).1 ob
  refine (of_nat h6 (Nat.xor_lt_two_pow a1 b1) (Nat.xor_lt_two_pow a2 b2)).2 ⟨?_, xor_lt oa'.2 ob'.2⟩
  rw [oa'.1, ob'.1]; rfl
 ·obtain rfl : n = 7 := by omega
  exact of_seven _
theorem emb_up {n x : Nat} (h : x < sz n) : emb (n + 1) x = Lv.up (emb n x) := by
 rw [emb, Nat.div_eq_of_lt h, Nat.mod_eq_of_lt h, emb_zero]; rfl
theorem sz_mono {n m : Nat} (h : n ≤ m) : sz n ≤ sz m := Nat.pow_le_pow_right (by decide) (Nat.pow_le_pow_right (by decide) h)
theorem emb_mul_up {n a b c : Nat} (ha : a < sz n) (hb : b < sz n) (hc : c < sz n) (h : emb n c = emb n a * emb n b) : ∀ d, emb (n + d) c = emb (n + d) a * emb (n + d) b
 | 0 => h
 | d + 1 => by
  have hm := sz_mono (show n ≤ n + d by omega)
  show emb ((n + d) + 1) c = emb ((n + d) + 1) a * emb ((n + d) + 1) b
  rw [emb_up (by omega), emb_up (by omega), emb_up (by omega), emb_mul_up ha hb hc h d, Lv.up_mul]
theorem three_products {n : Nat} (A B C D : Lv n) : Lv.mk (((A + B) * (C + D) + A * C + B * D) + Lv.gen n * (A * C)) (B * D + A * C) = Lv.mk A B * Lv.mk C D := by
 rw [Lv.mk_mul]
 congr 1
 simp only [R2.mulAdd, R2.addMul, R2.addAssoc, R2.addComm, R2.addLeft, R2.addCancel, R2.addSelf, R2.addZero]
theorem E_mul {level : Int} {a b : S28} (ha : Q28 a) (hb : Q28 b) (oa : ofE level a = true) (ob : ofE level b = true) : E (MulS level a b) = E a * E b ∧ Q28 (MulS level a b) ∧ ofE level (MulS level a b) = true := by
 have hL := of_level oa
 obtain ⟨h1, l1, a1, a2, rfl⟩ := q28.1 ha
 obtain ⟨h2, l2, b1, b2, rfl⟩ := q28.1 hb
 obtain ⟨n, rfl⟩ := Int.eq_ofNat_of_zero_le hL.1
 have hof : ofB (n : Int) (h1 : Int) (l1 : Int) = true ∧ ofB (n : Int) (h2 : Int) (l2 : Int) = true := ⟨oa, ob⟩
 unfold MulS
 rw [if_pos hof]
 have e6 : sz 6 = 2 ^ 64 := rfl
 by_cases h6 : n ≤ 6
 ·rw [if_pos (by omega)]
  have oa' := (of_nat h6 a1 a2).1 oa
  have ob' := (of_nat h6 b1 b2).1 ob
  obtain ⟨rfl, hl1⟩ := oa'
  obtain ⟨rfl, hl2⟩ := ob'
  obtain ⟨c, hc, c1, c2⟩ := mulS_emb n h6 l1 l2 hl1 hl2
  have hs := sz_mono h6
  have hc64 : c < 2 ^ 64 := by omega
  have e : (⟨0, mulS ((n : Int)).toNat (l1 : Int) (l2 : Int)⟩ : S28) = ⟨((0 : Nat) : Int), (c : Int)⟩ := by rw [Int.toNat_natCast, c1]; rfl
  show E ⟨0, mulS ((n : Int)).toNat (l1 : Int) (l2 : Int)⟩ = _ ∧ Q28 ⟨0, mulS ((n : Int)).toNat (l1 : Int) (l2 : Int)⟩ ∧ ofE (n : Int) ⟨0, mulS ((n : Int)).toNat (l1 : Int) (l2 : Int)⟩ = true
  rw [e]
  refine ⟨?_, q28.2 ⟨0, c, by decide, hc64, rfl⟩, (of_nat h6 (by decide) hc64).2 ⟨rfl, hc⟩⟩
  rw [E_mk, E_mk, E_mk, emb_zero]
  have := emb_mul_up hl1 hl2 hc c2 (6 - n)
  rw [show n + (6 - n) = 6 by omega] at this
  rw [this, Lv.mk_mul]
  simp only [R2.zeroMul, R2.mulZero, R2.addZero]
 ·obtain rfl : n = 7 := by omega
  rw [if_neg (by omega)]
  rw [← e6] at a1 a2 b1 b2
  obtain ⟨u, hu, u1, u2⟩ := mulS_emb 6 (by omega) _ _ a1 b1
  obtain ⟨v, hv, v1, v2⟩ := mulS_emb 6 (by omega) _ _ a2 b2
  obtain ⟨t, ht, t1, t2⟩ := mulS_emb 6 (by omega) _ _ (xor_lt a1 a2) (xor_lt b1 b2)
  obtain ⟨g, hg, g1, g2⟩ := mulXS_emb 6 (by omega) u hu
  have hx1 := xor_lt ht hu
  have hx2 := xor_lt hx1 hv
  have hx3 := xor_lt hx2 hg
  have hx4 := xor_lt hv hu
  have e : (⟨Go.bits .xor .u64 (Go.bits .xor .u64 (Go.bits .xor .u64 (mulS 6 (Go.bits .xor .u64 (h1 : Int) (l1 : Int)) (Go.bits .xor .u64 (h2 : Int) (l2 : Int))) (mulS 6 (h1 : Int) (h2 : Int))) (mulS 6 (l1 : Int) (l2 : Int))) (mulXS 6 (mulS 6 (h1 : Int) (h2 : Int))), Go.bits .xor .u64 (mulS 6 (l1 : Int) (l2 : Int)) (mulS 6 (h1 : Int) (h2 : Int))⟩ : S28) = ⟨((((t ^^^ u) ^^^ v) ^^^ g : Nat) : Int), ((v ^^^ u : Nat) : Int)⟩ := by
   rw [xor_nat (by omega) (by omega), xor_nat (a := h2) (by omega) (by omega), u1, v1, t1, g1, xor_nat (a := t) (by omega) (by omega), xor_nat (b := v) (by omega) (by omega), xor_nat (b := g) (by omega) (by omega), xor_nat (a := v) (by omega) (by omega)]
  dsimp only
  rw [e]
  refine ⟨?_, q28.2 ⟨_, _, by omega, by omega, rfl⟩, of_seven _⟩
  rw [E_mk, E_mk, E_mk, emb_xor, emb_xor, emb_xor, emb_xor, t2, u2, v2, g2, u2, emb_xor, emb_xor]
  exact three_products _ _ _ _
theorem of_zero {level : Int} {x : S28} (h : ofE level x = true) : ofE level ⟨0, 0⟩ = true := by
 have hL := of_level h
 have hc : level = 0 ∨ level = 1 ∨ level = 2 ∨ level = 3 ∨ level = 4 ∨ level = 5 ∨ level = 6 ∨ level = 7 := by omega
 rcases hc with rfl | rfl | rfl | rfl | rfl | rfl | rfl | rfl <;> decide
theorem of_one {level : Int} (h0 : 0 ≤ level) (h7 : level ≤ 7) : ofE level ⟨0, 1⟩ = true := by
 have hc : level = 0 ∨ level = 1 ∨ level = 2 ∨ level = 3 ∨ level = 4 ∨ level = 5 ∨ level = 6 ∨ level = 7 := by omega
 rcases hc with rfl | rfl | rfl | rfl | rfl | rfl | rfl | rfl <;> decide
theorem of_nought {level : Int} (h0 : 0 ≤ level) (h7 : level ≤ 7) : ofE level ⟨0, 0⟩ = true := of_zero (of_one h0 h7)
theorem MulS_one_r {level : Int} {x : S28} (hx : Q28 x) (ox : ofE level x = true) : MulS level x ⟨0, 1⟩ = x := by
 have hL := of_level ox
 obtain ⟨h1, h2, _⟩ := E_mul hx q_one ox (of_one hL.1 hL.2)
 exact E_inj h2 hx (by rw [h1, E_one, R2.mulOne])
theorem MulS_one_l {level : Int} {x : S28} (hx : Q28 x) (ox : ofE level x = true) : MulS level ⟨0, 1⟩ x = x := by
 have hL := of_level ox
 obtain ⟨h1, h2, _⟩ := E_mul q_one hx (of_one hL.1 hL.2) ox
 exact E_inj h2 hx (by rw [h1, E_one, R2.oneMul])
theorem xorE_zero {x : S28} (hx : Q28 x) : xorE x ⟨0, 0⟩ = x := by
 obtain ⟨h1, h2⟩ := E_add hx q_zero
 exact E_inj h2 hx (by rw [h1, E_zero, R2.addZero])
theorem zero_xorE {x : S28} (hx : Q28 x) : xorE ⟨0, 0⟩ x = x := by
 obtain ⟨h1, h2⟩ := E_add q_zero hx
 exact E_inj h2 hx (by rw [h1, E_zero, R2.zeroAdd])
theorem xorE_self {x : S28} (hx : Q28 x) : xorE x x = ⟨0, 0⟩ := by
 obtain ⟨h1, h2⟩ := E_add hx hx
 exact E_inj h2 q_zero (by rw [h1, E_zero, R2.addSelf])
end Go.Proofs.Ytoaepfgfbfgcdaa.Q
