/- Part 4 of the claim's own texts: the words and the printed functions that the proof reaches. No conditions. -/
import Derived.Test.YtoaepfgfbfgcdaaZkc
namespace Go.Proofs.Ytoaepfgfbfgcdaa.Q
open Go.RowKit Go.Proofs.YtoaepfgfbfgcdaaW.PrintWords Go.Proofs.YtoaepfgfbfgcdaaW.PrintLast Go.Proofs.YtoaepfgfbfgcdaaW.PrintMore
attribute [local go_sem] max2_int min2_int max_two min_two max_three min_three max_four min_four
set_option linter.unusedVariables false
set_option linter.unusedSimpArgs false
mutual
def expr_Eval.l0 : Nat → Int → List (S149) → List (S28) → List (S28) → Int → Int → Option (Int × Int × Int)
 | 0, _, _, _, _, _, _ => none
 | k + 1, x0, x1, x2, x24, x25, x26 => if x26 < x25 then (if 0 ≤ x26 then (if x26 < (x24.length : Int) then ((octet_Of.f x0 ((rd_T28 x24 x26).f0) ((rd_T28 x24 x26).f1)).bind fun t362 => (if t362 = true then (expr_Eval.l0 k x0 x1 x2 x24 x25 (wrap64 (x26 + 1))) else (some (0, 0, 5)))) else (none)) else (none)) else (expr_Eval.l1 k x0 x2 ([] : List (S28)) x1 (x1.length : Int) 0)
def expr_Eval.l1 : Nat → Int → List (S28) → List (S28) → List (S149) → Int → Int → Option (Int × Int × Int)
 | 0, _, _, _, _, _, _ => none
 | k + 1, x0, x2, x11, x36, x37, x38 => if x38 < x37 then (if 0 ≤ x38 then (if x38 < (x36.length : Int) then (if ((rd_T149 x36 x38).f0) = 1 then (if x11.length < 8796093022208 then (expr_Eval.l1 k x0 x2 (x11 ++ [(⟨(rd_T149 x36 x38).f3.f0, (rd_T149 x36 x38).f3.f1⟩ : S28)]) x36 x37 (wrap64 (x38 + 1))) else (none)) else (if ((rd_T149 x36 x38).f0) = 2 then (if 0 ≤ ((rd_T149 x36 x38).f1) then (if ((rd_T149 x36 x38).f1) < (x2.length : Int) then (if x11.length < 8796093022208 then (expr_Eval.l1 k x0 x2 (x11 ++ [(⟨(rd_T28 x2 ((rd_T149 x36 x38).f1)).f0, (rd_T28 x2 ((rd_T149 x36 x38).f1)).f1⟩ : S28)]) x36 x37 (wrap64 (x38 + 1))) else (none)) else (none)) else (none)) else (if ((rd_T149 x36 x38).f0) = 3 then (if 0 ≤ ((rd_T149 x36 x38).f1) then (if ((rd_T149 x36 x38).f1) < (x11.length : Int) then (if 0 ≤ ((rd_T149 x36 x38).f2) then (if ((rd_T149 x36 x38).f2) < (x11.length : Int) then ((tower_Add.f ((rd_T28 x11 ((rd_T149 x36 x38).f1)).f0) ((rd_T28 x11 ((rd_T149 x36 x38).f1)).f1) ((rd_T28 x11 ((rd_T149 x36 x38).f2)).f0) ((rd_T28 x11 ((rd_T149 x36 x38).f2)).f1)).bind fun bt376 => (if x11.length < 8796093022208 then (expr_Eval.l1 k x0 x2 (x11 ++ [(⟨bt376.1, bt376.2⟩ : S28)]) x36 x37 (wrap64 (x38 + 1))) else (none))) else (none)) else (none)) else (none)) else (none)) else (if ((rd_T149 x36 x38).f0) = 4 then (if 0 ≤ ((rd_T149 x36 x38).f1) then (if ((rd_T149 x36 x38).f1) < (x11.length : Int) then (if 0 ≤ ((rd_T149 x36 x38).f2) then (if ((rd_T149 x36 x38).f2) < (x11.length : Int) then ((tower_Mul.f k x0 ((rd_T28 x11 ((rd_T149 x36 x38).f1)).f0) ((rd_T28 x11 ((rd_T149 x36 x38).f1)).f1) ((rd_T28 x11 ((rd_T149 x36 x38).f2)).f0) ((rd_T28 x11 ((rd_T149 x36 x38).f2)).f1)).bind fun bt383 => (if x11.length < 8796093022208 then (expr_Eval.l1 k x0 x2 (x11 ++ [(⟨bt383.1, bt383.2⟩ : S28)]) x36 x37 (wrap64 (x38 + 1))) else (none))) else (none)) else (none)) else (none)) else (none)) else (if x11.length < 8796093022208 then (expr_Eval.l1 k x0 x2 (x11 ++ [(⟨0, 0⟩ : S28)]) x36 x37 (wrap64 (x38 + 1))) else (none)))))) else (none)) else (none)) else (if 0 ≤ (wrap64 ((x11.length : Int) - 1)) then (if (wrap64 ((x11.length : Int) - 1)) < (x11.length : Int) then (some ((rd_T28 x11 (wrap64 ((x11.length : Int) - 1))).f0, (rd_T28 x11 (wrap64 ((x11.length : Int) - 1))).f1, 0)) else (none)) else (none))
end
def expr_Eval.f (k : Nat) (a0 : Int) (l1 : List (S149)) (l2 : List (S28)) : Option (Int × Int × Int) := (expr_Check.f k a0 (l2.length : Int) l1).bind fun t359 => (if t359 = 0 then (expr_Eval.l0 k a0 l1 l2 l2 (l2.length : Int) 0) else (some (0, 0, t359)))
def expr_Eval.T21 : Bool × List (List Nat × List Nat) := (true, [([], []), ([], []), ([1], [1]), ([0, 2], [0, 2]), ([3], [3]), ([], []), ([], []), ([6], [6]), ([5, 7], [5, 7]), ([8], [8]), ([4, 9], [4, 9]), ([10, 10, 0, 1, 2, 3, 4, 5, 6, 7, 8, 9, 10], [10])])
def expr_Eval.B21 : List Nat := [0, 0, 2, 7, 15, 0, 0, 64, 224, 480, 1023, 2047]
theorem expr_Eval.tab21 : rtab .any (opsOf Try.f65 21) = expr_Eval.T21 := by kernel_rfl
theorem expr_Eval.bits21 : waitsOk expr_Eval.T21.2 expr_Eval.B21 = true := by kernel_rfl
def expr_Eval.T23 : Bool × List (List Nat × List Nat) := (true, [([], []), ([], []), ([], []), ([2], [2]), ([1, 3], [1, 3]), ([4], [4]), ([], []), ([], []), ([7], [7]), ([6, 8], [6, 8]), ([9], [9]), ([0, 5, 10], [0, 5, 10]), ([11, 11, 0, 1, 2, 3, 4, 5, 6, 7, 8, 9, 10, 11], [11])])
def expr_Eval.B23 : List Nat := [0, 0, 0, 4, 14, 30, 0, 0, 128, 448, 960, 2047, 4095]
theorem expr_Eval.tab23 : rtab .any (opsOf Try.f65 23) = expr_Eval.T23 := by kernel_rfl
theorem expr_Eval.bits23 : waitsOk expr_Eval.T23.2 expr_Eval.B23 = true := by kernel_rfl
set_option maxHeartbeats 8000000 in
set_option maxRecDepth 100000 in
theorem expr_Eval.calls (k : Nat) (a0 : Int) (A1 : Option Addr) (c1 : Nat) (l1 : List (S149)) (A2 : Option Addr) (c2 : Nat) (l2 : List (S28)) (r1 : Int) (r2 : Int) (r3 : Int) (w : World) (hr1 : Kd.C k149 w A1 l1.length l1) (hc1 : l1.length ≤ c1) (hr2 : Kd.C k28 w A2 l2.length l2) (hc2 : l2.length ≤ c2) (h : expr_Eval.f k a0 l1 l2 = some (r1, r2, r3)) :
  Calls Try.prog 65 #[.int .i64 a0, .slice A1 l1.length c1, .slice A2 l2.length c2] w fun e w' => e = .returned (.tuple #[.agg #[.int .u64 r1, .int .u64 r2], .int .i64 r3]) ∧ Below w.heap.size w w' := by
 have hu28 := Try.underlying28
 have hu149 := Try.underlying149
 have HR1 := Aside0.mk hr1
 have HC1 := Aside0.mk hc1
 clear hr1 hc1
 have HR2 := Aside0.mk hr2
 have HC2 := Aside0.mk hc2
 clear hr2 hc2
 have HB := Aside0.mk (Below.refl w.heap.size w)
 have H : ((expr_Check.f k a0 (l2.length : Int) l1).bind fun t359 => (if t359 = 0 then (expr_Eval.l0 k a0 l1 l2 l2 (l2.length : Int) 0) else (some (0, 0, t359)))) = some (r1, r2, r3) := h
 clear h
 replace H := Option.bind_eq_some_iff.mp H
 obtain ⟨t359, A40, H⟩ := H
 replace H : (if t359 = 0 then (expr_Eval.l0 k a0 l1 l2 l2 (l2.length : Int) 0) else (some (0, 0, t359))) = some (r1, r2, r3) := H
 have A4 := Aside0.mk A40
 clear A40
 by_cases c5 : t359 = 0
 ·rw [if_pos c5] at H
  have c5b0 : (t359 == 0) = true := beq_iff_eq.mpr c5
  have c5b1 : (t359 != 0) = false := bne_eq_false_iff_eq.mpr c5
  clear c5
  have H' := Aside0.mk H
  clear H
  go_enter Try.func65, Try.ntmps65
  go_wp2_with (first | ((with_reducible refine gate_dst (N := 6) rfl ?_); refine box_event ?hg (N := 6) ?hd (cs := #[.int .u64 0, .int .u64 0]) (t := 28) ?hr ?_; (case hd => rfl); (case hg => rfl); (case hr => first | (go_simp; done) | (go_simp; rfl)); intro gb358 hg w6 hbox hb; have n0_ := Aside0.mk (below_step (by exact lF HB.out) hb); have n1_ := Aside0.mk (hbox); have n2_ := Aside0.mk ((by rw [hg]; exact (below_size (by exact lF HB.out)) : w.heap.size ≤ gb358)); have n3_ := Aside0.mk ((by rw [hg]; exact (below_size (by exact lF HB.out)) : w.heap.size ≤ gb358)); clear HB; have HB := n0_; have BK358 := n1_; have GW358 := n2_; have GE358 := n3_; clear n0_ n1_ n2_ n3_; clear hb hbox hg) | ((with_reducible refine gate_callee (f := 91) rfl ?_); refine goesL_ (some 19) rfl rfl Try.func91 (by kernel_rfl) rfl #[.int .i64 a0, .int .i64 (l2.length : Int), .slice A1 l1.length c1] rfl (by (try simp only [List.map_toArray, List.map_cons, List.map_nil]); first | done | rfl | (simp only [List.length_drop, List.length_take]; rfl)) ?_; (with_reducible refine (expr_Check.calls k a0 (l2.length : Int) _ _ l1 t359 _ ?side1 ?side2 A4.out).mono ?_); (case side1 => repeat (first | exact (Kd.C_below HR1.out HB.out) | (with_reducible refine Kd.C_alloc ?_ _) | (with_reducible refine Kd.C_drewN ?_ _) | (with_reducible refine Kd.C_drew ?_))); (case side2 => exact HC1.out); rintro e w7 ⟨rfl, hb⟩; refine ⟨_, rfl, ?_⟩; have n0_ := Aside0.mk (blk_below (g := gb358) (o := .cells #[.int .u64 0, .int .u64 0] 28 (0, 0)) (by exact bF BK358.out) hb); have n1_ := Aside0.mk (below_step (by repeat (first | (with_reducible first | exact HB.out | apply bA | apply bN | apply bD | refine bS ?_ GE358.out) | exact HB.out)) hb); clear BK358; clear HB; have BK358 := n0_; have HB := n1_; clear n0_ n1_; (try clear hb); (try clear hb2); (try clear hk); (try clear hi)))
  go_loopg [26] k (fun kq v26 w' => ∃ (x26_1 : Int) (x359000_1 : Int) (x359001_1 : Int), v26 = .int .i64 x26_1 ∧ Aside0 (expr_Eval.l0 kq a0 l1 l2 l2 (l2.length : Int) x26_1 = some (r1, r2, r3)) ∧ Aside0 (kq ≤ k) ∧ Aside0 (w'.heap[gb358]? = some (.cells #[.int .u64 x359000_1, .int .u64 x359001_1] 28 (0, 0))) ∧ Aside0 (Below w.heap.size w w'))
  case atStart => exact ⟨(0), (0), (0), (by first | rfl | (simp; done) | (simp [*]; done)), H', ⟨Nat.le_refl _⟩, ⟨by exact bF BK358.out⟩, ⟨by repeat (first | (with_reducible first | exact HB.out | apply bA | apply bN | apply bD | refine bS ?_ GE358.out) | exact HB.out)⟩⟩
  case round =>
   clear H'
   try clear c1
   try clear c2
   try clear p2
   try clear c5
   try clear c5b0
   try clear c5b1
   try clear c6
   obtain ⟨x26_1, x359000_1, x359001_1, rfl, HA, HK1, BK358, HB⟩ := hrel
   cases gk with
   | zero => exact absurd HA.out (by simp [expr_Eval.l0])
   | succ k1 =>
    have H := HA.out
    clear HA
    simp only [expr_Eval.l0] at H
    by_cases c8 : x26_1 < (l2.length : Int)
    ·rw [if_pos c8] at H
     have c8b0 : decide (x26_1 < (l2.length : Int)) = true := decide_eq_true c8
     clear c8
     by_cases c9 : 0 ≤ x26_1
     ·rw [if_pos c9] at H
      have c9b0 : decide (0 ≤ x26_1) = true := decide_eq_true c9
      clear c9
      by_cases c10 : x26_1 < (l2.length : Int)
      ·rw [if_pos c10] at H
       have c10b0 : decide (x26_1 < (l2.length : Int)) = true := decide_eq_true c10
       clear c10
       replace H := Option.bind_eq_some_iff.mp H
       obtain ⟨t362, A110, H⟩ := H
       replace H : (if t362 = true then (expr_Eval.l0 k1 a0 l1 l2 l2 (l2.length : Int) (wrap64 (x26_1 + 1))) else (some (0, 0, 5))) = some (r1, r2, r3) := H
       have A11 := Aside0.mk A110
       clear A110
       by_cases c12 : t362 = true
       ·subst c12
        have H1 : (expr_Eval.l0 k1 a0 l1 l2 l2 (l2.length : Int) (wrap64 (x26_1 + 1))) = some (r1, r2, r3) := by rw [if_pos rfl] at H; exact H
        clear H
        have H := H1
        clear H1
        have H' := Aside0.mk H
        clear H
        have p360 : 0 ≤ (x26_1 : Int) := of_decide_eq_true (by first | (with_reducible assumption) | assumption)
        have q360 : x26_1 < (l2.length : Int) := of_decide_eq_true (by first | (with_reducible assumption) | assumption)
        obtain ⟨ad360, e360, hx360_0, hx360_1⟩ := at_T28 HR2.out x26_1 p360 q360
        cases e360
        replace hx360_0 := (HB.out.cell (World.block_lt_of_cell? w _ hx360_0)).trans hx360_0
        replace hx360_1 := (HB.out.cell (World.block_lt_of_cell? w _ hx360_1)).trans hx360_1
        replace p360 := eq_true p360
        replace q360 := eq_true q360
        go_wp2_with (first | ((with_reducible refine gate_dst (N := 10) rfl ?_); refine box_event ?hg (N := 10) ?hd (cs := #[.int .u64 0, .int .u64 0]) (t := 28) ?hr ?_; (case hd => rfl); (case hg => rfl); (case hr => first | (go_simp; done) | (go_simp; rfl)); intro gb361 hg w13 hbox hb; have n0_ := Aside0.mk (blk_below (g := gb358) (o := .cells #[.int .u64 x359000_1, .int .u64 x359001_1] 28 (0, 0)) (by exact bF BK358.out) hb); have n1_ := Aside0.mk (below_step (by repeat (first | (with_reducible first | exact HB.out | apply bA | apply bN | apply bD | refine bS ?_ GE358.out) | exact HB.out)) hb); have n2_ := Aside0.mk (hbox); have n3_ := Aside0.mk ((by rw [hg]; exact (below_size (by repeat (first | (with_reducible first | exact HB.out | apply bA | apply bN | apply bD | refine bS ?_ GE358.out) | exact HB.out))) : w.heap.size ≤ gb361)); have n4_ := Aside0.mk ((by rw [hg]; exact (below_size (by repeat (first | (with_reducible first | exact HB.out | apply bA | apply bN | apply bD | refine bS ?_ GE358.out) | exact HB.out))) : w.heap.size ≤ gb361)); have n5_ := Aside0.mk ((by rw [hg]; exact Nat.ne_of_lt (blk_lt (g := gb358) (o := .cells #[.int .u64 x359000_1, .int .u64 x359001_1] 28 (0, 0)) (by exact bF BK358.out)) : gb358 ≠ gb361)); have n6_ := Aside0.mk ((by rw [hg]; exact Nat.ne_of_gt (blk_lt (g := gb358) (o := .cells #[.int .u64 x359000_1, .int .u64 x359001_1] 28 (0, 0)) (by exact bF BK358.out)) : gb361 ≠ gb358)); clear BK358; clear HB; have BK358 := n0_; have HB := n1_; have BK361 := n2_; have GW361 := n3_; have GE361 := n4_; have NB358_361 := n5_; have NB361_358 := n6_; clear n0_ n1_ n2_ n3_ n4_ n5_ n6_; clear hb hbox hg; have hnb14 := NB361_358.out; have hnc14 := NB358_361.out; have hcz15_0 : w13.cell? ⟨gb361, 0, none⟩ = some (.int .u64 0) := (blk_cell BK361.out 0).trans rfl; have hcz15_1 : w13.cell? ⟨gb361, 1, none⟩ = some (.int .u64 0) := (blk_cell BK361.out 1).trans rfl; have hfz15_0 := blk_frozen BK361.out 0; have hfz15_1 := blk_frozen BK361.out 1) | ((with_reducible refine gate_callee (f := 81) rfl ?_); refine goesL_ (some 32) rfl rfl Try.func81 (by kernel_rfl) rfl #[.int .i64 a0, .agg #[.int .u64 ((rd_T28 l2 x26_1).f0), .int .u64 ((rd_T28 l2 x26_1).f1)]] rfl (by (try simp only [List.map_toArray, List.map_cons, List.map_nil]); first | done | rfl | (simp only [List.length_drop, List.length_take]; rfl)) ?_; (with_reducible refine (octet_Of.calls a0 ((rd_T28 l2 x26_1).f0) ((rd_T28 l2 x26_1).f1) true _ A11.out).mono ?_); rintro e w16 ⟨rfl, hb⟩; refine ⟨_, rfl, ?_⟩; have n0_ := Aside0.mk (blk_below (g := gb358) (o := .cells #[.int .u64 x359000_1, .int .u64 x359001_1] 28 (0, 0)) (by (with_reducible repeat (first | refine blk_drewN ?_ _ | refine blk_drew ?_ | refine blk_alloc ?_ _)); refine blk_far ?_ NB358_361.out _; (with_reducible repeat (first | refine blk_drewN ?_ _ | refine blk_drew ?_ | refine blk_alloc ?_ _)); refine blk_far ?_ NB358_361.out _; exact bF BK358.out) hb); have n1_ := Aside0.mk (blk_below (g := gb361) (o := .cells #[.int .u64 ((rd_T28 l2 x26_1).f0), .int .u64 ((rd_T28 l2 x26_1).f1)] 28 (0, 0)) (by (with_reducible repeat (first | refine blk_drewN ?_ _ | refine blk_drew ?_ | refine blk_alloc ?_ _)); refine blk_put (cs := #[.int .u64 ((rd_T28 l2 x26_1).f0), .int .u64 0]) ?_ 1 _ rfl; (with_reducible repeat (first | refine blk_drewN ?_ _ | refine blk_drew ?_ | refine blk_alloc ?_ _)); refine blk_put (cs := #[.int .u64 0, .int .u64 0]) ?_ 0 _ rfl; exact bF BK361.out) hb); have n2_ := Aside0.mk (below_step (by repeat (first | (with_reducible first | exact HB.out | apply bA | apply bN | apply bD | refine bS ?_ GE358.out | refine bS ?_ GE361.out) | exact HB.out)) hb); clear BK358; clear BK361; clear HB; have BK358 := n0_; have BK361 := n1_; have HB := n2_; clear n0_ n1_ n2_; (try clear hb); (try clear hb2); (try clear hk); (try clear hi)))
        go_roundg k1
        case measure => have := HK1.out; omega
        case rel => exact ⟨(wrap64 (x26_1 + 1)), (x359000_1), (x359001_1), (by first | rfl | (simp; done) | (simp [*]; done)), H', ⟨by have := HK1.out; omega⟩, ⟨by exact bF BK358.out⟩, ⟨by repeat (first | (with_reducible first | exact HB.out | apply bA | apply bN | apply bD | refine bS ?_ GE358.out | refine bS ?_ GE361.out) | exact HB.out)⟩⟩
       ·replace c12 := Bool.eq_false_iff.mpr c12
        subst c12
        have H1 : (some (0, 0, 5)) = some (r1, r2, r3) := by rw [if_neg (show ¬ (false = true) by decide)] at H; exact H
        clear H
        have H := H1
        clear H1
        simp only [Option.some.injEq, Prod.mk.injEq] at H
        obtain ⟨rfl, rfl, rfl⟩ := H
        have p360 : 0 ≤ (x26_1 : Int) := of_decide_eq_true (by first | (with_reducible assumption) | assumption)
        have q360 : x26_1 < (l2.length : Int) := of_decide_eq_true (by first | (with_reducible assumption) | assumption)
        obtain ⟨ad360, e360, hx360_0, hx360_1⟩ := at_T28 HR2.out x26_1 p360 q360
        cases e360
        replace hx360_0 := (HB.out.cell (World.block_lt_of_cell? w _ hx360_0)).trans hx360_0
        replace hx360_1 := (HB.out.cell (World.block_lt_of_cell? w _ hx360_1)).trans hx360_1
        replace p360 := eq_true p360
        replace q360 := eq_true q360
        go_wp2_with (first | ((with_reducible refine gate_dst (N := 10) rfl ?_); refine box_event ?hg (N := 10) ?hd (cs := #[.int .u64 0, .int .u64 0]) (t := 28) ?hr ?_; (case hd => rfl); (case hg => rfl); (case hr => first | (go_simp; done) | (go_simp; rfl)); intro gb361 hg w17 hbox hb; have n0_ := Aside0.mk (blk_below (g := gb358) (o := .cells #[.int .u64 x359000_1, .int .u64 x359001_1] 28 (0, 0)) (by exact bF BK358.out) hb); have n1_ := Aside0.mk (below_step (by repeat (first | (with_reducible first | exact HB.out | apply bA | apply bN | apply bD | refine bS ?_ GE358.out) | exact HB.out)) hb); have n2_ := Aside0.mk (hbox); have n3_ := Aside0.mk ((by rw [hg]; exact (below_size (by repeat (first | (with_reducible first | exact HB.out | apply bA | apply bN | apply bD | refine bS ?_ GE358.out) | exact HB.out))) : w.heap.size ≤ gb361)); have n4_ := Aside0.mk ((by rw [hg]; exact (below_size (by repeat (first | (with_reducible first | exact HB.out | apply bA | apply bN | apply bD | refine bS ?_ GE358.out) | exact HB.out))) : w.heap.size ≤ gb361)); have n5_ := Aside0.mk ((by rw [hg]; exact Nat.ne_of_lt (blk_lt (g := gb358) (o := .cells #[.int .u64 x359000_1, .int .u64 x359001_1] 28 (0, 0)) (by exact bF BK358.out)) : gb358 ≠ gb361)); have n6_ := Aside0.mk ((by rw [hg]; exact Nat.ne_of_gt (blk_lt (g := gb358) (o := .cells #[.int .u64 x359000_1, .int .u64 x359001_1] 28 (0, 0)) (by exact bF BK358.out)) : gb361 ≠ gb358)); clear BK358; clear HB; have BK358 := n0_; have HB := n1_; have BK361 := n2_; have GW361 := n3_; have GE361 := n4_; have NB358_361 := n5_; have NB361_358 := n6_; clear n0_ n1_ n2_ n3_ n4_ n5_ n6_; clear hb hbox hg; have hnb18 := NB361_358.out; have hnc18 := NB358_361.out; have hcz19_0 : w17.cell? ⟨gb361, 0, none⟩ = some (.int .u64 0) := (blk_cell BK361.out 0).trans rfl; have hcz19_1 : w17.cell? ⟨gb361, 1, none⟩ = some (.int .u64 0) := (blk_cell BK361.out 1).trans rfl; have hfz19_0 := blk_frozen BK361.out 0; have hfz19_1 := blk_frozen BK361.out 1) | ((with_reducible refine gate_callee (f := 81) rfl ?_); refine goesL_ (some 32) rfl rfl Try.func81 (by kernel_rfl) rfl #[.int .i64 a0, .agg #[.int .u64 ((rd_T28 l2 x26_1).f0), .int .u64 ((rd_T28 l2 x26_1).f1)]] rfl (by (try simp only [List.map_toArray, List.map_cons, List.map_nil]); first | done | rfl | (simp only [List.length_drop, List.length_take]; rfl)) ?_; (with_reducible refine (octet_Of.calls a0 ((rd_T28 l2 x26_1).f0) ((rd_T28 l2 x26_1).f1) false _ A11.out).mono ?_); rintro e w20 ⟨rfl, hb⟩; refine ⟨_, rfl, ?_⟩; have n0_ := Aside0.mk (blk_below (g := gb358) (o := .cells #[.int .u64 x359000_1, .int .u64 x359001_1] 28 (0, 0)) (by (with_reducible repeat (first | refine blk_drewN ?_ _ | refine blk_drew ?_ | refine blk_alloc ?_ _)); refine blk_far ?_ NB358_361.out _; (with_reducible repeat (first | refine blk_drewN ?_ _ | refine blk_drew ?_ | refine blk_alloc ?_ _)); refine blk_far ?_ NB358_361.out _; exact bF BK358.out) hb); have n1_ := Aside0.mk (blk_below (g := gb361) (o := .cells #[.int .u64 ((rd_T28 l2 x26_1).f0), .int .u64 ((rd_T28 l2 x26_1).f1)] 28 (0, 0)) (by (with_reducible repeat (first | refine blk_drewN ?_ _ | refine blk_drew ?_ | refine blk_alloc ?_ _)); refine blk_put (cs := #[.int .u64 ((rd_T28 l2 x26_1).f0), .int .u64 0]) ?_ 1 _ rfl; (with_reducible repeat (first | refine blk_drewN ?_ _ | refine blk_drew ?_ | refine blk_alloc ?_ _)); refine blk_put (cs := #[.int .u64 0, .int .u64 0]) ?_ 0 _ rfl; exact bF BK361.out) hb); have n2_ := Aside0.mk (below_step (by repeat (first | (with_reducible first | exact HB.out | apply bA | apply bN | apply bD | refine bS ?_ GE358.out | refine bS ?_ GE361.out) | exact HB.out)) hb); clear BK358; clear BK361; clear HB; have BK358 := n0_; have BK361 := n1_; have HB := n2_; clear n0_ n1_ n2_; (try clear hb); (try clear hb2); (try clear hk); (try clear hi); have hcz21_0 : w20.cell? ⟨gb358, 0, none⟩ = some (.int .u64 x359000_1) := (blk_cell BK358.out 0).trans rfl; have hcz21_1 : w20.cell? ⟨gb358, 1, none⟩ = some (.int .u64 x359001_1) := (blk_cell BK358.out 1).trans rfl; have hfz21_0 := blk_frozen BK358.out 0; have hfz21_1 := blk_frozen BK358.out 1))
        refine bodyPost_ret (results_ct rfl _ _ gb358 28 #[.int .u64 0, .int .u64 0] (0, 0) _ rfl (by (with_reducible repeat (first | refine blk_drewN ?_ _ | refine blk_drew ?_ | refine blk_alloc ?_ _)); refine blk_put (cs := #[.int .u64 0, .int .u64 x359001_1]) ?_ 1 _ rfl; (with_reducible repeat (first | refine blk_drewN ?_ _ | refine blk_drew ?_ | refine blk_alloc ?_ _)); refine blk_put (cs := #[.int .u64 x359000_1, .int .u64 x359001_1]) ?_ 0 _ rfl; exact bF BK358.out) Try.underlying28 rfl (by kernel_rfl)) rfl ?_
        exact ⟨by first | rfl | (simp [errW_none, errW_some] <;> rfl) | (simp [*, errW_none, errW_some] <;> rfl), by repeat (first | (with_reducible first | exact HB.out | apply bA | apply bN | apply bD | refine bS ?_ GE358.out | refine bS ?_ GE361.out) | exact HB.out)⟩
      ·rw [if_neg c10] at H
       exact absurd H (by simp)
     ·rw [if_neg c9] at H
      exact absurd H (by simp)
    ·rw [if_neg c8] at H
     have c8b0 : decide (x26_1 < (l2.length : Int)) = false := decide_eq_false c8
     clear c8
     have H' := Aside0.mk H
     clear H
     go_wp2
     go_loopg [11, 38] k1 (fun kq v11 v38 w' => ∃ (x11_2 : List (S28)) (x38_2 : Int), v38 = .int .i64 x38_2 ∧ Aside0 (expr_Eval.l1 kq a0 l2 x11_2 l1 (l1.length : Int) x38_2 = some (r1, r2, r3)) ∧ Aside0 (kq ≤ k1) ∧ Aside0 (Kd.R k28 28 w' w.heap.size (fun k_ => k_ ≠ gb358) v11 x11_2) ∧ Aside0 (w'.heap[gb358]? = some (.cells #[.int .u64 x359000_1, .int .u64 x359001_1] 28 (0, 0))) ∧ Aside0 (Below w.heap.size w w'))
     case atStart => exact ⟨(([] : List (S28))), (0), (by first | rfl | (simp; done) | (simp [*]; done)), H', ⟨Nat.le_refl _⟩, ⟨by first | exact Kd.R_nil _ _ _ _ _ | exact Kd.N_nil _ _ _ _ _ | exact Kd.V_nil _ _ _ _ _ | exact Kd.Q_nil _ _ _ _ _ | exact Kd.S_nil _ _ _ _ _⟩, ⟨by exact bF BK358.out⟩, ⟨by repeat (first | (with_reducible first | exact HB.out | apply bA | apply bN | apply bD | refine bS ?_ GE358.out) | exact HB.out)⟩⟩
     case round =>
      clear H'
      try clear c1
      try clear c2
      try clear p2
      try clear p3
      try clear q3
      try clear hx3
      try clear c5
      try clear c5b0
      try clear c5b1
      try clear c6
      try clear p6
      try clear c8
      try clear c8b0
      try clear c9
      try clear c9b0
      try clear c10
      try clear c10b0
      try clear c12
      try clear c14
      try clear c18
      try clear hcz15_0
      try clear hcz15_1
      try clear hcz19_0
      try clear hcz19_1
      try clear hcz21_0
      try clear hcz21_1
      try clear hfz15_0
      try clear hfz15_1
      try clear hfz19_0
      try clear hfz19_1
      try clear hfz21_0
      try clear hfz21_1
      try clear hx360_0
      try clear hx360_1
      try clear p2
      try clear p360
      try clear q360
      obtain ⟨x11_2, x38_2, rfl, HA, HK2, HO_11, BK358, HB⟩ := hrel
      cases gk with
      | zero => exact absurd HA.out (by simp [expr_Eval.l1])
      | succ k2 =>
       have H := HA.out
       clear HA
       simp only [expr_Eval.l1] at H
       by_cases c22 : x38_2 < (l1.length : Int)
       ·rw [if_pos c22] at H
        have c22b0 : decide (x38_2 < (l1.length : Int)) = true := decide_eq_true c22
        clear c22
        by_cases c23 : 0 ≤ x38_2
        ·rw [if_pos c23] at H
         have c23b0 : decide (0 ≤ x38_2) = true := decide_eq_true c23
         clear c23
         by_cases c24 : x38_2 < (l1.length : Int)
         ·rw [if_pos c24] at H
          have c24b0 : decide (x38_2 < (l1.length : Int)) = true := decide_eq_true c24
          clear c24
          by_cases c25 : ((rd_T149 l1 x38_2).f0) = 1
          ·rw [if_pos c25] at H
           have c25b0 : (((rd_T149 l1 x38_2).f0) == 1) = true := beq_iff_eq.mpr c25
           have c25b1 : (((rd_T149 l1 x38_2).f0) != 1) = false := bne_eq_false_iff_eq.mpr c25
           clear c25
           by_cases c26 : x11_2.length < 8796093022208
           ·rw [if_pos c26] at H
            have LMc26 := Aside0.mk c26
            clear c26
            obtain ⟨y367, hy367⟩ : ∃ y_ : List (S28), y_ = (x11_2 ++ [(⟨(rd_T149 l1 x38_2).f3.f0, (rd_T149 l1 x38_2).f3.f1⟩ : S28)]) := ⟨_, rfl⟩
            replace H : (expr_Eval.l1 k2 a0 l2 y367 l1 (l1.length : Int) (wrap64 (x38_2 + 1))) = some (r1, r2, r3) := by first | (rw [hy367]; with_reducible exact H) | (have H2_ := (Option.bind_some _ _).symm.trans H; rw [hy367]; with_reducible exact H2_) | (have H2_ := (Option.bind_some _ _).symm.trans H; with_reducible exact H2_) | with_reducible exact H | (rw [hy367]; exact H) | exact H
            have Ny367 := Aside0.mk hy367
            clear hy367
            have H' := Aside0.mk H
            clear H
            have p364 : 0 ≤ (x38_2 : Int) := of_decide_eq_true (by first | (with_reducible assumption) | assumption)
            have q364 : x38_2 < (l1.length : Int) := of_decide_eq_true (by first | (with_reducible assumption) | assumption)
            obtain ⟨ad364, e364, hx364_0, hx364_1, hx364_2, hx364_3, hx364_4⟩ := at_T149 HR1.out x38_2 p364 q364
            cases e364
            replace hx364_0 := (HB.out.cell (World.block_lt_of_cell? w _ hx364_0)).trans hx364_0
            replace hx364_1 := (HB.out.cell (World.block_lt_of_cell? w _ hx364_1)).trans hx364_1
            replace hx364_2 := (HB.out.cell (World.block_lt_of_cell? w _ hx364_2)).trans hx364_2
            replace hx364_3 := (HB.out.cell (World.block_lt_of_cell? w _ hx364_3)).trans hx364_3
            replace hx364_4 := (HB.out.cell (World.block_lt_of_cell? w _ hx364_4)).trans hx364_4
            replace p364 := eq_true p364
            replace q364 := eq_true q364
            go_wp2_with (first | ((with_reducible refine gate_dst (N := 13) rfl ?_); refine box_event ?hg (N := 13) ?hd (cs := #[.int .i64 0, .int .i64 0, .int .i64 0, .int .u64 0, .int .u64 0]) (t := 149) ?hr ?_; (case hd => rfl); (case hg => rfl); (case hr => first | (go_simp; done) | (go_simp; rfl)); intro gb365 hg w27 hbox hb; have n0_ := Aside0.mk (Kd.R_below (by exact rF HO_11.out) hb); have n1_ := Aside0.mk (blk_below (g := gb358) (o := .cells #[.int .u64 x359000_1, .int .u64 x359001_1] 28 (0, 0)) (by exact bF BK358.out) hb); have n2_ := Aside0.mk (below_step (by repeat (first | (with_reducible first | exact HB.out | apply bA | apply bN | apply bD | refine bS ?_ GE358.out) | exact HB.out)) hb); have n3_ := Aside0.mk (hbox); have n4_ := Aside0.mk ((by rw [hg]; exact (below_size (by repeat (first | (with_reducible first | exact HB.out | apply bA | apply bN | apply bD | refine bS ?_ GE358.out) | exact HB.out))) : w.heap.size ≤ gb365)); have n5_ := Aside0.mk ((by rw [hg]; exact (below_size (by repeat (first | (with_reducible first | exact HB.out | apply bA | apply bN | apply bD | refine bS ?_ GE358.out) | exact HB.out))) : w.heap.size ≤ gb365)); have n6_ := Aside0.mk ((by rw [hg]; exact Nat.ne_of_lt (blk_lt (g := gb358) (o := .cells #[.int .u64 x359000_1, .int .u64 x359001_1] 28 (0, 0)) (by exact bF BK358.out)) : gb358 ≠ gb365)); have n7_ := Aside0.mk ((by rw [hg]; exact Nat.ne_of_gt (blk_lt (g := gb358) (o := .cells #[.int .u64 x359000_1, .int .u64 x359001_1] 28 (0, 0)) (by exact bF BK358.out)) : gb365 ≠ gb358)); clear HO_11; clear BK358; clear HB; have HO_11 := n0_; have BK358 := n1_; have HB := n2_; have BK365 := n3_; have GW365 := n4_; have GE365 := n5_; have NB358_365 := n6_; have NB365_358 := n7_; clear n0_ n1_ n2_ n3_ n4_ n5_ n6_ n7_; clear hb hbox hg; have hnb28 := NB365_358.out; have hnc28 := NB358_365.out; have hcz29_0 : w27.cell? ⟨gb365, 0, none⟩ = some (.int .i64 0) := (blk_cell BK365.out 0).trans rfl; have hcz29_1 : w27.cell? ⟨gb365, 1, none⟩ = some (.int .i64 0) := (blk_cell BK365.out 1).trans rfl; have hcz29_2 : w27.cell? ⟨gb365, 2, none⟩ = some (.int .i64 0) := (blk_cell BK365.out 2).trans rfl; have hcz29_3 : w27.cell? ⟨gb365, 3, none⟩ = some (.int .u64 0) := (blk_cell BK365.out 3).trans rfl; have hcz29_4 : w27.cell? ⟨gb365, 4, none⟩ = some (.int .u64 0) := (blk_cell BK365.out 4).trans rfl; have hfz29_0 := blk_frozen BK365.out 0; have hfz29_1 := blk_frozen BK365.out 1; have hfz29_2 := blk_frozen BK365.out 2; have hfz29_3 := blk_frozen BK365.out 3; have hfz29_4 := blk_frozen BK365.out 4) | ((with_reducible refine gate_dst (N := 14) rfl ?_); refine box_event ?hg (N := 14) ?hd (cs := #[.int .u64 0, .int .u64 0]) (t := 28) ?hr ?_; (case hd => rfl); (case hg => rfl); (case hr => first | (go_simp; done) | (go_simp; rfl)); intro gb366 hg w30 hbox hb; have n0_ := Aside0.mk (Kd.R_below (Kd.R_elderB (by (with_reducible repeat (first | apply Kd.R_alloc | apply Kd.R_drewN | apply Kd.R_drew)); exact (Kd.R_mono (Kd.R_far (p := ⟨gb365, 4, none⟩) (Kd.R_far (p := ⟨gb365, 3, none⟩) (Kd.R_far (p := ⟨gb365, 2, none⟩) (Kd.R_far (p := ⟨gb365, 1, none⟩) (Kd.R_far (p := ⟨gb365, 0, none⟩) (Kd.R_types HO_11.out BK365.out (by decide)) (fun _ hk => hk.2) (.int .i64 ((rd_T149 l1 x38_2).f0))) (fun _ hk => hk.2) (.int .i64 ((rd_T149 l1 x38_2).f1))) (fun _ hk => hk.2) (.int .i64 ((rd_T149 l1 x38_2).f2))) (fun _ hk => hk.2) (.int .u64 ((rd_T149 l1 x38_2).f3.f0))) (fun _ hk => hk.2) (.int .u64 ((rd_T149 l1 x38_2).f3.f1))) (fun _ h_ => h_.1))) gb366 (Nat.le_of_eq hg.symm)) hb); have n1_ := Aside0.mk (blk_below (g := gb358) (o := .cells #[.int .u64 x359000_1, .int .u64 x359001_1] 28 (0, 0)) (by (with_reducible repeat (first | refine blk_drewN ?_ _ | refine blk_drew ?_ | refine blk_alloc ?_ _)); refine blk_far ?_ NB358_365.out _; (with_reducible repeat (first | refine blk_drewN ?_ _ | refine blk_drew ?_ | refine blk_alloc ?_ _)); refine blk_far ?_ NB358_365.out _; (with_reducible repeat (first | refine blk_drewN ?_ _ | refine blk_drew ?_ | refine blk_alloc ?_ _)); refine blk_far ?_ NB358_365.out _; (with_reducible repeat (first | refine blk_drewN ?_ _ | refine blk_drew ?_ | refine blk_alloc ?_ _)); refine blk_far ?_ NB358_365.out _; (with_reducible repeat (first | refine blk_drewN ?_ _ | refine blk_drew ?_ | refine blk_alloc ?_ _)); refine blk_far ?_ NB358_365.out _; exact bF BK358.out) hb); have n2_ := Aside0.mk (blk_below (g := gb365) (o := .cells #[.int .i64 ((rd_T149 l1 x38_2).f0), .int .i64 ((rd_T149 l1 x38_2).f1), .int .i64 ((rd_T149 l1 x38_2).f2), .int .u64 ((rd_T149 l1 x38_2).f3.f0), .int .u64 ((rd_T149 l1 x38_2).f3.f1)] 149 (0, 0)) (by (with_reducible repeat (first | refine blk_drewN ?_ _ | refine blk_drew ?_ | refine blk_alloc ?_ _)); refine blk_put (cs := #[.int .i64 ((rd_T149 l1 x38_2).f0), .int .i64 ((rd_T149 l1 x38_2).f1), .int .i64 ((rd_T149 l1 x38_2).f2), .int .u64 ((rd_T149 l1 x38_2).f3.f0), .int .u64 0]) ?_ 4 _ rfl; (with_reducible repeat (first | refine blk_drewN ?_ _ | refine blk_drew ?_ | refine blk_alloc ?_ _)); refine blk_put (cs := #[.int .i64 ((rd_T149 l1 x38_2).f0), .int .i64 ((rd_T149 l1 x38_2).f1), .int .i64 ((rd_T149 l1 x38_2).f2), .int .u64 0, .int .u64 0]) ?_ 3 _ rfl; (with_reducible repeat (first | refine blk_drewN ?_ _ | refine blk_drew ?_ | refine blk_alloc ?_ _)); refine blk_put (cs := #[.int .i64 ((rd_T149 l1 x38_2).f0), .int .i64 ((rd_T149 l1 x38_2).f1), .int .i64 0, .int .u64 0, .int .u64 0]) ?_ 2 _ rfl; (with_reducible repeat (first | refine blk_drewN ?_ _ | refine blk_drew ?_ | refine blk_alloc ?_ _)); refine blk_put (cs := #[.int .i64 ((rd_T149 l1 x38_2).f0), .int .i64 0, .int .i64 0, .int .u64 0, .int .u64 0]) ?_ 1 _ rfl; (with_reducible repeat (first | refine blk_drewN ?_ _ | refine blk_drew ?_ | refine blk_alloc ?_ _)); refine blk_put (cs := #[.int .i64 0, .int .i64 0, .int .i64 0, .int .u64 0, .int .u64 0]) ?_ 0 _ rfl; exact bF BK365.out) hb); have n3_ := Aside0.mk (below_step (by repeat (first | (with_reducible first | exact HB.out | apply bA | apply bN | apply bD | refine bS ?_ GE358.out | refine bS ?_ GE365.out) | exact HB.out)) hb); have n4_ := Aside0.mk (hbox); have n5_ := Aside0.mk ((by rw [hg]; exact (below_size (by repeat (first | (with_reducible first | exact HB.out | apply bA | apply bN | apply bD | refine bS ?_ GE358.out | refine bS ?_ GE365.out) | exact HB.out))) : w.heap.size ≤ gb366)); have n6_ := Aside0.mk ((by rw [hg]; exact (below_size (by repeat (first | (with_reducible first | exact HB.out | apply bA | apply bN | apply bD | refine bS ?_ GE358.out | refine bS ?_ GE365.out) | exact HB.out))) : w.heap.size ≤ gb366)); have n7_ := Aside0.mk ((by rw [hg]; exact Nat.ne_of_lt (blk_lt (g := gb358) (o := .cells #[.int .u64 x359000_1, .int .u64 x359001_1] 28 (0, 0)) (by (with_reducible repeat (first | refine blk_drewN ?_ _ | refine blk_drew ?_ | refine blk_alloc ?_ _)); refine blk_far ?_ NB358_365.out _; (with_reducible repeat (first | refine blk_drewN ?_ _ | refine blk_drew ?_ | refine blk_alloc ?_ _)); refine blk_far ?_ NB358_365.out _; (with_reducible repeat (first | refine blk_drewN ?_ _ | refine blk_drew ?_ | refine blk_alloc ?_ _)); refine blk_far ?_ NB358_365.out _; (with_reducible repeat (first | refine blk_drewN ?_ _ | refine blk_drew ?_ | refine blk_alloc ?_ _)); refine blk_far ?_ NB358_365.out _; (with_reducible repeat (first | refine blk_drewN ?_ _ | refine blk_drew ?_ | refine blk_alloc ?_ _)); refine blk_far ?_ NB358_365.out _; exact bF BK358.out)) : gb358 ≠ gb366)); have n8_ := Aside0.mk ((by rw [hg]; exact Nat.ne_of_gt (blk_lt (g := gb358) (o := .cells #[.int .u64 x359000_1, .int .u64 x359001_1] 28 (0, 0)) (by (with_reducible repeat (first | refine blk_drewN ?_ _ | refine blk_drew ?_ | refine blk_alloc ?_ _)); refine blk_far ?_ NB358_365.out _; (with_reducible repeat (first | refine blk_drewN ?_ _ | refine blk_drew ?_ | refine blk_alloc ?_ _)); refine blk_far ?_ NB358_365.out _; (with_reducible repeat (first | refine blk_drewN ?_ _ | refine blk_drew ?_ | refine blk_alloc ?_ _)); refine blk_far ?_ NB358_365.out _; (with_reducible repeat (first | refine blk_drewN ?_ _ | refine blk_drew ?_ | refine blk_alloc ?_ _)); refine blk_far ?_ NB358_365.out _; (with_reducible repeat (first | refine blk_drewN ?_ _ | refine blk_drew ?_ | refine blk_alloc ?_ _)); refine blk_far ?_ NB358_365.out _; exact bF BK358.out)) : gb366 ≠ gb358)); have n9_ := Aside0.mk ((by rw [hg]; exact Nat.ne_of_lt (blk_lt (g := gb365) (o := .cells #[.int .i64 ((rd_T149 l1 x38_2).f0), .int .i64 ((rd_T149 l1 x38_2).f1), .int .i64 ((rd_T149 l1 x38_2).f2), .int .u64 ((rd_T149 l1 x38_2).f3.f0), .int .u64 ((rd_T149 l1 x38_2).f3.f1)] 149 (0, 0)) (by (with_reducible repeat (first | refine blk_drewN ?_ _ | refine blk_drew ?_ | refine blk_alloc ?_ _)); refine blk_put (cs := #[.int .i64 ((rd_T149 l1 x38_2).f0), .int .i64 ((rd_T149 l1 x38_2).f1), .int .i64 ((rd_T149 l1 x38_2).f2), .int .u64 ((rd_T149 l1 x38_2).f3.f0), .int .u64 0]) ?_ 4 _ rfl; (with_reducible repeat (first | refine blk_drewN ?_ _ | refine blk_drew ?_ | refine blk_alloc ?_ _)); refine blk_put (cs := #[.int .i64 ((rd_T149 l1 x38_2).f0), .int .i64 ((rd_T149 l1 x38_2).f1), .int .i64 ((rd_T149 l1 x38_2).f2), .int .u64 0, .int .u64 0]) ?_ 3 _ rfl; (with_reducible repeat (first | refine blk_drewN ?_ _ | refine blk_drew ?_ | refine blk_alloc ?_ _)); refine blk_put (cs := #[.int .i64 ((rd_T149 l1 x38_2).f0), .int .i64 ((rd_T149 l1 x38_2).f1), .int .i64 0, .int .u64 0, .int .u64 0]) ?_ 2 _ rfl; (with_reducible repeat (first | refine blk_drewN ?_ _ | refine blk_drew ?_ | refine blk_alloc ?_ _)); refine blk_put (cs := #[.int .i64 ((rd_T149 l1 x38_2).f0), .int .i64 0, .int .i64 0, .int .u64 0, .int .u64 0]) ?_ 1 _ rfl; (with_reducible repeat (first | refine blk_drewN ?_ _ | refine blk_drew ?_ | refine blk_alloc ?_ _)); refine blk_put (cs := #[.int .i64 0, .int .i64 0, .int .i64 0, .int .u64 0, .int .u64 0]) ?_ 0 _ rfl; exact bF BK365.out)) : gb365 ≠ gb366)); have n10_ := Aside0.mk ((by rw [hg]; exact Nat.ne_of_gt (blk_lt (g := gb365) (o := .cells #[.int .i64 ((rd_T149 l1 x38_2).f0), .int .i64 ((rd_T149 l1 x38_2).f1), .int .i64 ((rd_T149 l1 x38_2).f2), .int .u64 ((rd_T149 l1 x38_2).f3.f0), .int .u64 ((rd_T149 l1 x38_2).f3.f1)] 149 (0, 0)) (by (with_reducible repeat (first | refine blk_drewN ?_ _ | refine blk_drew ?_ | refine blk_alloc ?_ _)); refine blk_put (cs := #[.int .i64 ((rd_T149 l1 x38_2).f0), .int .i64 ((rd_T149 l1 x38_2).f1), .int .i64 ((rd_T149 l1 x38_2).f2), .int .u64 ((rd_T149 l1 x38_2).f3.f0), .int .u64 0]) ?_ 4 _ rfl; (with_reducible repeat (first | refine blk_drewN ?_ _ | refine blk_drew ?_ | refine blk_alloc ?_ _)); refine blk_put (cs := #[.int .i64 ((rd_T149 l1 x38_2).f0), .int .i64 ((rd_T149 l1 x38_2).f1), .int .i64 ((rd_T149 l1 x38_2).f2), .int .u64 0, .int .u64 0]) ?_ 3 _ rfl; (with_reducible repeat (first | refine blk_drewN ?_ _ | refine blk_drew ?_ | refine blk_alloc ?_ _)); refine blk_put (cs := #[.int .i64 ((rd_T149 l1 x38_2).f0), .int .i64 ((rd_T149 l1 x38_2).f1), .int .i64 0, .int .u64 0, .int .u64 0]) ?_ 2 _ rfl; (with_reducible repeat (first | refine blk_drewN ?_ _ | refine blk_drew ?_ | refine blk_alloc ?_ _)); refine blk_put (cs := #[.int .i64 ((rd_T149 l1 x38_2).f0), .int .i64 0, .int .i64 0, .int .u64 0, .int .u64 0]) ?_ 1 _ rfl; (with_reducible repeat (first | refine blk_drewN ?_ _ | refine blk_drew ?_ | refine blk_alloc ?_ _)); refine blk_put (cs := #[.int .i64 0, .int .i64 0, .int .i64 0, .int .u64 0, .int .u64 0]) ?_ 0 _ rfl; exact bF BK365.out)) : gb366 ≠ gb365)); clear HO_11; clear BK358; clear BK365; clear HB; have HO_11 := n0_; have BK358 := n1_; have BK365 := n2_; have HB := n3_; have BK366 := n4_; have GW366 := n5_; have GE366 := n6_; have NB358_366 := n7_; have NB366_358 := n8_; have NB365_366 := n9_; have NB366_365 := n10_; clear n0_ n1_ n2_ n3_ n4_ n5_ n6_ n7_ n8_ n9_ n10_; clear hb hbox hg; have hnb31 := NB365_366.out; have hnc31 := NB366_365.out; have hcz32_0 : w30.cell? ⟨gb365, 0, none⟩ = some (.int .i64 ((rd_T149 l1 x38_2).f0)) := (blk_cell BK365.out 0).trans rfl; have hcz32_1 : w30.cell? ⟨gb365, 1, none⟩ = some (.int .i64 ((rd_T149 l1 x38_2).f1)) := (blk_cell BK365.out 1).trans rfl; have hcz32_2 : w30.cell? ⟨gb365, 2, none⟩ = some (.int .i64 ((rd_T149 l1 x38_2).f2)) := (blk_cell BK365.out 2).trans rfl; have hcz32_3 : w30.cell? ⟨gb365, 3, none⟩ = some (.int .u64 ((rd_T149 l1 x38_2).f3.f0)) := (blk_cell BK365.out 3).trans rfl; have hcz32_4 : w30.cell? ⟨gb365, 4, none⟩ = some (.int .u64 ((rd_T149 l1 x38_2).f3.f1)) := (blk_cell BK365.out 4).trans rfl; have hfz32_0 := blk_frozen BK365.out 0; have hfz32_1 := blk_frozen BK365.out 1; have hfz32_2 := blk_frozen BK365.out 2; have hfz32_3 := blk_frozen BK365.out 3; have hfz32_4 := blk_frozen BK365.out 4; have hnb33 := NB366_358.out; have hnc33 := NB358_366.out; have hcz34_0 : w30.cell? ⟨gb366, 0, none⟩ = some (.int .u64 0) := (blk_cell BK366.out 0).trans rfl; have hcz34_1 : w30.cell? ⟨gb366, 1, none⟩ = some (.int .u64 0) := (blk_cell BK366.out 1).trans rfl; have hfz34_0 := blk_frozen BK366.out 0; have hfz34_1 := blk_frozen BK366.out 1) | ((with_reducible refine gate_builtin (b := .append) (xs := #[.tmp 82, .tmp 84]) rfl ?_); at_builtin; refine Kd.R_append k28 (w0 := w) w.heap.size rfl (.tmp 82) (.tmp 84) 53 28 (.agg #[(.int .u64 0), (.int .u64 0)]) 16 rfl Try.underlying53 info28 rfl (by decide) (by omega) u11 x11_2 (⟨(rd_T149 l1 x38_2).f3.f0, (rd_T149 l1 x38_2).f3.f1⟩ : S28) [.int .u64 ((rd_T149 l1 x38_2).f3.f0), .int .u64 ((rd_T149 l1 x38_2).f3.f1)] (fun k_ => k_ ≠ gb358 ∧ k_ ≠ gb366) (fun _ => False) rfl (by first | (go_simp; done) | (go_simp; rfl)) ?aP (fun _ hk => hk.elim) ?aF ?aO ?aB ?aS ?aL ?_; (case aP => exact k28_mkM _ _ _ (⟨(rd_T149 l1 x38_2).f3.f0, (rd_T149 l1 x38_2).f3.f1⟩ : S28)); (case aB => exact (by repeat (first | (with_reducible first | exact HB.out | apply bA | apply bN | apply bD | refine bS ?_ GE358.out | refine bS ?_ GE365.out | refine bS ?_ GE366.out) | exact HB.out))); (case aF => exact (fun k_ hk => ⟨Kd.freshB (g := gb358) (o := .cells #[.int .u64 x359000_1, .int .u64 x359001_1] 28 (0, 0)) (by (with_reducible repeat (first | refine blk_drewN ?_ _ | refine blk_drew ?_ | refine blk_alloc ?_ _)); refine blk_far ?_ NB358_366.out _; (with_reducible repeat (first | refine blk_drewN ?_ _ | refine blk_drew ?_ | refine blk_alloc ?_ _)); refine blk_far ?_ NB358_366.out _; exact bF BK358.out) k_ hk, Kd.freshB (g := gb366) (o := .cells #[.int .u64 ((rd_T149 l1 x38_2).f3.f0), .int .u64 ((rd_T149 l1 x38_2).f3.f1)] 28 (0, 0)) (by (with_reducible repeat (first | refine blk_drewN ?_ _ | refine blk_drew ?_ | refine blk_alloc ?_ _)); refine blk_put (cs := #[.int .u64 ((rd_T149 l1 x38_2).f3.f0), .int .u64 0]) ?_ 1 _ rfl; (with_reducible repeat (first | refine blk_drewN ?_ _ | refine blk_drew ?_ | refine blk_alloc ?_ _)); refine blk_put (cs := #[.int .u64 0, .int .u64 0]) ?_ 0 _ rfl; exact bF BK366.out) k_ hk⟩)); (case aO => exact (by (with_reducible repeat (first | apply Kd.R_alloc | apply Kd.R_drewN | apply Kd.R_drew)); exact Kd.R_mono (Kd.R_far (p := ⟨gb366, 1, none⟩) (Kd.R_far (p := ⟨gb366, 0, none⟩) (Kd.R_mono HO_11.out (fun k_ hk => (⟨hk, hk.2⟩ : _ ∧ k_ ≠ gb366))) (fun _ hk => hk.2) (.int .u64 ((rd_T149 l1 x38_2).f3.f0))) (fun _ hk => hk.2) (.int .u64 ((rd_T149 l1 x38_2).f3.f1))) (fun _ hk => ⟨hk.1.1, hk.1.2⟩))); (case aS => exact (below_size (by repeat (first | (with_reducible first | exact HB.out | apply bA | apply bN | apply bD | refine bS ?_ GE358.out | refine bS ?_ GE365.out | refine bS ?_ GE366.out) | exact HB.out)))); (case aL => have := LMc26.out; omega); intro v368 w35 ho hb hg hat; rw [← Ny367.out] at ho; have n0_ := Aside0.mk (blk_grown (g := gb358) (o := .cells #[.int .u64 x359000_1, .int .u64 x359001_1] 28 (0, 0)) (by (with_reducible repeat (first | refine blk_drewN ?_ _ | refine blk_drew ?_ | refine blk_alloc ?_ _)); refine blk_far ?_ NB358_366.out _; (with_reducible repeat (first | refine blk_drewN ?_ _ | refine blk_drew ?_ | refine blk_alloc ?_ _)); refine blk_far ?_ NB358_366.out _; exact bF BK358.out) hg (Kd.R_away HO_11.out (fun _ hk => hk.1))); have n1_ := Aside0.mk (blk_grown (g := gb365) (o := .cells #[.int .i64 ((rd_T149 l1 x38_2).f0), .int .i64 ((rd_T149 l1 x38_2).f1), .int .i64 ((rd_T149 l1 x38_2).f2), .int .u64 ((rd_T149 l1 x38_2).f3.f0), .int .u64 ((rd_T149 l1 x38_2).f3.f1)] 149 (0, 0)) (by (with_reducible repeat (first | refine blk_drewN ?_ _ | refine blk_drew ?_ | refine blk_alloc ?_ _)); refine blk_far ?_ NB365_366.out _; (with_reducible repeat (first | refine blk_drewN ?_ _ | refine blk_drew ?_ | refine blk_alloc ?_ _)); refine blk_far ?_ NB365_366.out _; exact bF BK365.out) hg (Kd.R_ne HO_11.out BK365.out (by decide))); have n2_ := Aside0.mk (blk_grown (g := gb366) (o := .cells #[.int .u64 ((rd_T149 l1 x38_2).f3.f0), .int .u64 ((rd_T149 l1 x38_2).f3.f1)] 28 (0, 0)) (by (with_reducible repeat (first | refine blk_drewN ?_ _ | refine blk_drew ?_ | refine blk_alloc ?_ _)); refine blk_put (cs := #[.int .u64 ((rd_T149 l1 x38_2).f3.f0), .int .u64 0]) ?_ 1 _ rfl; (with_reducible repeat (first | refine blk_drewN ?_ _ | refine blk_drew ?_ | refine blk_alloc ?_ _)); refine blk_put (cs := #[.int .u64 0, .int .u64 0]) ?_ 0 _ rfl; exact bF BK366.out) hg (Kd.R_away HO_11.out (fun _ hk => hk.2))); have n3_ := Aside0.mk (hb); have n4_ := Aside0.mk (ho); clear BK358; clear BK365; clear BK366; clear HB; clear HO_11; have BK358 := n0_; have BK365 := n1_; have BK366 := n2_; have HB := n3_; have HO369 := n4_; clear n0_ n1_ n2_ n3_ n4_; clear ho hb hg hat))
            go_roundg k2
            case measure => have := HK1.out; have := HK2.out; omega
            case rel => exact ⟨(y367), (wrap64 (x38_2 + 1)), (by first | rfl | (simp; done) | (simp [*]; done)), H', ⟨by have := HK1.out; have := HK2.out; omega⟩, ⟨by (with_reducible repeat (first | apply Kd.R_alloc | apply Kd.R_drewN | apply Kd.R_drew)); exact Kd.R_mono HO369.out (fun _ hk => hk.1)⟩, ⟨by exact bF BK358.out⟩, ⟨by repeat (first | (with_reducible first | exact HB.out | apply bA | apply bN | apply bD | refine bS ?_ GE358.out | refine bS ?_ GE365.out | refine bS ?_ GE366.out) | exact HB.out)⟩⟩
           ·rw [if_neg c26] at H
            exact absurd H (by simp)
          ·rw [if_neg c25] at H
           have c25b0 : (((rd_T149 l1 x38_2).f0) == 1) = false := beq_eq_false_iff_ne.mpr c25
           have c25b1 : (((rd_T149 l1 x38_2).f0) != 1) = true := bne_iff_ne.mpr c25
           by_cases c36 : ((rd_T149 l1 x38_2).f0) = 2
           ·rw [if_pos c36] at H
            have c36b0 : (((rd_T149 l1 x38_2).f0) == 2) = true := beq_iff_eq.mpr c36
            have c36b1 : (((rd_T149 l1 x38_2).f0) != 2) = false := bne_eq_false_iff_eq.mpr c36
            clear c36
            by_cases c37 : 0 ≤ ((rd_T149 l1 x38_2).f1)
            ·rw [if_pos c37] at H
             have c37b0 : decide (0 ≤ ((rd_T149 l1 x38_2).f1)) = true := decide_eq_true c37
             clear c37
             by_cases c38 : ((rd_T149 l1 x38_2).f1) < (l2.length : Int)
             ·rw [if_pos c38] at H
              have c38b0 : decide (((rd_T149 l1 x38_2).f1) < (l2.length : Int)) = true := decide_eq_true c38
              clear c38
              by_cases c39 : x11_2.length < 8796093022208
              ·rw [if_pos c39] at H
               have LMc39 := Aside0.mk c39
               clear c39
               obtain ⟨y371, hy371⟩ : ∃ y_ : List (S28), y_ = (x11_2 ++ [(⟨(rd_T28 l2 ((rd_T149 l1 x38_2).f1)).f0, (rd_T28 l2 ((rd_T149 l1 x38_2).f1)).f1⟩ : S28)]) := ⟨_, rfl⟩
               replace H : (expr_Eval.l1 k2 a0 l2 y371 l1 (l1.length : Int) (wrap64 (x38_2 + 1))) = some (r1, r2, r3) := by first | (rw [hy371]; with_reducible exact H) | (have H2_ := (Option.bind_some _ _).symm.trans H; rw [hy371]; with_reducible exact H2_) | (have H2_ := (Option.bind_some _ _).symm.trans H; with_reducible exact H2_) | with_reducible exact H | (rw [hy371]; exact H) | exact H
               have Ny371 := Aside0.mk hy371
               clear hy371
               have H' := Aside0.mk H
               clear H
               have p364 : 0 ≤ (x38_2 : Int) := of_decide_eq_true (by first | (with_reducible assumption) | assumption)
               have q364 : x38_2 < (l1.length : Int) := of_decide_eq_true (by first | (with_reducible assumption) | assumption)
               obtain ⟨ad364, e364, hx364_0, hx364_1, hx364_2, hx364_3, hx364_4⟩ := at_T149 HR1.out x38_2 p364 q364
               cases e364
               replace hx364_0 := (HB.out.cell (World.block_lt_of_cell? w _ hx364_0)).trans hx364_0
               replace hx364_1 := (HB.out.cell (World.block_lt_of_cell? w _ hx364_1)).trans hx364_1
               replace hx364_2 := (HB.out.cell (World.block_lt_of_cell? w _ hx364_2)).trans hx364_2
               replace hx364_3 := (HB.out.cell (World.block_lt_of_cell? w _ hx364_3)).trans hx364_3
               replace hx364_4 := (HB.out.cell (World.block_lt_of_cell? w _ hx364_4)).trans hx364_4
               replace p364 := eq_true p364
               replace q364 := eq_true q364
               go_wp2_with (first | ((with_reducible refine gate_dst (N := 13) rfl ?_); refine box_event ?hg (N := 13) ?hd (cs := #[.int .i64 0, .int .i64 0, .int .i64 0, .int .u64 0, .int .u64 0]) (t := 149) ?hr ?_; (case hd => rfl); (case hg => rfl); (case hr => first | (go_simp; done) | (go_simp; rfl)); intro gb365 hg w40 hbox hb; have n0_ := Aside0.mk (Kd.R_below (by exact rF HO_11.out) hb); have n1_ := Aside0.mk (blk_below (g := gb358) (o := .cells #[.int .u64 x359000_1, .int .u64 x359001_1] 28 (0, 0)) (by exact bF BK358.out) hb); have n2_ := Aside0.mk (below_step (by repeat (first | (with_reducible first | exact HB.out | apply bA | apply bN | apply bD | refine bS ?_ GE358.out) | exact HB.out)) hb); have n3_ := Aside0.mk (hbox); have n4_ := Aside0.mk ((by rw [hg]; exact (below_size (by repeat (first | (with_reducible first | exact HB.out | apply bA | apply bN | apply bD | refine bS ?_ GE358.out) | exact HB.out))) : w.heap.size ≤ gb365)); have n5_ := Aside0.mk ((by rw [hg]; exact (below_size (by repeat (first | (with_reducible first | exact HB.out | apply bA | apply bN | apply bD | refine bS ?_ GE358.out) | exact HB.out))) : w.heap.size ≤ gb365)); have n6_ := Aside0.mk ((by rw [hg]; exact Nat.ne_of_lt (blk_lt (g := gb358) (o := .cells #[.int .u64 x359000_1, .int .u64 x359001_1] 28 (0, 0)) (by exact bF BK358.out)) : gb358 ≠ gb365)); have n7_ := Aside0.mk ((by rw [hg]; exact Nat.ne_of_gt (blk_lt (g := gb358) (o := .cells #[.int .u64 x359000_1, .int .u64 x359001_1] 28 (0, 0)) (by exact bF BK358.out)) : gb365 ≠ gb358)); clear HO_11; clear BK358; clear HB; have HO_11 := n0_; have BK358 := n1_; have HB := n2_; have BK365 := n3_; have GW365 := n4_; have GE365 := n5_; have NB358_365 := n6_; have NB365_358 := n7_; clear n0_ n1_ n2_ n3_ n4_ n5_ n6_ n7_; clear hb hbox hg; have hnb41 := NB365_358.out; have hnc41 := NB358_365.out; have hcz42_0 : w40.cell? ⟨gb365, 0, none⟩ = some (.int .i64 0) := (blk_cell BK365.out 0).trans rfl; have hcz42_1 : w40.cell? ⟨gb365, 1, none⟩ = some (.int .i64 0) := (blk_cell BK365.out 1).trans rfl; have hcz42_2 : w40.cell? ⟨gb365, 2, none⟩ = some (.int .i64 0) := (blk_cell BK365.out 2).trans rfl; have hcz42_3 : w40.cell? ⟨gb365, 3, none⟩ = some (.int .u64 0) := (blk_cell BK365.out 3).trans rfl; have hcz42_4 : w40.cell? ⟨gb365, 4, none⟩ = some (.int .u64 0) := (blk_cell BK365.out 4).trans rfl; have hfz42_0 := blk_frozen BK365.out 0; have hfz42_1 := blk_frozen BK365.out 1; have hfz42_2 := blk_frozen BK365.out 2; have hfz42_3 := blk_frozen BK365.out 3; have hfz42_4 := blk_frozen BK365.out 4) | ((with_reducible refine gate_dst (N := 14) rfl ?_); refine box_event ?hg (N := 14) ?hd (cs := #[.int .u64 0, .int .u64 0]) (t := 28) ?hr ?_; (case hd => rfl); (case hg => rfl); (case hr => first | (go_simp; done) | (go_simp; rfl)); intro gb366 hg w43 hbox hb; have n0_ := Aside0.mk (Kd.R_below (Kd.R_elderB (by (with_reducible repeat (first | apply Kd.R_alloc | apply Kd.R_drewN | apply Kd.R_drew)); exact (Kd.R_mono (Kd.R_far (p := ⟨gb365, 4, none⟩) (Kd.R_far (p := ⟨gb365, 3, none⟩) (Kd.R_far (p := ⟨gb365, 2, none⟩) (Kd.R_far (p := ⟨gb365, 1, none⟩) (Kd.R_far (p := ⟨gb365, 0, none⟩) (Kd.R_types HO_11.out BK365.out (by decide)) (fun _ hk => hk.2) (.int .i64 ((rd_T149 l1 x38_2).f0))) (fun _ hk => hk.2) (.int .i64 ((rd_T149 l1 x38_2).f1))) (fun _ hk => hk.2) (.int .i64 ((rd_T149 l1 x38_2).f2))) (fun _ hk => hk.2) (.int .u64 ((rd_T149 l1 x38_2).f3.f0))) (fun _ hk => hk.2) (.int .u64 ((rd_T149 l1 x38_2).f3.f1))) (fun _ h_ => h_.1))) gb366 (Nat.le_of_eq hg.symm)) hb); have n1_ := Aside0.mk (blk_below (g := gb358) (o := .cells #[.int .u64 x359000_1, .int .u64 x359001_1] 28 (0, 0)) (by (with_reducible repeat (first | refine blk_drewN ?_ _ | refine blk_drew ?_ | refine blk_alloc ?_ _)); refine blk_far ?_ NB358_365.out _; (with_reducible repeat (first | refine blk_drewN ?_ _ | refine blk_drew ?_ | refine blk_alloc ?_ _)); refine blk_far ?_ NB358_365.out _; (with_reducible repeat (first | refine blk_drewN ?_ _ | refine blk_drew ?_ | refine blk_alloc ?_ _)); refine blk_far ?_ NB358_365.out _; (with_reducible repeat (first | refine blk_drewN ?_ _ | refine blk_drew ?_ | refine blk_alloc ?_ _)); refine blk_far ?_ NB358_365.out _; (with_reducible repeat (first | refine blk_drewN ?_ _ | refine blk_drew ?_ | refine blk_alloc ?_ _)); refine blk_far ?_ NB358_365.out _; exact bF BK358.out) hb); have n2_ := Aside0.mk (blk_below (g := gb365) (o := .cells #[.int .i64 ((rd_T149 l1 x38_2).f0), .int .i64 ((rd_T149 l1 x38_2).f1), .int .i64 ((rd_T149 l1 x38_2).f2), .int .u64 ((rd_T149 l1 x38_2).f3.f0), .int .u64 ((rd_T149 l1 x38_2).f3.f1)] 149 (0, 0)) (by (with_reducible repeat (first | refine blk_drewN ?_ _ | refine blk_drew ?_ | refine blk_alloc ?_ _)); refine blk_put (cs := #[.int .i64 ((rd_T149 l1 x38_2).f0), .int .i64 ((rd_T149 l1 x38_2).f1), .int .i64 ((rd_T149 l1 x38_2).f2), .int .u64 ((rd_T149 l1 x38_2).f3.f0), .int .u64 0]) ?_ 4 _ rfl; (with_reducible repeat (first | refine blk_drewN ?_ _ | refine blk_drew ?_ | refine blk_alloc ?_ _)); refine blk_put (cs := #[.int .i64 ((rd_T149 l1 x38_2).f0), .int .i64 ((rd_T149 l1 x38_2).f1), .int .i64 ((rd_T149 l1 x38_2).f2), .int .u64 0, .int .u64 0]) ?_ 3 _ rfl; (with_reducible repeat (first | refine blk_drewN ?_ _ | refine blk_drew ?_ | refine blk_alloc ?_ _)); refine blk_put (cs := #[.int .i64 ((rd_T149 l1 x38_2).f0), .int .i64 ((rd_T149 l1 x38_2).f1), .int .i64 0, .int .u64 0, .int .u64 0]) ?_ 2 _ rfl; (with_reducible repeat (first | refine blk_drewN ?_ _ | refine blk_drew ?_ | refine blk_alloc ?_ _)); refine blk_put (cs := #[.int .i64 ((rd_T149 l1 x38_2).f0), .int .i64 0, .int .i64 0, .int .u64 0, .int .u64 0]) ?_ 1 _ rfl; (with_reducible repeat (first | refine blk_drewN ?_ _ | refine blk_drew ?_ | refine blk_alloc ?_ _)); refine blk_put (cs := #[.int .i64 0, .int .i64 0, .int .i64 0, .int .u64 0, .int .u64 0]) ?_ 0 _ rfl; exact bF BK365.out) hb); have n3_ := Aside0.mk (below_step (by repeat (first | (with_reducible first | exact HB.out | apply bA | apply bN | apply bD | refine bS ?_ GE358.out | refine bS ?_ GE365.out) | exact HB.out)) hb); have n4_ := Aside0.mk (hbox); have n5_ := Aside0.mk ((by rw [hg]; exact (below_size (by repeat (first | (with_reducible first | exact HB.out | apply bA | apply bN | apply bD | refine bS ?_ GE358.out | refine bS ?_ GE365.out) | exact HB.out))) : w.heap.size ≤ gb366)); have n6_ := Aside0.mk ((by rw [hg]; exact (below_size (by repeat (first | (with_reducible first | exact HB.out | apply bA | apply bN | apply bD | refine bS ?_ GE358.out | refine bS ?_ GE365.out) | exact HB.out))) : w.heap.size ≤ gb366)); have n7_ := Aside0.mk ((by rw [hg]; exact Nat.ne_of_lt (blk_lt (g := gb358) (o := .cells #[.int .u64 x359000_1, .int .u64 x359001_1] 28 (0, 0)) (by (with_reducible repeat (first | refine blk_drewN ?_ _ | refine blk_drew ?_ | refine blk_alloc ?_ _)); refine blk_far ?_ NB358_365.out _; (with_reducible repeat (first | refine blk_drewN ?_ _ | refine blk_drew ?_ | refine blk_alloc ?_ _)); refine blk_far ?_ NB358_365.out _; (with_reducible repeat (first | refine blk_drewN ?_ _ | refine blk_drew ?_ | refine blk_alloc ?_ _)); refine blk_far ?_ NB358_365.out _; (with_reducible repeat (first | refine blk_drewN ?_ _ | refine blk_drew ?_ | refine blk_alloc ?_ _)); refine blk_far ?_ NB358_365.out _; (with_reducible repeat (first | refine blk_drewN ?_ _ | refine blk_drew ?_ | refine blk_alloc ?_ _)); refine blk_far ?_ NB358_365.out _; exact bF BK358.out)) : gb358 ≠ gb366)); have n8_ := Aside0.mk ((by rw [hg]; exact Nat.ne_of_gt (blk_lt (g := gb358) (o := .cells #[.int .u64 x359000_1, .int .u64 x359001_1] 28 (0, 0)) (by (with_reducible repeat (first | refine blk_drewN ?_ _ | refine blk_drew ?_ | refine blk_alloc ?_ _)); refine blk_far ?_ NB358_365.out _; (with_reducible repeat (first | refine blk_drewN ?_ _ | refine blk_drew ?_ | refine blk_alloc ?_ _)); refine blk_far ?_ NB358_365.out _; (with_reducible repeat (first | refine blk_drewN ?_ _ | refine blk_drew ?_ | refine blk_alloc ?_ _)); refine blk_far ?_ NB358_365.out _; (with_reducible repeat (first | refine blk_drewN ?_ _ | refine blk_drew ?_ | refine blk_alloc ?_ _)); refine blk_far ?_ NB358_365.out _; (with_reducible repeat (first | refine blk_drewN ?_ _ | refine blk_drew ?_ | refine blk_alloc ?_ _)); refine blk_far ?_ NB358_365.out _; exact bF BK358.out)) : gb366 ≠ gb358)); have n9_ := Aside0.mk ((by rw [hg]; exact Nat.ne_of_lt (blk_lt (g := gb365) (o := .cells #[.int .i64 ((rd_T149 l1 x38_2).f0), .int .i64 ((rd_T149 l1 x38_2).f1), .int .i64 ((rd_T149 l1 x38_2).f2), .int .u64 ((rd_T149 l1 x38_2).f3.f0), .int .u64 ((rd_T149 l1 x38_2).f3.f1)] 149 (0, 0)) (by (with_reducible repeat (first | refine blk_drewN ?_ _ | refine blk_drew ?_ | refine blk_alloc ?_ _)); refine blk_put (cs := #[.int .i64 ((rd_T149 l1 x38_2).f0), .int .i64 ((rd_T149 l1 x38_2).f1), .int .i64 ((rd_T149 l1 x38_2).f2), .int .u64 ((rd_T149 l1 x38_2).f3.f0), .int .u64 0]) ?_ 4 _ rfl; (with_reducible repeat (first | refine blk_drewN ?_ _ | refine blk_drew ?_ | refine blk_alloc ?_ _)); refine blk_put (cs := #[.int .i64 ((rd_T149 l1 x38_2).f0), .int .i64 ((rd_T149 l1 x38_2).f1), .int .i64 ((rd_T149 l1 x38_2).f2), .int .u64 0, .int .u64 0]) ?_ 3 _ rfl; (with_reducible repeat (first | refine blk_drewN ?_ _ | refine blk_drew ?_ | refine blk_alloc ?_ _)); refine blk_put (cs := #[.int .i64 ((rd_T149 l1 x38_2).f0), .int .i64 ((rd_T149 l1 x38_2).f1), .int .i64 0, .int .u64 0, .int .u64 0]) ?_ 2 _ rfl; (with_reducible repeat (first | refine blk_drewN ?_ _ | refine blk_drew ?_ | refine blk_alloc ?_ _)); refine blk_put (cs := #[.int .i64 ((rd_T149 l1 x38_2).f0), .int .i64 0, .int .i64 0, .int .u64 0, .int .u64 0]) ?_ 1 _ rfl; (with_reducible repeat (first | refine blk_drewN ?_ _ | refine blk_drew ?_ | refine blk_alloc ?_ _)); refine blk_put (cs := #[.int .i64 0, .int .i64 0, .int .i64 0, .int .u64 0, .int .u64 0]) ?_ 0 _ rfl; exact bF BK365.out)) : gb365 ≠ gb366)); have n10_ := Aside0.mk ((by rw [hg]; exact Nat.ne_of_gt (blk_lt (g := gb365) (o := .cells #[.int .i64 ((rd_T149 l1 x38_2).f0), .int .i64 ((rd_T149 l1 x38_2).f1), .int .i64 ((rd_T149 l1 x38_2).f2), .int .u64 ((rd_T149 l1 x38_2).f3.f0), .int .u64 ((rd_T149 l1 x38_2).f3.f1)] 149 (0, 0)) (by (with_reducible repeat (first | refine blk_drewN ?_ _ | refine blk_drew ?_ | refine blk_alloc ?_ _)); refine blk_put (cs := #[.int .i64 ((rd_T149 l1 x38_2).f0), .int .i64 ((rd_T149 l1 x38_2).f1), .int .i64 ((rd_T149 l1 x38_2).f2), .int .u64 ((rd_T149 l1 x38_2).f3.f0), .int .u64 0]) ?_ 4 _ rfl; (with_reducible repeat (first | refine blk_drewN ?_ _ | refine blk_drew ?_ | refine blk_alloc ?_ _)); refine blk_put (cs := #[.int .i64 ((rd_T149 l1 x38_2).f0), .int .i64 ((rd_T149 l1 x38_2).f1), .int .i64 ((rd_T149 l1 x38_2).f2), .int .u64 0, .int .u64 0]) ?_ 3 _ rfl; (with_reducible repeat (first | refine blk_drewN ?_ _ | refine blk_drew ?_ | refine blk_alloc ?_ _)); refine blk_put (cs := #[.int .i64 ((rd_T149 l1 x38_2).f0), .int .i64 ((rd_T149 l1 x38_2).f1), .int .i64 0, .int .u64 0, .int .u64 0]) ?_ 2 _ rfl; (with_reducible repeat (first | refine blk_drewN ?_ _ | refine blk_drew ?_ | refine blk_alloc ?_ _)); refine blk_put (cs := #[.int .i64 ((rd_T149 l1 x38_2).f0), .int .i64 0, .int .i64 0, .int .u64 0, .int .u64 0]) ?_ 1 _ rfl; (with_reducible repeat (first | refine blk_drewN ?_ _ | refine blk_drew ?_ | refine blk_alloc ?_ _)); refine blk_put (cs := #[.int .i64 0, .int .i64 0, .int .i64 0, .int .u64 0, .int .u64 0]) ?_ 0 _ rfl; exact bF BK365.out)) : gb366 ≠ gb365)); clear HO_11; clear BK358; clear BK365; clear HB; have HO_11 := n0_; have BK358 := n1_; have BK365 := n2_; have HB := n3_; have BK366 := n4_; have GW366 := n5_; have GE366 := n6_; have NB358_366 := n7_; have NB366_358 := n8_; have NB365_366 := n9_; have NB366_365 := n10_; clear n0_ n1_ n2_ n3_ n4_ n5_ n6_ n7_ n8_ n9_ n10_; clear hb hbox hg; have hnb44 := NB365_366.out; have hnc44 := NB366_365.out; have hcz45_0 : w43.cell? ⟨gb365, 0, none⟩ = some (.int .i64 ((rd_T149 l1 x38_2).f0)) := (blk_cell BK365.out 0).trans rfl; have hcz45_1 : w43.cell? ⟨gb365, 1, none⟩ = some (.int .i64 ((rd_T149 l1 x38_2).f1)) := (blk_cell BK365.out 1).trans rfl; have hcz45_2 : w43.cell? ⟨gb365, 2, none⟩ = some (.int .i64 ((rd_T149 l1 x38_2).f2)) := (blk_cell BK365.out 2).trans rfl; have hcz45_3 : w43.cell? ⟨gb365, 3, none⟩ = some (.int .u64 ((rd_T149 l1 x38_2).f3.f0)) := (blk_cell BK365.out 3).trans rfl; have hcz45_4 : w43.cell? ⟨gb365, 4, none⟩ = some (.int .u64 ((rd_T149 l1 x38_2).f3.f1)) := (blk_cell BK365.out 4).trans rfl; have hfz45_0 := blk_frozen BK365.out 0; have hfz45_1 := blk_frozen BK365.out 1; have hfz45_2 := blk_frozen BK365.out 2; have hfz45_3 := blk_frozen BK365.out 3; have hfz45_4 := blk_frozen BK365.out 4; have p370 : 0 ≤ (((rd_T149 l1 x38_2).f1) : Int) := of_decide_eq_true (by first | (with_reducible assumption) | assumption); have q370 : ((rd_T149 l1 x38_2).f1) < (l2.length : Int) := of_decide_eq_true (by first | (with_reducible assumption) | assumption); obtain ⟨ad370, e370, hx370_0, hx370_1⟩ := at_T28 HR2.out ((rd_T149 l1 x38_2).f1) p370 q370; cases e370; replace hx370_0 := (HB.out.cell (World.block_lt_of_cell? w _ hx370_0)).trans hx370_0; replace hx370_1 := (HB.out.cell (World.block_lt_of_cell? w _ hx370_1)).trans hx370_1; replace p370 := eq_true p370; replace q370 := eq_true q370; have hnb46 := NB366_358.out; have hnc46 := NB358_366.out; have hcz47_0 : w43.cell? ⟨gb366, 0, none⟩ = some (.int .u64 0) := (blk_cell BK366.out 0).trans rfl; have hcz47_1 : w43.cell? ⟨gb366, 1, none⟩ = some (.int .u64 0) := (blk_cell BK366.out 1).trans rfl; have hfz47_0 := blk_frozen BK366.out 0; have hfz47_1 := blk_frozen BK366.out 1) | ((with_reducible refine gate_builtin (b := .append) (xs := #[.tmp 82, .tmp 84]) rfl ?_); at_builtin; refine Kd.R_append k28 (w0 := w) w.heap.size rfl (.tmp 82) (.tmp 84) 53 28 (.agg #[(.int .u64 0), (.int .u64 0)]) 16 rfl Try.underlying53 info28 rfl (by decide) (by omega) u11 x11_2 (⟨(rd_T28 l2 ((rd_T149 l1 x38_2).f1)).f0, (rd_T28 l2 ((rd_T149 l1 x38_2).f1)).f1⟩ : S28) [.int .u64 ((rd_T28 l2 ((rd_T149 l1 x38_2).f1)).f0), .int .u64 ((rd_T28 l2 ((rd_T149 l1 x38_2).f1)).f1)] (fun k_ => k_ ≠ gb358 ∧ k_ ≠ gb366) (fun _ => False) rfl (by first | (go_simp; done) | (go_simp; rfl)) ?aP (fun _ hk => hk.elim) ?aF ?aO ?aB ?aS ?aL ?_; (case aP => exact k28_mkM _ _ _ (⟨(rd_T28 l2 ((rd_T149 l1 x38_2).f1)).f0, (rd_T28 l2 ((rd_T149 l1 x38_2).f1)).f1⟩ : S28)); (case aB => exact (by repeat (first | (with_reducible first | exact HB.out | apply bA | apply bN | apply bD | refine bS ?_ GE358.out | refine bS ?_ GE365.out | refine bS ?_ GE366.out) | exact HB.out))); (case aF => exact (fun k_ hk => ⟨Kd.freshB (g := gb358) (o := .cells #[.int .u64 x359000_1, .int .u64 x359001_1] 28 (0, 0)) (by (with_reducible repeat (first | refine blk_drewN ?_ _ | refine blk_drew ?_ | refine blk_alloc ?_ _)); refine blk_far ?_ NB358_366.out _; (with_reducible repeat (first | refine blk_drewN ?_ _ | refine blk_drew ?_ | refine blk_alloc ?_ _)); refine blk_far ?_ NB358_366.out _; exact bF BK358.out) k_ hk, Kd.freshB (g := gb366) (o := .cells #[.int .u64 ((rd_T28 l2 ((rd_T149 l1 x38_2).f1)).f0), .int .u64 ((rd_T28 l2 ((rd_T149 l1 x38_2).f1)).f1)] 28 (0, 0)) (by (with_reducible repeat (first | refine blk_drewN ?_ _ | refine blk_drew ?_ | refine blk_alloc ?_ _)); refine blk_put (cs := #[.int .u64 ((rd_T28 l2 ((rd_T149 l1 x38_2).f1)).f0), .int .u64 0]) ?_ 1 _ rfl; (with_reducible repeat (first | refine blk_drewN ?_ _ | refine blk_drew ?_ | refine blk_alloc ?_ _)); refine blk_put (cs := #[.int .u64 0, .int .u64 0]) ?_ 0 _ rfl; exact bF BK366.out) k_ hk⟩)); (case aO => exact (by (with_reducible repeat (first | apply Kd.R_alloc | apply Kd.R_drewN | apply Kd.R_drew)); exact Kd.R_mono (Kd.R_far (p := ⟨gb366, 1, none⟩) (Kd.R_far (p := ⟨gb366, 0, none⟩) (Kd.R_mono HO_11.out (fun k_ hk => (⟨hk, hk.2⟩ : _ ∧ k_ ≠ gb366))) (fun _ hk => hk.2) (.int .u64 ((rd_T28 l2 ((rd_T149 l1 x38_2).f1)).f0))) (fun _ hk => hk.2) (.int .u64 ((rd_T28 l2 ((rd_T149 l1 x38_2).f1)).f1))) (fun _ hk => ⟨hk.1.1, hk.1.2⟩))); (case aS => exact (below_size (by repeat (first | (with_reducible first | exact HB.out | apply bA | apply bN | apply bD | refine bS ?_ GE358.out | refine bS ?_ GE365.out | refine bS ?_ GE366.out) | exact HB.out)))); (case aL => have := LMc39.out; omega); intro v372 w48 ho hb hg hat; rw [← Ny371.out] at ho; have n0_ := Aside0.mk (blk_grown (g := gb358) (o := .cells #[.int .u64 x359000_1, .int .u64 x359001_1] 28 (0, 0)) (by (with_reducible repeat (first | refine blk_drewN ?_ _ | refine blk_drew ?_ | refine blk_alloc ?_ _)); refine blk_far ?_ NB358_366.out _; (with_reducible repeat (first | refine blk_drewN ?_ _ | refine blk_drew ?_ | refine blk_alloc ?_ _)); refine blk_far ?_ NB358_366.out _; exact bF BK358.out) hg (Kd.R_away HO_11.out (fun _ hk => hk.1))); have n1_ := Aside0.mk (blk_grown (g := gb365) (o := .cells #[.int .i64 ((rd_T149 l1 x38_2).f0), .int .i64 ((rd_T149 l1 x38_2).f1), .int .i64 ((rd_T149 l1 x38_2).f2), .int .u64 ((rd_T149 l1 x38_2).f3.f0), .int .u64 ((rd_T149 l1 x38_2).f3.f1)] 149 (0, 0)) (by (with_reducible repeat (first | refine blk_drewN ?_ _ | refine blk_drew ?_ | refine blk_alloc ?_ _)); refine blk_far ?_ NB365_366.out _; (with_reducible repeat (first | refine blk_drewN ?_ _ | refine blk_drew ?_ | refine blk_alloc ?_ _)); refine blk_far ?_ NB365_366.out _; exact bF BK365.out) hg (Kd.R_ne HO_11.out BK365.out (by decide))); have n2_ := Aside0.mk (blk_grown (g := gb366) (o := .cells #[.int .u64 ((rd_T28 l2 ((rd_T149 l1 x38_2).f1)).f0), .int .u64 ((rd_T28 l2 ((rd_T149 l1 x38_2).f1)).f1)] 28 (0, 0)) (by (with_reducible repeat (first | refine blk_drewN ?_ _ | refine blk_drew ?_ | refine blk_alloc ?_ _)); refine blk_put (cs := #[.int .u64 ((rd_T28 l2 ((rd_T149 l1 x38_2).f1)).f0), .int .u64 0]) ?_ 1 _ rfl; (with_reducible repeat (first | refine blk_drewN ?_ _ | refine blk_drew ?_ | refine blk_alloc ?_ _)); refine blk_put (cs := #[.int .u64 0, .int .u64 0]) ?_ 0 _ rfl; exact bF BK366.out) hg (Kd.R_away HO_11.out (fun _ hk => hk.2))); have n3_ := Aside0.mk (hb); have n4_ := Aside0.mk (ho); clear BK358; clear BK365; clear BK366; clear HB; clear HO_11; have BK358 := n0_; have BK365 := n1_; have BK366 := n2_; have HB := n3_; have HO373 := n4_; clear n0_ n1_ n2_ n3_ n4_; clear ho hb hg hat))
               go_roundg k2
               case measure => have := HK1.out; have := HK2.out; omega
               case rel => exact ⟨(y371), (wrap64 (x38_2 + 1)), (by first | rfl | (simp; done) | (simp [*]; done)), H', ⟨by have := HK1.out; have := HK2.out; omega⟩, ⟨by (with_reducible repeat (first | apply Kd.R_alloc | apply Kd.R_drewN | apply Kd.R_drew)); exact Kd.R_mono HO373.out (fun _ hk => hk.1)⟩, ⟨by exact bF BK358.out⟩, ⟨by repeat (first | (with_reducible first | exact HB.out | apply bA | apply bN | apply bD | refine bS ?_ GE358.out | refine bS ?_ GE365.out | refine bS ?_ GE366.out) | exact HB.out)⟩⟩
              ·rw [if_neg c39] at H
               exact absurd H (by simp)
             ·rw [if_neg c38] at H
              exact absurd H (by simp)
            ·rw [if_neg c37] at H
             exact absurd H (by simp)
           ·rw [if_neg c36] at H
            have c36b0 : (((rd_T149 l1 x38_2).f0) == 2) = false := beq_eq_false_iff_ne.mpr c36
            have c36b1 : (((rd_T149 l1 x38_2).f0) != 2) = true := bne_iff_ne.mpr c36
            by_cases c49 : ((rd_T149 l1 x38_2).f0) = 3
            ·rw [if_pos c49] at H
             have c49b0 : (((rd_T149 l1 x38_2).f0) == 3) = true := beq_iff_eq.mpr c49
             have c49b1 : (((rd_T149 l1 x38_2).f0) != 3) = false := bne_eq_false_iff_eq.mpr c49
             clear c49
             by_cases c50 : 0 ≤ ((rd_T149 l1 x38_2).f1)
             ·rw [if_pos c50] at H
              have c50b0 : decide (0 ≤ ((rd_T149 l1 x38_2).f1)) = true := decide_eq_true c50
              clear c50
              by_cases c51 : ((rd_T149 l1 x38_2).f1) < (x11_2.length : Int)
              ·rw [if_pos c51] at H
               have c51b0 : decide (((rd_T149 l1 x38_2).f1) < (x11_2.length : Int)) = true := decide_eq_true c51
               clear c51
               by_cases c52 : 0 ≤ ((rd_T149 l1 x38_2).f2)
               ·rw [if_pos c52] at H
                have c52b0 : decide (0 ≤ ((rd_T149 l1 x38_2).f2)) = true := decide_eq_true c52
                clear c52
                by_cases c53 : ((rd_T149 l1 x38_2).f2) < (x11_2.length : Int)
                ·rw [if_pos c53] at H
                 have c53b0 : decide (((rd_T149 l1 x38_2).f2) < (x11_2.length : Int)) = true := decide_eq_true c53
                 clear c53
                 replace H := Option.bind_eq_some_iff.mp H
                 obtain ⟨⟨t376, t377⟩, A540, H⟩ := H
                 replace H : (if x11_2.length < 8796093022208 then (expr_Eval.l1 k2 a0 l2 (x11_2 ++ [(⟨t376, t377⟩ : S28)]) l1 (l1.length : Int) (wrap64 (x38_2 + 1))) else (none)) = some (r1, r2, r3) := H
                 have A54 := Aside0.mk A540
                 clear A540
                 by_cases c55 : x11_2.length < 8796093022208
                 ·rw [if_pos c55] at H
                  have LMc55 := Aside0.mk c55
                  clear c55
                  obtain ⟨y378, hy378⟩ : ∃ y_ : List (S28), y_ = (x11_2 ++ [(⟨t376, t377⟩ : S28)]) := ⟨_, rfl⟩
                  replace H : (expr_Eval.l1 k2 a0 l2 y378 l1 (l1.length : Int) (wrap64 (x38_2 + 1))) = some (r1, r2, r3) := by first | (rw [hy378]; with_reducible exact H) | (have H2_ := (Option.bind_some _ _).symm.trans H; rw [hy378]; with_reducible exact H2_) | (have H2_ := (Option.bind_some _ _).symm.trans H; with_reducible exact H2_) | with_reducible exact H | (rw [hy378]; exact H) | exact H
                  have Ny378 := Aside0.mk hy378
                  clear hy378
                  have H' := Aside0.mk H
                  clear H
                  have p364 : 0 ≤ (x38_2 : Int) := of_decide_eq_true (by first | (with_reducible assumption) | assumption)
                  have q364 : x38_2 < (l1.length : Int) := of_decide_eq_true (by first | (with_reducible assumption) | assumption)
                  obtain ⟨ad364, e364, hx364_0, hx364_1, hx364_2, hx364_3, hx364_4⟩ := at_T149 HR1.out x38_2 p364 q364
                  cases e364
                  replace hx364_0 := (HB.out.cell (World.block_lt_of_cell? w _ hx364_0)).trans hx364_0
                  replace hx364_1 := (HB.out.cell (World.block_lt_of_cell? w _ hx364_1)).trans hx364_1
                  replace hx364_2 := (HB.out.cell (World.block_lt_of_cell? w _ hx364_2)).trans hx364_2
                  replace hx364_3 := (HB.out.cell (World.block_lt_of_cell? w _ hx364_3)).trans hx364_3
                  replace hx364_4 := (HB.out.cell (World.block_lt_of_cell? w _ hx364_4)).trans hx364_4
                  replace p364 := eq_true p364
                  replace q364 := eq_true q364
                  try go_wp2_with (first | ((with_reducible refine gate_dst (N := 13) rfl ?_); refine box_event ?hg (N := 13) ?hd (cs := #[.int .i64 0, .int .i64 0, .int .i64 0, .int .u64 0, .int .u64 0]) (t := 149) ?hr ?_; (case hd => rfl); (case hg => rfl); (case hr => first | (go_simp; done) | (go_simp; rfl)); intro gb365 hg w56 hbox hb; have n0_ := Aside0.mk (Kd.R_below (by exact rF HO_11.out) hb); have n1_ := Aside0.mk (blk_below (g := gb358) (o := .cells #[.int .u64 x359000_1, .int .u64 x359001_1] 28 (0, 0)) (by exact bF BK358.out) hb); have n2_ := Aside0.mk (below_step (by repeat (first | (with_reducible first | exact HB.out | apply bA | apply bN | apply bD | refine bS ?_ GE358.out) | exact HB.out)) hb); have n3_ := Aside0.mk (hbox); have n4_ := Aside0.mk ((by rw [hg]; exact (below_size (by repeat (first | (with_reducible first | exact HB.out | apply bA | apply bN | apply bD | refine bS ?_ GE358.out) | exact HB.out))) : w.heap.size ≤ gb365)); have n5_ := Aside0.mk ((by rw [hg]; exact (below_size (by repeat (first | (with_reducible first | exact HB.out | apply bA | apply bN | apply bD | refine bS ?_ GE358.out) | exact HB.out))) : w.heap.size ≤ gb365)); have n6_ := Aside0.mk ((by rw [hg]; exact Nat.ne_of_lt (blk_lt (g := gb358) (o := .cells #[.int .u64 x359000_1, .int .u64 x359001_1] 28 (0, 0)) (by exact bF BK358.out)) : gb358 ≠ gb365)); have n7_ := Aside0.mk ((by rw [hg]; exact Nat.ne_of_gt (blk_lt (g := gb358) (o := .cells #[.int .u64 x359000_1, .int .u64 x359001_1] 28 (0, 0)) (by exact bF BK358.out)) : gb365 ≠ gb358)); clear HO_11; clear BK358; clear HB; have HO_11 := n0_; have BK358 := n1_; have HB := n2_; have BK365 := n3_; have GW365 := n4_; have GE365 := n5_; have NB358_365 := n6_; have NB365_358 := n7_; clear n0_ n1_ n2_ n3_ n4_ n5_ n6_ n7_; clear hb hbox hg; have hnb57 := NB365_358.out; have hnc57 := NB358_365.out; have hcz58_0 : w56.cell? ⟨gb365, 0, none⟩ = some (.int .i64 0) := (blk_cell BK365.out 0).trans rfl; have hcz58_1 : w56.cell? ⟨gb365, 1, none⟩ = some (.int .i64 0) := (blk_cell BK365.out 1).trans rfl; have hcz58_2 : w56.cell? ⟨gb365, 2, none⟩ = some (.int .i64 0) := (blk_cell BK365.out 2).trans rfl; have hcz58_3 : w56.cell? ⟨gb365, 3, none⟩ = some (.int .u64 0) := (blk_cell BK365.out 3).trans rfl; have hcz58_4 : w56.cell? ⟨gb365, 4, none⟩ = some (.int .u64 0) := (blk_cell BK365.out 4).trans rfl; have hfz58_0 := blk_frozen BK365.out 0; have hfz58_1 := blk_frozen BK365.out 1; have hfz58_2 := blk_frozen BK365.out 2; have hfz58_3 := blk_frozen BK365.out 3; have hfz58_4 := blk_frozen BK365.out 4) | ((with_reducible refine gate_dst (N := 14) rfl ?_); refine box_event ?hg (N := 14) ?hd (cs := #[.int .u64 0, .int .u64 0]) (t := 28) ?hr ?_; (case hd => rfl); (case hg => rfl); (case hr => first | (go_simp; done) | (go_simp; rfl)); intro gb366 hg w59 hbox hb; have n0_ := Aside0.mk (Kd.R_below (Kd.R_elderB (by (with_reducible repeat (first | apply Kd.R_alloc | apply Kd.R_drewN | apply Kd.R_drew)); exact (Kd.R_mono (Kd.R_far (p := ⟨gb365, 4, none⟩) (Kd.R_far (p := ⟨gb365, 3, none⟩) (Kd.R_far (p := ⟨gb365, 2, none⟩) (Kd.R_far (p := ⟨gb365, 1, none⟩) (Kd.R_far (p := ⟨gb365, 0, none⟩) (Kd.R_types HO_11.out BK365.out (by decide)) (fun _ hk => hk.2) (.int .i64 ((rd_T149 l1 x38_2).f0))) (fun _ hk => hk.2) (.int .i64 ((rd_T149 l1 x38_2).f1))) (fun _ hk => hk.2) (.int .i64 ((rd_T149 l1 x38_2).f2))) (fun _ hk => hk.2) (.int .u64 ((rd_T149 l1 x38_2).f3.f0))) (fun _ hk => hk.2) (.int .u64 ((rd_T149 l1 x38_2).f3.f1))) (fun _ h_ => h_.1))) gb366 (Nat.le_of_eq hg.symm)) hb); have n1_ := Aside0.mk (blk_below (g := gb358) (o := .cells #[.int .u64 x359000_1, .int .u64 x359001_1] 28 (0, 0)) (by (with_reducible repeat (first | refine blk_drewN ?_ _ | refine blk_drew ?_ | refine blk_alloc ?_ _)); refine blk_far ?_ NB358_365.out _; (with_reducible repeat (first | refine blk_drewN ?_ _ | refine blk_drew ?_ | refine blk_alloc ?_ _)); refine blk_far ?_ NB358_365.out _; (with_reducible repeat (first | refine blk_drewN ?_ _ | refine blk_drew ?_ | refine blk_alloc ?_ _)); refine blk_far ?_ NB358_365.out _; (with_reducible repeat (first | refine blk_drewN ?_ _ | refine blk_drew ?_ | refine blk_alloc ?_ _)); refine blk_far ?_ NB358_365.out _; (with_reducible repeat (first | refine blk_drewN ?_ _ | refine blk_drew ?_ | refine blk_alloc ?_ _)); refine blk_far ?_ NB358_365.out _; exact bF BK358.out) hb); have n2_ := Aside0.mk (blk_below (g := gb365) (o := .cells #[.int .i64 ((rd_T149 l1 x38_2).f0), .int .i64 ((rd_T149 l1 x38_2).f1), .int .i64 ((rd_T149 l1 x38_2).f2), .int .u64 ((rd_T149 l1 x38_2).f3.f0), .int .u64 ((rd_T149 l1 x38_2).f3.f1)] 149 (0, 0)) (by (with_reducible repeat (first | refine blk_drewN ?_ _ | refine blk_drew ?_ | refine blk_alloc ?_ _)); refine blk_put (cs := #[.int .i64 ((rd_T149 l1 x38_2).f0), .int .i64 ((rd_T149 l1 x38_2).f1), .int .i64 ((rd_T149 l1 x38_2).f2), .int .u64 ((rd_T149 l1 x38_2).f3.f0), .int .u64 0]) ?_ 4 _ rfl; (with_reducible repeat (first | refine blk_drewN ?_ _ | refine blk_drew ?_ | refine blk_alloc ?_ _)); refine blk_put (cs := #[.int .i64 ((rd_T149 l1 x38_2).f0), .int .i64 ((rd_T149 l1 x38_2).f1), .int .i64 ((rd_T149 l1 x38_2).f2), .int .u64 0, .int .u64 0]) ?_ 3 _ rfl; (with_reducible repeat (first | refine blk_drewN ?_ _ | refine blk_drew ?_ | refine blk_alloc ?_ _)); refine blk_put (cs := #[.int .i64 ((rd_T149 l1 x38_2).f0), .int .i64 ((rd_T149 l1 x38_2).f1), .int .i64 0, .int .u64 0, .int .u64 0]) ?_ 2 _ rfl; (with_reducible repeat (first | refine blk_drewN ?_ _ | refine blk_drew ?_ | refine blk_alloc ?_ _)); refine blk_put (cs := #[.int .i64 ((rd_T149 l1 x38_2).f0), .int .i64 0, .int .i64 0, .int .u64 0, .int .u64 0]) ?_ 1 _ rfl; (with_reducible repeat (first | refine blk_drewN ?_ _ | refine blk_drew ?_ | refine blk_alloc ?_ _)); refine blk_put (cs := #[.int .i64 0, .int .i64 0, .int .i64 0, .int .u64 0, .int .u64 0]) ?_ 0 _ rfl; exact bF BK365.out) hb); have n3_ := Aside0.mk (below_step (by repeat (first | (with_reducible first | exact HB.out | apply bA | apply bN | apply bD | refine bS ?_ GE358.out | refine bS ?_ GE365.out) | exact HB.out)) hb); have n4_ := Aside0.mk (hbox); have n5_ := Aside0.mk ((by rw [hg]; exact (below_size (by repeat (first | (with_reducible first | exact HB.out | apply bA | apply bN | apply bD | refine bS ?_ GE358.out | refine bS ?_ GE365.out) | exact HB.out))) : w.heap.size ≤ gb366)); have n6_ := Aside0.mk ((by rw [hg]; exact (below_size (by repeat (first | (with_reducible first | exact HB.out | apply bA | apply bN | apply bD | refine bS ?_ GE358.out | refine bS ?_ GE365.out) | exact HB.out))) : w.heap.size ≤ gb366)); have n7_ := Aside0.mk ((by rw [hg]; exact Nat.ne_of_lt (blk_lt (g := gb358) (o := .cells #[.int .u64 x359000_1, .int .u64 x359001_1] 28 (0, 0)) (by (with_reducible repeat (first | refine blk_drewN ?_ _ | refine blk_drew ?_ | refine blk_alloc ?_ _)); refine blk_far ?_ NB358_365.out _; (with_reducible repeat (first | refine blk_drewN ?_ _ | refine blk_drew ?_ | refine blk_alloc ?_ _)); refine blk_far ?_ NB358_365.out _; (with_reducible repeat (first | refine blk_drewN ?_ _ | refine blk_drew ?_ | refine blk_alloc ?_ _)); refine blk_far ?_ NB358_365.out _; (with_reducible repeat (first | refine blk_drewN ?_ _ | refine blk_drew ?_ | refine blk_alloc ?_ _)); refine blk_far ?_ NB358_365.out _; (with_reducible repeat (first | refine blk_drewN ?_ _ | refine blk_drew ?_ | refine blk_alloc ?_ _)); refine blk_far ?_ NB358_365.out _; exact bF BK358.out)) : gb358 ≠ gb366)); have n8_ := Aside0.mk ((by rw [hg]; exact Nat.ne_of_gt (blk_lt (g := gb358) (o := .cells #[.int .u64 x359000_1, .int .u64 x359001_1] 28 (0, 0)) (by (with_reducible repeat (first | refine blk_drewN ?_ _ | refine blk_drew ?_ | refine blk_alloc ?_ _)); refine blk_far ?_ NB358_365.out _; (with_reducible repeat (first | refine blk_drewN ?_ _ | refine blk_drew ?_ | refine blk_alloc ?_ _)); refine blk_far ?_ NB358_365.out _; (with_reducible repeat (first | refine blk_drewN ?_ _ | refine blk_drew ?_ | refine blk_alloc ?_ _)); refine blk_far ?_ NB358_365.out _; (with_reducible repeat (first | refine blk_drewN ?_ _ | refine blk_drew ?_ | refine blk_alloc ?_ _)); refine blk_far ?_ NB358_365.out _; (with_reducible repeat (first | refine blk_drewN ?_ _ | refine blk_drew ?_ | refine blk_alloc ?_ _)); refine blk_far ?_ NB358_365.out _; exact bF BK358.out)) : gb366 ≠ gb358)); have n9_ := Aside0.mk ((by rw [hg]; exact Nat.ne_of_lt (blk_lt (g := gb365) (o := .cells #[.int .i64 ((rd_T149 l1 x38_2).f0), .int .i64 ((rd_T149 l1 x38_2).f1), .int .i64 ((rd_T149 l1 x38_2).f2), .int .u64 ((rd_T149 l1 x38_2).f3.f0), .int .u64 ((rd_T149 l1 x38_2).f3.f1)] 149 (0, 0)) (by (with_reducible repeat (first | refine blk_drewN ?_ _ | refine blk_drew ?_ | refine blk_alloc ?_ _)); refine blk_put (cs := #[.int .i64 ((rd_T149 l1 x38_2).f0), .int .i64 ((rd_T149 l1 x38_2).f1), .int .i64 ((rd_T149 l1 x38_2).f2), .int .u64 ((rd_T149 l1 x38_2).f3.f0), .int .u64 0]) ?_ 4 _ rfl; (with_reducible repeat (first | refine blk_drewN ?_ _ | refine blk_drew ?_ | refine blk_alloc ?_ _)); refine blk_put (cs := #[.int .i64 ((rd_T149 l1 x38_2).f0), .int .i64 ((rd_T149 l1 x38_2).f1), .int .i64 ((rd_T149 l1 x38_2).f2), .int .u64 0, .int .u64 0]) ?_ 3 _ rfl; (with_reducible repeat (first | refine blk_drewN ?_ _ | refine blk_drew ?_ | refine blk_alloc ?_ _)); refine blk_put (cs := #[.int .i64 ((rd_T149 l1 x38_2).f0), .int .i64 ((rd_T149 l1 x38_2).f1), .int .i64 0, .int .u64 0, .int .u64 0]) ?_ 2 _ rfl; (with_reducible repeat (first | refine blk_drewN ?_ _ | refine blk_drew ?_ | refine blk_alloc ?_ _)); refine blk_put (cs := #[.int .i64 ((rd_T149 l1 x38_2).f0), .int .i64 0, .int .i64 0, .int .u64 0, .int .u64 0]) ?_ 1 _ rfl; (with_reducible repeat (first | refine blk_drewN ?_ _ | refine blk_drew ?_ | refine blk_alloc ?_ _)); refine blk_put (cs := #[.int .i64 0, .int .i64 0, .int .i64 0, .int .u64 0, .int .u64 0]) ?_ 0 _ rfl; exact bF BK365.out)) : gb365 ≠ gb366)); have n10_ := Aside0.mk ((by rw [hg]; exact Nat.ne_of_gt (blk_lt (g := gb365) (o := .cells #[.int .i64 ((rd_T149 l1 x38_2).f0), .int .i64 ((rd_T149 l1 x38_2).f1), .int .i64 ((rd_T149 l1 x38_2).f2), .int .u64 ((rd_T149 l1 x38_2).f3.f0), .int .u64 ((rd_T149 l1 x38_2).f3.f1)] 149 (0, 0)) (by (with_reducible repeat (first | refine blk_drewN ?_ _ | refine blk_drew ?_ | refine blk_alloc ?_ _)); refine blk_put (cs := #[.int .i64 ((rd_T149 l1 x38_2).f0), .int .i64 ((rd_T149 l1 x38_2).f1), .int .i64 ((rd_T149 l1 x38_2).f2), .int .u64 ((rd_T149 l1 x38_2).f3.f0), .int .u64 0]) ?_ 4 _ rfl; (with_reducible repeat (first | refine blk_drewN ?_ _ | refine blk_drew ?_ | refine blk_alloc ?_ _)); refine blk_put (cs := #[.int .i64 ((rd_T149 l1 x38_2).f0), .int .i64 ((rd_T149 l1 x38_2).f1), .int .i64 ((rd_T149 l1 x38_2).f2), .int .u64 0, .int .u64 0]) ?_ 3 _ rfl; (with_reducible repeat (first | refine blk_drewN ?_ _ | refine blk_drew ?_ | refine blk_alloc ?_ _)); refine blk_put (cs := #[.int .i64 ((rd_T149 l1 x38_2).f0), .int .i64 ((rd_T149 l1 x38_2).f1), .int .i64 0, .int .u64 0, .int .u64 0]) ?_ 2 _ rfl; (with_reducible repeat (first | refine blk_drewN ?_ _ | refine blk_drew ?_ | refine blk_alloc ?_ _)); refine blk_put (cs := #[.int .i64 ((rd_T149 l1 x38_2).f0), .int .i64 0, .int .i64 0, .int .u64 0, .int .u64 0]) ?_ 1 _ rfl; (with_reducible repeat (first | refine blk_drewN ?_ _ | refine blk_drew ?_ | refine blk_alloc ?_ _)); refine blk_put (cs := #[.int .i64 0, .int .i64 0, .int .i64 0, .int .u64 0, .int .u64 0]) ?_ 0 _ rfl; exact bF BK365.out)) : gb366 ≠ gb365)); clear HO_11; clear BK358; clear BK365; clear HB; have HO_11 := n0_; have BK358 := n1_; have BK365 := n2_; have HB := n3_; have BK366 := n4_; have GW366 := n5_; have GE366 := n6_; have NB358_366 := n7_; have NB366_358 := n8_; have NB365_366 := n9_; have NB366_365 := n10_; clear n0_ n1_ n2_ n3_ n4_ n5_ n6_ n7_ n8_ n9_ n10_; clear hb hbox hg; have hnb60 := NB365_366.out; have hnc60 := NB366_365.out; have hcz61_0 : w59.cell? ⟨gb365, 0, none⟩ = some (.int .i64 ((rd_T149 l1 x38_2).f0)) := (blk_cell BK365.out 0).trans rfl; have hcz61_1 : w59.cell? ⟨gb365, 1, none⟩ = some (.int .i64 ((rd_T149 l1 x38_2).f1)) := (blk_cell BK365.out 1).trans rfl; have hcz61_2 : w59.cell? ⟨gb365, 2, none⟩ = some (.int .i64 ((rd_T149 l1 x38_2).f2)) := (blk_cell BK365.out 2).trans rfl; have hcz61_3 : w59.cell? ⟨gb365, 3, none⟩ = some (.int .u64 ((rd_T149 l1 x38_2).f3.f0)) := (blk_cell BK365.out 3).trans rfl; have hcz61_4 : w59.cell? ⟨gb365, 4, none⟩ = some (.int .u64 ((rd_T149 l1 x38_2).f3.f1)) := (blk_cell BK365.out 4).trans rfl; have hfz61_0 := blk_frozen BK365.out 0; have hfz61_1 := blk_frozen BK365.out 1; have hfz61_2 := blk_frozen BK365.out 2; have hfz61_3 := blk_frozen BK365.out 3; have hfz61_4 := blk_frozen BK365.out 4))
                  have n0_ := Aside0.mk (Kd.R_drew HO_11.out)
                  have n1_ := Aside0.mk (blk_drew BK358.out)
                  have n2_ := Aside0.mk (blk_drew BK365.out)
                  have n3_ := Aside0.mk (blk_drew BK366.out)
                  have n4_ := Aside0.mk (below_drew1 HB.out)
                  clear HO_11
                  clear BK358
                  clear BK365
                  clear BK366
                  clear HB
                  have HO_11 := n0_
                  have BK358 := n1_
                  have BK365 := n2_
                  have BK366 := n3_
                  have HB := n4_
                  clear n0_ n1_ n2_ n3_ n4_
                  obtain ⟨Ao63, co63, eo63⟩ := Kd.R_slice HO_11.out
                  (first | subst eo63 | (injection eo63 with f1_ f2_ f3_; have f4_ := f1_.symm; have f5_ := f3_.symm; clear f1_ f2_ f3_; subst f4_; subst f5_))
                  have p374 : 0 ≤ (((rd_T149 l1 x38_2).f1) : Int) := of_decide_eq_true (by first | (with_reducible assumption) | assumption)
                  have q374 : ((rd_T149 l1 x38_2).f1) < (x11_2.length : Int) := of_decide_eq_true (by first | (with_reducible assumption) | assumption)
                  obtain ⟨ad374, e374, hx374_0, hx374_1⟩ := at_T28 (Kd.R_reads' HO_11.out).2.2 ((rd_T149 l1 x38_2).f1) p374 q374
                  cases e374
                  replace p374 := eq_true p374
                  replace q374 := eq_true q374
                  have p375 : 0 ≤ (((rd_T149 l1 x38_2).f2) : Int) := of_decide_eq_true (by first | (with_reducible assumption) | assumption)
                  have q375 : ((rd_T149 l1 x38_2).f2) < (x11_2.length : Int) := of_decide_eq_true (by first | (with_reducible assumption) | assumption)
                  obtain ⟨ad375, e375, hx375_0, hx375_1⟩ := at_T28 (Kd.R_reads' HO_11.out).2.2 ((rd_T149 l1 x38_2).f2) p375 q375
                  obtain rfl : ad374 = ad375 := (by injection e375)
                  replace p375 := eq_true p375
                  replace q375 := eq_true q375
                  refine start_ (n := 12) (S := fun w' => w'.cell? ⟨gb365, 0, none⟩ = some (.int .i64 ((rd_T149 l1 x38_2).f0)) ∧ w'.cell? ⟨gb365, 1, none⟩ = some (.int .i64 ((rd_T149 l1 x38_2).f1)) ∧ w'.cell? ⟨gb365, 2, none⟩ = some (.int .i64 ((rd_T149 l1 x38_2).f2)) ∧ w'.cell? ⟨gb365, 3, none⟩ = some (.int .u64 ((rd_T149 l1 x38_2).f3.f0)) ∧ w'.cell? ⟨gb365, 4, none⟩ = some (.int .u64 ((rd_T149 l1 x38_2).f3.f1)) ∧ w'.cell? (ad374.add ((((rd_T149 l1 x38_2).f1)).toNat * 2)) = some (.int .u64 ((rd_T28 x11_2 ((rd_T149 l1 x38_2).f1)).f0)) ∧ w'.cell? ⟨(ad374.add ((((rd_T149 l1 x38_2).f1)).toNat * 2)).block, (ad374.add ((((rd_T149 l1 x38_2).f1)).toNat * 2)).off + 1, none⟩ = some (.int .u64 ((rd_T28 x11_2 ((rd_T149 l1 x38_2).f1)).f1)) ∧ w'.cell? (ad374.add ((((rd_T149 l1 x38_2).f2)).toNat * 2)) = some (.int .u64 ((rd_T28 x11_2 ((rd_T149 l1 x38_2).f2)).f0)) ∧ w'.cell? ⟨(ad374.add ((((rd_T149 l1 x38_2).f2)).toNat * 2)).block, (ad374.add ((((rd_T149 l1 x38_2).f2)).toNat * 2)).off + 1, none⟩ = some (.int .u64 ((rd_T28 x11_2 ((rd_T149 l1 x38_2).f2)).f1))) (ds := []) #[false, false, false, false, false, false, false, false, false, false, false, false] (by kernel_rfl) rfl rfl ⟨(blk_cell BK365.out 0).trans rfl, (blk_cell BK365.out 1).trans rfl, (blk_cell BK365.out 2).trans rfl, (blk_cell BK365.out 3).trans rfl, (blk_cell BK365.out 4).trans rfl, hx374_0, hx374_1, hx375_0, hx375_1⟩ (fun hHeld => ?_); refine with_tabW expr_Eval.tab21 expr_Eval.bits21 (fun HT_ HW_ => ?_)
                  generalize w59.drew = w62 at HO_11 BK358 BK365 BK366 HB hx374_0 hx374_1 hx375_0 hx375_1 hHeld ⊢
                  refine pure_ (i := 0) (N := some 57) (v := ?_) (a' := ?_) #[true, false, false, false, false, false, false, false, false, false, false, false] rfl rfl (any_of HT_.out (by kernel_rfl)) (fun _ _ _ h => h) (Or.inl ⟨by rfl, ?_⟩) ?_ ?_
                  rotate_left
                  ·intro w'
                   go_simp
                   with_reducible rfl
                  rotate_left
                  ·simp only [Act.put, List.setIfInBounds_toArray, List.set_cons_zero, List.set_cons_succ, i64_w, i32_w]
                   rfl
                  refine pure_ (i := 1) (N := some 58) (v := ?_) (a' := ?_) #[true, true, false, false, false, false, false, false, false, false, false, false] rfl rfl (any_of HT_.out (by kernel_rfl)) (fun _ _ _ h => h) (Or.inl ⟨by rfl, ?_⟩) ?_ ?_
                  rotate_left
                  ·intro w'
                   go_simp
                   with_reducible rfl
                  rotate_left
                  ·simp only [Act.put, List.setIfInBounds_toArray, List.set_cons_zero, List.set_cons_succ, i64_w, i32_w]
                   rfl
                  refine pure_ (i := 5) (N := some 62) (v := ?_) (a' := ?_) #[true, true, false, false, false, true, false, false, false, false, false, false] rfl rfl (any_of HT_.out (by kernel_rfl)) (fun _ _ _ h => h) (Or.inl ⟨by rfl, ?_⟩) ?_ ?_
                  rotate_left
                  ·intro w'
                   go_simp
                   with_reducible rfl
                  rotate_left
                  ·simp only [Act.put, List.setIfInBounds_toArray, List.set_cons_zero, List.set_cons_succ, i64_w, i32_w]
                   rfl
                  refine pure_ (i := 6) (N := some 63) (v := ?_) (a' := ?_) #[true, true, false, false, false, true, true, false, false, false, false, false] rfl rfl (any_of HT_.out (by kernel_rfl)) (fun _ _ _ h => h) (Or.inl ⟨by rfl, ?_⟩) ?_ ?_
                  rotate_left
                  ·intro w'
                   go_simp
                   with_reducible rfl
                  rotate_left
                  ·simp only [Act.put, List.setIfInBounds_toArray, List.set_cons_zero, List.set_cons_succ, i64_w, i32_w]
                   rfl
                  refine take_ (i := 2) (N := some 59) (v := ?_) (a' := ?_) #[true, true, true, false, false, true, true, false, false, false, false, false] rfl rfl (take_ofW HT_.out HW_.out (by kernel_rfl)) (fun _ _ _ h => h) (Or.inl ⟨by rfl, ?_⟩) hHeld ?_ ?_
                  rotate_left
                  ·rintro w' ⟨s0, s1, s2, s3, s4, s5, s6, s7, s8⟩
                   go_simp
                   with_reducible rfl
                  rotate_left
                  ·simp only [Act.put, List.setIfInBounds_toArray, List.set_cons_zero, List.set_cons_succ, i64_w, i32_w]
                   rfl
                  refine pure_ (i := 3) (N := some 60) (v := ?_) (a' := ?_) #[true, true, true, true, false, true, true, false, false, false, false, false] rfl rfl (any_of HT_.out (by kernel_rfl)) (fun _ _ _ h => h) (Or.inl ⟨by rfl, ?_⟩) ?_ ?_
                  rotate_left
                  ·intro w'
                   go_simp
                   with_reducible rfl
                  rotate_left
                  ·simp only [Act.put, List.setIfInBounds_toArray, List.set_cons_zero, List.set_cons_succ, i64_w, i32_w]
                   rfl
                  refine take_ (i := 4) (N := some 61) (v := ?_) (a' := ?_) #[true, true, true, true, true, true, true, false, false, false, false, false] rfl rfl (take_ofW HT_.out HW_.out (by kernel_rfl)) (fun _ _ _ h => h) (Or.inl ⟨by rfl, ?_⟩) hHeld ?_ ?_
                  rotate_left
                  ·rintro w' ⟨s0, s1, s2, s3, s4, s5, s6, s7, s8⟩
                   go_simp
                   with_reducible rfl
                  rotate_left
                  ·simp only [Act.put, List.setIfInBounds_toArray, List.set_cons_zero, List.set_cons_succ, i64_w, i32_w]
                   rfl
                  refine take_ (i := 7) (N := some 64) (v := ?_) (a' := ?_) #[true, true, true, true, true, true, true, true, false, false, false, false] rfl rfl (take_ofW HT_.out HW_.out (by kernel_rfl)) (fun _ _ _ h => h) (Or.inl ⟨by rfl, ?_⟩) hHeld ?_ ?_
                  rotate_left
                  ·rintro w' ⟨s0, s1, s2, s3, s4, s5, s6, s7, s8⟩
                   go_simp
                   with_reducible rfl
                  rotate_left
                  ·simp only [Act.put, List.setIfInBounds_toArray, List.set_cons_zero, List.set_cons_succ, i64_w, i32_w]
                   rfl
                  refine pure_ (i := 8) (N := some 65) (v := ?_) (a' := ?_) #[true, true, true, true, true, true, true, true, true, false, false, false] rfl rfl (any_of HT_.out (by kernel_rfl)) (fun _ _ _ h => h) (Or.inl ⟨by rfl, ?_⟩) ?_ ?_
                  rotate_left
                  ·intro w'
                   go_simp
                   with_reducible rfl
                  rotate_left
                  ·simp only [Act.put, List.setIfInBounds_toArray, List.set_cons_zero, List.set_cons_succ, i64_w, i32_w]
                   rfl
                  refine take_ (i := 9) (N := some 66) (v := ?_) (a' := ?_) #[true, true, true, true, true, true, true, true, true, true, false, false] rfl rfl (take_ofW HT_.out HW_.out (by kernel_rfl)) (fun _ _ _ h => h) (Or.inl ⟨by rfl, ?_⟩) hHeld ?_ ?_
                  rotate_left
                  ·rintro w' ⟨s0, s1, s2, s3, s4, s5, s6, s7, s8⟩
                   go_simp
                   with_reducible rfl
                  rotate_left
                  ·simp only [Act.put, List.setIfInBounds_toArray, List.set_cons_zero, List.set_cons_succ, i64_w, i32_w]
                   rfl
                  refine one_ (i := 10) (N := some 67) #[true, true, true, true, true, true, true, true, true, true, true, false] rfl rfl (one_of HT_.out (by kernel_rfl)) (by decide) (fun K hK => ?_)
                  refine goes_ Try.func60 (by kernel_rfl) rfl #[.agg #[.int .u64 ((rd_T28 x11_2 ((rd_T149 l1 x38_2).f1)).f0), .int .u64 ((rd_T28 x11_2 ((rd_T149 l1 x38_2).f1)).f1)], .agg #[.int .u64 ((rd_T28 x11_2 ((rd_T149 l1 x38_2).f2)).f0), .int .u64 ((rd_T28 x11_2 ((rd_T149 l1 x38_2).f2)).f1)]] (by rfl) rfl rfl (by (try simp only [List.map_toArray, List.map_cons, List.map_nil]); first | done | rfl | (simp only [List.length_drop, List.length_take]; rfl)) ?_
                  with_reducible refine (tower_Add.calls ((rd_T28 x11_2 ((rd_T149 l1 x38_2).f1)).f0) ((rd_T28 x11_2 ((rd_T149 l1 x38_2).f1)).f1) ((rd_T28 x11_2 ((rd_T149 l1 x38_2).f2)).f0) ((rd_T28 x11_2 ((rd_T149 l1 x38_2).f2)).f1) t376 t377 _ A54.out).mono ?_
                  rintro e w64 ⟨rfl, hb⟩
                  have HS5_ := (hb.cell (World.block_lt_of_cell? _ _ (hHeld.2.2.2.2.2.1))).trans (hHeld.2.2.2.2.2.1)
                  have HS6_ := (hb.cell (World.block_lt_of_cell? _ _ (hHeld.2.2.2.2.2.2.1))).trans (hHeld.2.2.2.2.2.2.1)
                  have HS7_ := (hb.cell (World.block_lt_of_cell? _ _ (hHeld.2.2.2.2.2.2.2.1))).trans (hHeld.2.2.2.2.2.2.2.1)
                  have HS8_ := (hb.cell (World.block_lt_of_cell? _ _ (hHeld.2.2.2.2.2.2.2.2))).trans (hHeld.2.2.2.2.2.2.2.2)
                  refine ⟨_, rfl, ?_⟩
                  have n0_ := Aside0.mk (Kd.R_below (by exact rF HO_11.out) hb)
                  have n1_ := Aside0.mk (blk_below (g := gb358) (o := .cells #[.int .u64 x359000_1, .int .u64 x359001_1] 28 (0, 0)) (by exact bF BK358.out) hb)
                  have n2_ := Aside0.mk (blk_below (g := gb365) (o := .cells #[.int .i64 ((rd_T149 l1 x38_2).f0), .int .i64 ((rd_T149 l1 x38_2).f1), .int .i64 ((rd_T149 l1 x38_2).f2), .int .u64 ((rd_T149 l1 x38_2).f3.f0), .int .u64 ((rd_T149 l1 x38_2).f3.f1)] 149 (0, 0)) (by exact bF BK365.out) hb)
                  have n3_ := Aside0.mk (blk_below (g := gb366) (o := .cells #[.int .u64 0, .int .u64 0] 28 (0, 0)) (by exact bF BK366.out) hb)
                  have n4_ := Aside0.mk (below_step (by repeat (first | (with_reducible first | exact HB.out | apply bA | apply bN | apply bD | refine bS ?_ GE358.out | refine bS ?_ GE365.out | refine bS ?_ GE366.out) | exact HB.out)) hb)
                  clear HO_11
                  clear BK358
                  clear BK365
                  clear BK366
                  clear HB
                  have HO_11 := n0_
                  have BK358 := n1_
                  have BK365 := n2_
                  have BK366 := n3_
                  have HB := n4_
                  clear n0_ n1_ n2_ n3_ n4_
                  (try clear hb)
                  (try clear hb2)
                  (try clear hk)
                  (try clear hi)
                  refine hK.out _ _ ⟨(blk_cell BK365.out 0).trans rfl, (blk_cell BK365.out 1).trans rfl, (blk_cell BK365.out 2).trans rfl, (blk_cell BK365.out 3).trans rfl, (blk_cell BK365.out 4).trans rfl, HS5_, HS6_, HS7_, HS8_⟩ (fun hHeld => ?_)
                  clear hK K
                  refine norm_ (a' := ?_) ?_ ?_
                  rotate_left
                  ·show Act.put _ (some 67) _ = _
                   simp only [Act.put, List.setIfInBounds_toArray, List.set_cons_zero, List.set_cons_succ, i64_w, i32_w]
                   rfl
                  refine one_ (i := 11) (N := none) #[true, true, true, true, true, true, true, true, true, true, true, true] rfl rfl (one_of HT_.out (by kernel_rfl)) (by decide) (fun K hK => ?_)
                  have hs65 : w64.cell? ⟨gb366, 0, none⟩ = some (.int .u64 0) := (blk_cell BK366.out 0).trans rfl
                  have hfs65 := blk_frozen BK366.out 0
                  have hns65_0 := NB358_366.out
                  have hns65_1 := NB365_366.out
                  have hms65_0 := NB366_358.out
                  have hms65_1 := NB366_365.out
                  have hs66 : w64.cell? ⟨gb366, 1, none⟩ = some (.int .u64 0) := (blk_cell BK366.out 1).trans rfl
                  have hfs66 := blk_frozen BK366.out 1
                  have hns66_0 := NB358_366.out
                  have hns66_1 := NB365_366.out
                  have hms66_0 := NB366_358.out
                  have hms66_1 := NB366_365.out
                  refine skip_ (w1 := ?_) (by rfl) rfl ?_ ?_
                  rotate_left
                  ·go_simp
                   rfl
                  refine hK.out _ _ ⟨((cell_far (p := ⟨gb366, _, none⟩) NB365_366.out _).trans (((cell_far (p := ⟨gb366, _, none⟩) NB365_366.out _).trans (hHeld.1)))), ((cell_far (p := ⟨gb366, _, none⟩) NB365_366.out _).trans (((cell_far (p := ⟨gb366, _, none⟩) NB365_366.out _).trans (hHeld.2.1)))), ((cell_far (p := ⟨gb366, _, none⟩) NB365_366.out _).trans (((cell_far (p := ⟨gb366, _, none⟩) NB365_366.out _).trans (hHeld.2.2.1)))), ((cell_far (p := ⟨gb366, _, none⟩) NB365_366.out _).trans (((cell_far (p := ⟨gb366, _, none⟩) NB365_366.out _).trans (hHeld.2.2.2.1)))), ((cell_far (p := ⟨gb366, _, none⟩) NB365_366.out _).trans (((cell_far (p := ⟨gb366, _, none⟩) NB365_366.out _).trans (hHeld.2.2.2.2.1)))), ((cell_far (p := ⟨gb366, _, none⟩) (by first | exact Kd.own_blk (Kd.R_away HO_11.out (fun _ hk => hk.2)) | (rw [add_block]; exact Kd.own_blk (Kd.R_away HO_11.out (fun _ hk => hk.2))) | (show (Addr.add _ _).block ≠ _; rw [add_block]; exact Kd.own_blk (Kd.R_away HO_11.out (fun _ hk => hk.2))) | (dsimp only; exact Kd.own_blk (Kd.R_away HO_11.out (fun _ hk => hk.2)))) _).trans (((cell_far (p := ⟨gb366, _, none⟩) (by first | exact Kd.own_blk (Kd.R_away HO_11.out (fun _ hk => hk.2)) | (rw [add_block]; exact Kd.own_blk (Kd.R_away HO_11.out (fun _ hk => hk.2))) | (show (Addr.add _ _).block ≠ _; rw [add_block]; exact Kd.own_blk (Kd.R_away HO_11.out (fun _ hk => hk.2))) | (dsimp only; exact Kd.own_blk (Kd.R_away HO_11.out (fun _ hk => hk.2)))) _).trans (hHeld.2.2.2.2.2.1)))), ((cell_far (p := ⟨gb366, _, none⟩) (by first | exact Kd.own_blk (Kd.R_away HO_11.out (fun _ hk => hk.2)) | (rw [add_block]; exact Kd.own_blk (Kd.R_away HO_11.out (fun _ hk => hk.2))) | (show (Addr.add _ _).block ≠ _; rw [add_block]; exact Kd.own_blk (Kd.R_away HO_11.out (fun _ hk => hk.2))) | (dsimp only; exact Kd.own_blk (Kd.R_away HO_11.out (fun _ hk => hk.2)))) _).trans (((cell_far (p := ⟨gb366, _, none⟩) (by first | exact Kd.own_blk (Kd.R_away HO_11.out (fun _ hk => hk.2)) | (rw [add_block]; exact Kd.own_blk (Kd.R_away HO_11.out (fun _ hk => hk.2))) | (show (Addr.add _ _).block ≠ _; rw [add_block]; exact Kd.own_blk (Kd.R_away HO_11.out (fun _ hk => hk.2))) | (dsimp only; exact Kd.own_blk (Kd.R_away HO_11.out (fun _ hk => hk.2)))) _).trans (hHeld.2.2.2.2.2.2.1)))), ((cell_far (p := ⟨gb366, _, none⟩) (by first | exact Kd.own_blk (Kd.R_away HO_11.out (fun _ hk => hk.2)) | (rw [add_block]; exact Kd.own_blk (Kd.R_away HO_11.out (fun _ hk => hk.2))) | (show (Addr.add _ _).block ≠ _; rw [add_block]; exact Kd.own_blk (Kd.R_away HO_11.out (fun _ hk => hk.2))) | (dsimp only; exact Kd.own_blk (Kd.R_away HO_11.out (fun _ hk => hk.2)))) _).trans (((cell_far (p := ⟨gb366, _, none⟩) (by first | exact Kd.own_blk (Kd.R_away HO_11.out (fun _ hk => hk.2)) | (rw [add_block]; exact Kd.own_blk (Kd.R_away HO_11.out (fun _ hk => hk.2))) | (show (Addr.add _ _).block ≠ _; rw [add_block]; exact Kd.own_blk (Kd.R_away HO_11.out (fun _ hk => hk.2))) | (dsimp only; exact Kd.own_blk (Kd.R_away HO_11.out (fun _ hk => hk.2)))) _).trans (hHeld.2.2.2.2.2.2.2.1)))), ((cell_far (p := ⟨gb366, _, none⟩) (by first | exact Kd.own_blk (Kd.R_away HO_11.out (fun _ hk => hk.2)) | (rw [add_block]; exact Kd.own_blk (Kd.R_away HO_11.out (fun _ hk => hk.2))) | (show (Addr.add _ _).block ≠ _; rw [add_block]; exact Kd.own_blk (Kd.R_away HO_11.out (fun _ hk => hk.2))) | (dsimp only; exact Kd.own_blk (Kd.R_away HO_11.out (fun _ hk => hk.2)))) _).trans (((cell_far (p := ⟨gb366, _, none⟩) (by first | exact Kd.own_blk (Kd.R_away HO_11.out (fun _ hk => hk.2)) | (rw [add_block]; exact Kd.own_blk (Kd.R_away HO_11.out (fun _ hk => hk.2))) | (show (Addr.add _ _).block ≠ _; rw [add_block]; exact Kd.own_blk (Kd.R_away HO_11.out (fun _ hk => hk.2))) | (dsimp only; exact Kd.own_blk (Kd.R_away HO_11.out (fun _ hk => hk.2)))) _).trans (hHeld.2.2.2.2.2.2.2.2))))⟩ (fun hHeld => ?_)
                  clear hK K
                  refine done_ (done_of HT_.out (by kernel_rfl)) ?_
                  have hnb67 := NB366_358.out
                  have hnc67 := NB358_366.out
                  have hcz68_0 : w64.cell? ⟨gb366, 0, none⟩ = some (.int .u64 0) := (blk_cell BK366.out 0).trans rfl
                  have hcz68_1 : w64.cell? ⟨gb366, 1, none⟩ = some (.int .u64 0) := (blk_cell BK366.out 1).trans rfl
                  have hfz68_0 := blk_frozen BK366.out 0
                  have hfz68_1 := blk_frozen BK366.out 1
                  try go_wp2_with (first | ((with_reducible refine gate_builtin (b := .append) (xs := #[.tmp 82, .tmp 84]) rfl ?_); at_builtin; refine Kd.R_append k28 (w0 := w) w.heap.size rfl (.tmp 82) (.tmp 84) 53 28 (.agg #[(.int .u64 0), (.int .u64 0)]) 16 rfl Try.underlying53 info28 rfl (by decide) (by omega) (.slice (some ad374) x11_2.length co63) x11_2 (⟨t376, t377⟩ : S28) [.int .u64 t376, .int .u64 t377] (fun k_ => k_ ≠ gb358 ∧ k_ ≠ gb366) (fun _ => False) rfl (by first | (go_simp; done) | (go_simp; rfl)) ?aP (fun _ hk => hk.elim) ?aF ?aO ?aB ?aS ?aL ?_; (case aP => exact k28_mkM _ _ _ (⟨t376, t377⟩ : S28)); (case aB => exact (by repeat (first | (with_reducible first | exact HB.out | apply bA | apply bN | apply bD | refine bS ?_ GE358.out | refine bS ?_ GE365.out | refine bS ?_ GE366.out) | exact HB.out))); (case aF => exact (fun k_ hk => ⟨Kd.freshB (g := gb358) (o := .cells #[.int .u64 x359000_1, .int .u64 x359001_1] 28 (0, 0)) (by (with_reducible repeat (first | refine blk_drewN ?_ _ | refine blk_drew ?_ | refine blk_alloc ?_ _)); refine blk_far ?_ NB358_366.out _; (with_reducible repeat (first | refine blk_drewN ?_ _ | refine blk_drew ?_ | refine blk_alloc ?_ _)); refine blk_far ?_ NB358_366.out _; exact bF BK358.out) k_ hk, Kd.freshB (g := gb366) (o := .cells #[.int .u64 t376, .int .u64 t377] 28 (0, 0)) (by (with_reducible repeat (first | refine blk_drewN ?_ _ | refine blk_drew ?_ | refine blk_alloc ?_ _)); refine blk_put (cs := #[.int .u64 t376, .int .u64 0]) ?_ 1 _ rfl; (with_reducible repeat (first | refine blk_drewN ?_ _ | refine blk_drew ?_ | refine blk_alloc ?_ _)); refine blk_put (cs := #[.int .u64 0, .int .u64 0]) ?_ 0 _ rfl; exact bF BK366.out) k_ hk⟩)); (case aO => exact (by (with_reducible repeat (first | apply Kd.R_alloc | apply Kd.R_drewN | apply Kd.R_drew)); exact Kd.R_mono (Kd.R_far (p := ⟨gb366, 1, none⟩) (Kd.R_far (p := ⟨gb366, 0, none⟩) (Kd.R_mono HO_11.out (fun k_ hk => (⟨hk, hk.2⟩ : _ ∧ k_ ≠ gb366))) (fun _ hk => hk.2) (.int .u64 t376)) (fun _ hk => hk.2) (.int .u64 t377)) (fun _ hk => ⟨hk.1.1, hk.1.2⟩))); (case aS => exact (below_size (by repeat (first | (with_reducible first | exact HB.out | apply bA | apply bN | apply bD | refine bS ?_ GE358.out | refine bS ?_ GE365.out | refine bS ?_ GE366.out) | exact HB.out)))); (case aL => have := LMc55.out; omega); intro v379 w69 ho hb hg hat; rw [← Ny378.out] at ho; have n0_ := Aside0.mk (blk_grown (g := gb358) (o := .cells #[.int .u64 x359000_1, .int .u64 x359001_1] 28 (0, 0)) (by (with_reducible repeat (first | refine blk_drewN ?_ _ | refine blk_drew ?_ | refine blk_alloc ?_ _)); refine blk_far ?_ NB358_366.out _; (with_reducible repeat (first | refine blk_drewN ?_ _ | refine blk_drew ?_ | refine blk_alloc ?_ _)); refine blk_far ?_ NB358_366.out _; exact bF BK358.out) hg (Kd.R_away HO_11.out (fun _ hk => hk.1))); have n1_ := Aside0.mk (blk_grown (g := gb365) (o := .cells #[.int .i64 ((rd_T149 l1 x38_2).f0), .int .i64 ((rd_T149 l1 x38_2).f1), .int .i64 ((rd_T149 l1 x38_2).f2), .int .u64 ((rd_T149 l1 x38_2).f3.f0), .int .u64 ((rd_T149 l1 x38_2).f3.f1)] 149 (0, 0)) (by (with_reducible repeat (first | refine blk_drewN ?_ _ | refine blk_drew ?_ | refine blk_alloc ?_ _)); refine blk_far ?_ NB365_366.out _; (with_reducible repeat (first | refine blk_drewN ?_ _ | refine blk_drew ?_ | refine blk_alloc ?_ _)); refine blk_far ?_ NB365_366.out _; exact bF BK365.out) hg (Kd.R_ne HO_11.out BK365.out (by decide))); have n2_ := Aside0.mk (blk_grown (g := gb366) (o := .cells #[.int .u64 t376, .int .u64 t377] 28 (0, 0)) (by (with_reducible repeat (first | refine blk_drewN ?_ _ | refine blk_drew ?_ | refine blk_alloc ?_ _)); refine blk_put (cs := #[.int .u64 t376, .int .u64 0]) ?_ 1 _ rfl; (with_reducible repeat (first | refine blk_drewN ?_ _ | refine blk_drew ?_ | refine blk_alloc ?_ _)); refine blk_put (cs := #[.int .u64 0, .int .u64 0]) ?_ 0 _ rfl; exact bF BK366.out) hg (Kd.R_away HO_11.out (fun _ hk => hk.2))); have n3_ := Aside0.mk (hb); have n4_ := Aside0.mk (ho); clear BK358; clear BK365; clear BK366; clear HB; clear HO_11; have BK358 := n0_; have BK365 := n1_; have BK366 := n2_; have HB := n3_; have HO380 := n4_; clear n0_ n1_ n2_ n3_ n4_; clear ho hb hg hat))
                  go_roundg k2
                  case measure => have := HK1.out; have := HK2.out; omega
                  case rel => exact ⟨(y378), (wrap64 (x38_2 + 1)), (by first | rfl | (simp; done) | (simp [*]; done)), H', ⟨by have := HK1.out; have := HK2.out; omega⟩, ⟨by (with_reducible repeat (first | apply Kd.R_alloc | apply Kd.R_drewN | apply Kd.R_drew)); exact Kd.R_mono HO380.out (fun _ hk => hk.1)⟩, ⟨by exact bF BK358.out⟩, ⟨by repeat (first | (with_reducible first | exact HB.out | apply bA | apply bN | apply bD | refine bS ?_ GE358.out | refine bS ?_ GE365.out | refine bS ?_ GE366.out) | exact HB.out)⟩⟩
                 ·rw [if_neg c55] at H
                  exact absurd H (by simp)
                ·rw [if_neg c53] at H
                 exact absurd H (by simp)
               ·rw [if_neg c52] at H
                exact absurd H (by simp)
              ·rw [if_neg c51] at H
               exact absurd H (by simp)
             ·rw [if_neg c50] at H
              exact absurd H (by simp)
            ·rw [if_neg c49] at H
             have c49b0 : (((rd_T149 l1 x38_2).f0) == 3) = false := beq_eq_false_iff_ne.mpr c49
             have c49b1 : (((rd_T149 l1 x38_2).f0) != 3) = true := bne_iff_ne.mpr c49
             by_cases c70 : ((rd_T149 l1 x38_2).f0) = 4
             ·rw [if_pos c70] at H
              have c70b0 : (((rd_T149 l1 x38_2).f0) == 4) = true := beq_iff_eq.mpr c70
              have c70b1 : (((rd_T149 l1 x38_2).f0) != 4) = false := bne_eq_false_iff_eq.mpr c70
              clear c70
              by_cases c71 : 0 ≤ ((rd_T149 l1 x38_2).f1)
              ·rw [if_pos c71] at H
               have c71b0 : decide (0 ≤ ((rd_T149 l1 x38_2).f1)) = true := decide_eq_true c71
               clear c71
               by_cases c72 : ((rd_T149 l1 x38_2).f1) < (x11_2.length : Int)
               ·rw [if_pos c72] at H
                have c72b0 : decide (((rd_T149 l1 x38_2).f1) < (x11_2.length : Int)) = true := decide_eq_true c72
                clear c72
                by_cases c73 : 0 ≤ ((rd_T149 l1 x38_2).f2)
                ·rw [if_pos c73] at H
                 have c73b0 : decide (0 ≤ ((rd_T149 l1 x38_2).f2)) = true := decide_eq_true c73
                 clear c73
                 by_cases c74 : ((rd_T149 l1 x38_2).f2) < (x11_2.length : Int)
                 ·rw [if_pos c74] at H
                  have c74b0 : decide (((rd_T149 l1 x38_2).f2) < (x11_2.length : Int)) = true := decide_eq_true c74
                  clear c74
                  replace H := Option.bind_eq_some_iff.mp H
                  obtain ⟨⟨t383, t384⟩, A750, H⟩ := H
                  replace H : (if x11_2.length < 8796093022208 then (expr_Eval.l1 k2 a0 l2 (x11_2 ++ [(⟨t383, t384⟩ : S28)]) l1 (l1.length : Int) (wrap64 (x38_2 + 1))) else (none)) = some (r1, r2, r3) := H
                  have A75 := Aside0.mk A750
                  clear A750
                  by_cases c76 : x11_2.length < 8796093022208
                  ·rw [if_pos c76] at H
                   have LMc76 := Aside0.mk c76
                   clear c76
                   obtain ⟨y385, hy385⟩ : ∃ y_ : List (S28), y_ = (x11_2 ++ [(⟨t383, t384⟩ : S28)]) := ⟨_, rfl⟩
                   replace H : (expr_Eval.l1 k2 a0 l2 y385 l1 (l1.length : Int) (wrap64 (x38_2 + 1))) = some (r1, r2, r3) := by first | (rw [hy385]; with_reducible exact H) | (have H2_ := (Option.bind_some _ _).symm.trans H; rw [hy385]; with_reducible exact H2_) | (have H2_ := (Option.bind_some _ _).symm.trans H; with_reducible exact H2_) | with_reducible exact H | (rw [hy385]; exact H) | exact H
                   have Ny385 := Aside0.mk hy385
                   clear hy385
                   have H' := Aside0.mk H
                   clear H
                   have p364 : 0 ≤ (x38_2 : Int) := of_decide_eq_true (by first | (with_reducible assumption) | assumption)
                   have q364 : x38_2 < (l1.length : Int) := of_decide_eq_true (by first | (with_reducible assumption) | assumption)
                   obtain ⟨ad364, e364, hx364_0, hx364_1, hx364_2, hx364_3, hx364_4⟩ := at_T149 HR1.out x38_2 p364 q364
                   cases e364
                   replace hx364_0 := (HB.out.cell (World.block_lt_of_cell? w _ hx364_0)).trans hx364_0
                   replace hx364_1 := (HB.out.cell (World.block_lt_of_cell? w _ hx364_1)).trans hx364_1
                   replace hx364_2 := (HB.out.cell (World.block_lt_of_cell? w _ hx364_2)).trans hx364_2
                   replace hx364_3 := (HB.out.cell (World.block_lt_of_cell? w _ hx364_3)).trans hx364_3
                   replace hx364_4 := (HB.out.cell (World.block_lt_of_cell? w _ hx364_4)).trans hx364_4
                   replace p364 := eq_true p364
                   replace q364 := eq_true q364
                   try go_wp2_with (first | ((with_reducible refine gate_dst (N := 13) rfl ?_); refine box_event ?hg (N := 13) ?hd (cs := #[.int .i64 0, .int .i64 0, .int .i64 0, .int .u64 0, .int .u64 0]) (t := 149) ?hr ?_; (case hd => rfl); (case hg => rfl); (case hr => first | (go_simp; done) | (go_simp; rfl)); intro gb365 hg w77 hbox hb; have n0_ := Aside0.mk (Kd.R_below (by exact rF HO_11.out) hb); have n1_ := Aside0.mk (blk_below (g := gb358) (o := .cells #[.int .u64 x359000_1, .int .u64 x359001_1] 28 (0, 0)) (by exact bF BK358.out) hb); have n2_ := Aside0.mk (below_step (by repeat (first | (with_reducible first | exact HB.out | apply bA | apply bN | apply bD | refine bS ?_ GE358.out) | exact HB.out)) hb); have n3_ := Aside0.mk (hbox); have n4_ := Aside0.mk ((by rw [hg]; exact (below_size (by repeat (first | (with_reducible first | exact HB.out | apply bA | apply bN | apply bD | refine bS ?_ GE358.out) | exact HB.out))) : w.heap.size ≤ gb365)); have n5_ := Aside0.mk ((by rw [hg]; exact (below_size (by repeat (first | (with_reducible first | exact HB.out | apply bA | apply bN | apply bD | refine bS ?_ GE358.out) | exact HB.out))) : w.heap.size ≤ gb365)); have n6_ := Aside0.mk ((by rw [hg]; exact Nat.ne_of_lt (blk_lt (g := gb358) (o := .cells #[.int .u64 x359000_1, .int .u64 x359001_1] 28 (0, 0)) (by exact bF BK358.out)) : gb358 ≠ gb365)); have n7_ := Aside0.mk ((by rw [hg]; exact Nat.ne_of_gt (blk_lt (g := gb358) (o := .cells #[.int .u64 x359000_1, .int .u64 x359001_1] 28 (0, 0)) (by exact bF BK358.out)) : gb365 ≠ gb358)); clear HO_11; clear BK358; clear HB; have HO_11 := n0_; have BK358 := n1_; have HB := n2_; have BK365 := n3_; have GW365 := n4_; have GE365 := n5_; have NB358_365 := n6_; have NB365_358 := n7_; clear n0_ n1_ n2_ n3_ n4_ n5_ n6_ n7_; clear hb hbox hg; have hnb78 := NB365_358.out; have hnc78 := NB358_365.out; have hcz79_0 : w77.cell? ⟨gb365, 0, none⟩ = some (.int .i64 0) := (blk_cell BK365.out 0).trans rfl; have hcz79_1 : w77.cell? ⟨gb365, 1, none⟩ = some (.int .i64 0) := (blk_cell BK365.out 1).trans rfl; have hcz79_2 : w77.cell? ⟨gb365, 2, none⟩ = some (.int .i64 0) := (blk_cell BK365.out 2).trans rfl; have hcz79_3 : w77.cell? ⟨gb365, 3, none⟩ = some (.int .u64 0) := (blk_cell BK365.out 3).trans rfl; have hcz79_4 : w77.cell? ⟨gb365, 4, none⟩ = some (.int .u64 0) := (blk_cell BK365.out 4).trans rfl; have hfz79_0 := blk_frozen BK365.out 0; have hfz79_1 := blk_frozen BK365.out 1; have hfz79_2 := blk_frozen BK365.out 2; have hfz79_3 := blk_frozen BK365.out 3; have hfz79_4 := blk_frozen BK365.out 4) | ((with_reducible refine gate_dst (N := 14) rfl ?_); refine box_event ?hg (N := 14) ?hd (cs := #[.int .u64 0, .int .u64 0]) (t := 28) ?hr ?_; (case hd => rfl); (case hg => rfl); (case hr => first | (go_simp; done) | (go_simp; rfl)); intro gb366 hg w80 hbox hb; have n0_ := Aside0.mk (Kd.R_below (Kd.R_elderB (by (with_reducible repeat (first | apply Kd.R_alloc | apply Kd.R_drewN | apply Kd.R_drew)); exact (Kd.R_mono (Kd.R_far (p := ⟨gb365, 4, none⟩) (Kd.R_far (p := ⟨gb365, 3, none⟩) (Kd.R_far (p := ⟨gb365, 2, none⟩) (Kd.R_far (p := ⟨gb365, 1, none⟩) (Kd.R_far (p := ⟨gb365, 0, none⟩) (Kd.R_types HO_11.out BK365.out (by decide)) (fun _ hk => hk.2) (.int .i64 ((rd_T149 l1 x38_2).f0))) (fun _ hk => hk.2) (.int .i64 ((rd_T149 l1 x38_2).f1))) (fun _ hk => hk.2) (.int .i64 ((rd_T149 l1 x38_2).f2))) (fun _ hk => hk.2) (.int .u64 ((rd_T149 l1 x38_2).f3.f0))) (fun _ hk => hk.2) (.int .u64 ((rd_T149 l1 x38_2).f3.f1))) (fun _ h_ => h_.1))) gb366 (Nat.le_of_eq hg.symm)) hb); have n1_ := Aside0.mk (blk_below (g := gb358) (o := .cells #[.int .u64 x359000_1, .int .u64 x359001_1] 28 (0, 0)) (by (with_reducible repeat (first | refine blk_drewN ?_ _ | refine blk_drew ?_ | refine blk_alloc ?_ _)); refine blk_far ?_ NB358_365.out _; (with_reducible repeat (first | refine blk_drewN ?_ _ | refine blk_drew ?_ | refine blk_alloc ?_ _)); refine blk_far ?_ NB358_365.out _; (with_reducible repeat (first | refine blk_drewN ?_ _ | refine blk_drew ?_ | refine blk_alloc ?_ _)); refine blk_far ?_ NB358_365.out _; (with_reducible repeat (first | refine blk_drewN ?_ _ | refine blk_drew ?_ | refine blk_alloc ?_ _)); refine blk_far ?_ NB358_365.out _; (with_reducible repeat (first | refine blk_drewN ?_ _ | refine blk_drew ?_ | refine blk_alloc ?_ _)); refine blk_far ?_ NB358_365.out _; exact bF BK358.out) hb); have n2_ := Aside0.mk (blk_below (g := gb365) (o := .cells #[.int .i64 ((rd_T149 l1 x38_2).f0), .int .i64 ((rd_T149 l1 x38_2).f1), .int .i64 ((rd_T149 l1 x38_2).f2), .int .u64 ((rd_T149 l1 x38_2).f3.f0), .int .u64 ((rd_T149 l1 x38_2).f3.f1)] 149 (0, 0)) (by (with_reducible repeat (first | refine blk_drewN ?_ _ | refine blk_drew ?_ | refine blk_alloc ?_ _)); refine blk_put (cs := #[.int .i64 ((rd_T149 l1 x38_2).f0), .int .i64 ((rd_T149 l1 x38_2).f1), .int .i64 ((rd_T149 l1 x38_2).f2), .int .u64 ((rd_T149 l1 x38_2).f3.f0), .int .u64 0]) ?_ 4 _ rfl; (with_reducible repeat (first | refine blk_drewN ?_ _ | refine blk_drew ?_ | refine blk_alloc ?_ _)); refine blk_put (cs := #[.int .i64 ((rd_T149 l1 x38_2).f0), .int .i64 ((rd_T149 l1 x38_2).f1), .int .i64 ((rd_T149 l1 x38_2).f2), .int .u64 0, .int .u64 0]) ?_ 3 _ rfl; (with_reducible repeat (first | refine blk_drewN ?_ _ | refine blk_drew ?_ | refine blk_alloc ?_ _)); refine blk_put (cs := #[.int .i64 ((rd_T149 l1 x38_2).f0), .int .i64 ((rd_T149 l1 x38_2).f1), .int .i64 0, .int .u64 0, .int .u64 0]) ?_ 2 _ rfl; (with_reducible repeat (first | refine blk_drewN ?_ _ | refine blk_drew ?_ | refine blk_alloc ?_ _)); refine blk_put (cs := #[.int .i64 ((rd_T149 l1 x38_2).f0), .int .i64 0, .int .i64 0, .int .u64 0, .int .u64 0]) ?_ 1 _ rfl; (with_reducible repeat (first | refine blk_drewN ?_ _ | refine blk_drew ?_ | refine blk_alloc ?_ _)); refine blk_put (cs := #[.int .i64 0, .int .i64 0, .int .i64 0, .int .u64 0, .int .u64 0]) ?_ 0 _ rfl; exact bF BK365.out) hb); have n3_ := Aside0.mk (below_step (by repeat (first | (with_reducible first | exact HB.out | apply bA | apply bN | apply bD | refine bS ?_ GE358.out | refine bS ?_ GE365.out) | exact HB.out)) hb); have n4_ := Aside0.mk (hbox); have n5_ := Aside0.mk ((by rw [hg]; exact (below_size (by repeat (first | (with_reducible first | exact HB.out | apply bA | apply bN | apply bD | refine bS ?_ GE358.out | refine bS ?_ GE365.out) | exact HB.out))) : w.heap.size ≤ gb366)); have n6_ := Aside0.mk ((by rw [hg]; exact (below_size (by repeat (first | (with_reducible first | exact HB.out | apply bA | apply bN | apply bD | refine bS ?_ GE358.out | refine bS ?_ GE365.out) | exact HB.out))) : w.heap.size ≤ gb366)); have n7_ := Aside0.mk ((by rw [hg]; exact Nat.ne_of_lt (blk_lt (g := gb358) (o := .cells #[.int .u64 x359000_1, .int .u64 x359001_1] 28 (0, 0)) (by (with_reducible repeat (first | refine blk_drewN ?_ _ | refine blk_drew ?_ | refine blk_alloc ?_ _)); refine blk_far ?_ NB358_365.out _; (with_reducible repeat (first | refine blk_drewN ?_ _ | refine blk_drew ?_ | refine blk_alloc ?_ _)); refine blk_far ?_ NB358_365.out _; (with_reducible repeat (first | refine blk_drewN ?_ _ | refine blk_drew ?_ | refine blk_alloc ?_ _)); refine blk_far ?_ NB358_365.out _; (with_reducible repeat (first | refine blk_drewN ?_ _ | refine blk_drew ?_ | refine blk_alloc ?_ _)); refine blk_far ?_ NB358_365.out _; (with_reducible repeat (first | refine blk_drewN ?_ _ | refine blk_drew ?_ | refine blk_alloc ?_ _)); refine blk_far ?_ NB358_365.out _; exact bF BK358.out)) : gb358 ≠ gb366)); have n8_ := Aside0.mk ((by rw [hg]; exact Nat.ne_of_gt (blk_lt (g := gb358) (o := .cells #[.int .u64 x359000_1, .int .u64 x359001_1] 28 (0, 0)) (by (with_reducible repeat (first | refine blk_drewN ?_ _ | refine blk_drew ?_ | refine blk_alloc ?_ _)); refine blk_far ?_ NB358_365.out _; (with_reducible repeat (first | refine blk_drewN ?_ _ | refine blk_drew ?_ | refine blk_alloc ?_ _)); refine blk_far ?_ NB358_365.out _; (with_reducible repeat (first | refine blk_drewN ?_ _ | refine blk_drew ?_ | refine blk_alloc ?_ _)); refine blk_far ?_ NB358_365.out _; (with_reducible repeat (first | refine blk_drewN ?_ _ | refine blk_drew ?_ | refine blk_alloc ?_ _)); refine blk_far ?_ NB358_365.out _; (with_reducible repeat (first | refine blk_drewN ?_ _ | refine blk_drew ?_ | refine blk_alloc ?_ _)); refine blk_far ?_ NB358_365.out _; exact bF BK358.out)) : gb366 ≠ gb358)); have n9_ := Aside0.mk ((by rw [hg]; exact Nat.ne_of_lt (blk_lt (g := gb365) (o := .cells #[.int .i64 ((rd_T149 l1 x38_2).f0), .int .i64 ((rd_T149 l1 x38_2).f1), .int .i64 ((rd_T149 l1 x38_2).f2), .int .u64 ((rd_T149 l1 x38_2).f3.f0), .int .u64 ((rd_T149 l1 x38_2).f3.f1)] 149 (0, 0)) (by (with_reducible repeat (first | refine blk_drewN ?_ _ | refine blk_drew ?_ | refine blk_alloc ?_ _)); refine blk_put (cs := #[.int .i64 ((rd_T149 l1 x38_2).f0), .int .i64 ((rd_T149 l1 x38_2).f1), .int .i64 ((rd_T149 l1 x38_2).f2), .int .u64 ((rd_T149 l1 x38_2).f3.f0), .int .u64 0]) ?_ 4 _ rfl; (with_reducible repeat (first | refine blk_drewN ?_ _ | refine blk_drew ?_ | refine blk_alloc ?_ _)); refine blk_put (cs := #[.int .i64 ((rd_T149 l1 x38_2).f0), .int .i64 ((rd_T149 l1 x38_2).f1), .int .i64 ((rd_T149 l1 x38_2).f2), .int .u64 0, .int .u64 0]) ?_ 3 _ rfl; (with_reducible repeat (first | refine blk_drewN ?_ _ | refine blk_drew ?_ | refine blk_alloc ?_ _)); refine blk_put (cs := #[.int .i64 ((rd_T149 l1 x38_2).f0), .int .i64 ((rd_T149 l1 x38_2).f1), .int .i64 0, .int .u64 0, .int .u64 0]) ?_ 2 _ rfl; (with_reducible repeat (first | refine blk_drewN ?_ _ | refine blk_drew ?_ | refine blk_alloc ?_ _)); refine blk_put (cs := #[.int .i64 ((rd_T149 l1 x38_2).f0), .int .i64 0, .int .i64 0, .int .u64 0, .int .u64 0]) ?_ 1 _ rfl; (with_reducible repeat (first | refine blk_drewN ?_ _ | refine blk_drew ?_ | refine blk_alloc ?_ _)); refine blk_put (cs := #[.int .i64 0, .int .i64 0, .int .i64 0, .int .u64 0, .int .u64 0]) ?_ 0 _ rfl; exact bF BK365.out)) : gb365 ≠ gb366)); have n10_ := Aside0.mk ((by rw [hg]; exact Nat.ne_of_gt (blk_lt (g := gb365) (o := .cells #[.int .i64 ((rd_T149 l1 x38_2).f0), .int .i64 ((rd_T149 l1 x38_2).f1), .int .i64 ((rd_T149 l1 x38_2).f2), .int .u64 ((rd_T149 l1 x38_2).f3.f0), .int .u64 ((rd_T149 l1 x38_2).f3.f1)] 149 (0, 0)) (by (with_reducible repeat (first | refine blk_drewN ?_ _ | refine blk_drew ?_ | refine blk_alloc ?_ _)); refine blk_put (cs := #[.int .i64 ((rd_T149 l1 x38_2).f0), .int .i64 ((rd_T149 l1 x38_2).f1), .int .i64 ((rd_T149 l1 x38_2).f2), .int .u64 ((rd_T149 l1 x38_2).f3.f0), .int .u64 0]) ?_ 4 _ rfl; (with_reducible repeat (first | refine blk_drewN ?_ _ | refine blk_drew ?_ | refine blk_alloc ?_ _)); refine blk_put (cs := #[.int .i64 ((rd_T149 l1 x38_2).f0), .int .i64 ((rd_T149 l1 x38_2).f1), .int .i64 ((rd_T149 l1 x38_2).f2), .int .u64 0, .int .u64 0]) ?_ 3 _ rfl; (with_reducible repeat (first | refine blk_drewN ?_ _ | refine blk_drew ?_ | refine blk_alloc ?_ _)); refine blk_put (cs := #[.int .i64 ((rd_T149 l1 x38_2).f0), .int .i64 ((rd_T149 l1 x38_2).f1), .int .i64 0, .int .u64 0, .int .u64 0]) ?_ 2 _ rfl; (with_reducible repeat (first | refine blk_drewN ?_ _ | refine blk_drew ?_ | refine blk_alloc ?_ _)); refine blk_put (cs := #[.int .i64 ((rd_T149 l1 x38_2).f0), .int .i64 0, .int .i64 0, .int .u64 0, .int .u64 0]) ?_ 1 _ rfl; (with_reducible repeat (first | refine blk_drewN ?_ _ | refine blk_drew ?_ | refine blk_alloc ?_ _)); refine blk_put (cs := #[.int .i64 0, .int .i64 0, .int .i64 0, .int .u64 0, .int .u64 0]) ?_ 0 _ rfl; exact bF BK365.out)) : gb366 ≠ gb365)); clear HO_11; clear BK358; clear BK365; clear HB; have HO_11 := n0_; have BK358 := n1_; have BK365 := n2_; have HB := n3_; have BK366 := n4_; have GW366 := n5_; have GE366 := n6_; have NB358_366 := n7_; have NB366_358 := n8_; have NB365_366 := n9_; have NB366_365 := n10_; clear n0_ n1_ n2_ n3_ n4_ n5_ n6_ n7_ n8_ n9_ n10_; clear hb hbox hg; have hnb81 := NB365_366.out; have hnc81 := NB366_365.out; have hcz82_0 : w80.cell? ⟨gb365, 0, none⟩ = some (.int .i64 ((rd_T149 l1 x38_2).f0)) := (blk_cell BK365.out 0).trans rfl; have hcz82_1 : w80.cell? ⟨gb365, 1, none⟩ = some (.int .i64 ((rd_T149 l1 x38_2).f1)) := (blk_cell BK365.out 1).trans rfl; have hcz82_2 : w80.cell? ⟨gb365, 2, none⟩ = some (.int .i64 ((rd_T149 l1 x38_2).f2)) := (blk_cell BK365.out 2).trans rfl; have hcz82_3 : w80.cell? ⟨gb365, 3, none⟩ = some (.int .u64 ((rd_T149 l1 x38_2).f3.f0)) := (blk_cell BK365.out 3).trans rfl; have hcz82_4 : w80.cell? ⟨gb365, 4, none⟩ = some (.int .u64 ((rd_T149 l1 x38_2).f3.f1)) := (blk_cell BK365.out 4).trans rfl; have hfz82_0 := blk_frozen BK365.out 0; have hfz82_1 := blk_frozen BK365.out 1; have hfz82_2 := blk_frozen BK365.out 2; have hfz82_3 := blk_frozen BK365.out 3; have hfz82_4 := blk_frozen BK365.out 4))
                   have n0_ := Aside0.mk (Kd.R_drew HO_11.out)
                   have n1_ := Aside0.mk (blk_drew BK358.out)
                   have n2_ := Aside0.mk (blk_drew BK365.out)
                   have n3_ := Aside0.mk (blk_drew BK366.out)
                   have n4_ := Aside0.mk (below_drew1 HB.out)
                   clear HO_11
                   clear BK358
                   clear BK365
                   clear BK366
                   clear HB
                   have HO_11 := n0_
                   have BK358 := n1_
                   have BK365 := n2_
                   have BK366 := n3_
                   have HB := n4_
                   clear n0_ n1_ n2_ n3_ n4_
                   obtain ⟨Ao84, co84, eo84⟩ := Kd.R_slice HO_11.out
                   (first | subst eo84 | (injection eo84 with f1_ f2_ f3_; have f4_ := f1_.symm; have f5_ := f3_.symm; clear f1_ f2_ f3_; subst f4_; subst f5_))
                   have p381 : 0 ≤ (((rd_T149 l1 x38_2).f1) : Int) := of_decide_eq_true (by first | (with_reducible assumption) | assumption)
                   have q381 : ((rd_T149 l1 x38_2).f1) < (x11_2.length : Int) := of_decide_eq_true (by first | (with_reducible assumption) | assumption)
                   obtain ⟨ad381, e381, hx381_0, hx381_1⟩ := at_T28 (Kd.R_reads' HO_11.out).2.2 ((rd_T149 l1 x38_2).f1) p381 q381
                   cases e381
                   replace p381 := eq_true p381
                   replace q381 := eq_true q381
                   have p382 : 0 ≤ (((rd_T149 l1 x38_2).f2) : Int) := of_decide_eq_true (by first | (with_reducible assumption) | assumption)
                   have q382 : ((rd_T149 l1 x38_2).f2) < (x11_2.length : Int) := of_decide_eq_true (by first | (with_reducible assumption) | assumption)
                   obtain ⟨ad382, e382, hx382_0, hx382_1⟩ := at_T28 (Kd.R_reads' HO_11.out).2.2 ((rd_T149 l1 x38_2).f2) p382 q382
                   obtain rfl : ad381 = ad382 := (by injection e382)
                   replace p382 := eq_true p382
                   replace q382 := eq_true q382
                   refine start_ (n := 13) (S := fun w' => w'.cell? ⟨gb365, 0, none⟩ = some (.int .i64 ((rd_T149 l1 x38_2).f0)) ∧ w'.cell? ⟨gb365, 1, none⟩ = some (.int .i64 ((rd_T149 l1 x38_2).f1)) ∧ w'.cell? ⟨gb365, 2, none⟩ = some (.int .i64 ((rd_T149 l1 x38_2).f2)) ∧ w'.cell? ⟨gb365, 3, none⟩ = some (.int .u64 ((rd_T149 l1 x38_2).f3.f0)) ∧ w'.cell? ⟨gb365, 4, none⟩ = some (.int .u64 ((rd_T149 l1 x38_2).f3.f1)) ∧ w'.cell? (ad381.add ((((rd_T149 l1 x38_2).f1)).toNat * 2)) = some (.int .u64 ((rd_T28 x11_2 ((rd_T149 l1 x38_2).f1)).f0)) ∧ w'.cell? ⟨(ad381.add ((((rd_T149 l1 x38_2).f1)).toNat * 2)).block, (ad381.add ((((rd_T149 l1 x38_2).f1)).toNat * 2)).off + 1, none⟩ = some (.int .u64 ((rd_T28 x11_2 ((rd_T149 l1 x38_2).f1)).f1)) ∧ w'.cell? (ad381.add ((((rd_T149 l1 x38_2).f2)).toNat * 2)) = some (.int .u64 ((rd_T28 x11_2 ((rd_T149 l1 x38_2).f2)).f0)) ∧ w'.cell? ⟨(ad381.add ((((rd_T149 l1 x38_2).f2)).toNat * 2)).block, (ad381.add ((((rd_T149 l1 x38_2).f2)).toNat * 2)).off + 1, none⟩ = some (.int .u64 ((rd_T28 x11_2 ((rd_T149 l1 x38_2).f2)).f1))) (ds := []) #[false, false, false, false, false, false, false, false, false, false, false, false, false] (by kernel_rfl) rfl rfl ⟨(blk_cell BK365.out 0).trans rfl, (blk_cell BK365.out 1).trans rfl, (blk_cell BK365.out 2).trans rfl, (blk_cell BK365.out 3).trans rfl, (blk_cell BK365.out 4).trans rfl, hx381_0, hx381_1, hx382_0, hx382_1⟩ (fun hHeld => ?_); refine with_tabW expr_Eval.tab23 expr_Eval.bits23 (fun HT_ HW_ => ?_)
                   generalize w80.drew = w83 at HO_11 BK358 BK365 BK366 HB hx381_0 hx381_1 hx382_0 hx382_1 hHeld ⊢
                   refine pure_ (i := 0) (N := some 70) (v := ?_) (a' := ?_) #[true, false, false, false, false, false, false, false, false, false, false, false, false] rfl rfl (any_of HT_.out (by kernel_rfl)) (fun _ _ _ h => h) (Or.inl ⟨by rfl, ?_⟩) ?_ ?_
                   rotate_left
                   ·intro w'
                    go_simp
                    with_reducible rfl
                   rotate_left
                   ·simp only [Act.put, List.setIfInBounds_toArray, List.set_cons_zero, List.set_cons_succ, i64_w, i32_w]
                    rfl
                   refine pure_ (i := 1) (N := some 71) (v := ?_) (a' := ?_) #[true, true, false, false, false, false, false, false, false, false, false, false, false] rfl rfl (any_of HT_.out (by kernel_rfl)) (fun _ _ _ h => h) (Or.inl ⟨by rfl, ?_⟩) ?_ ?_
                   rotate_left
                   ·intro w'
                    go_simp
                    with_reducible rfl
                   rotate_left
                   ·simp only [Act.put, List.setIfInBounds_toArray, List.set_cons_zero, List.set_cons_succ, i64_w, i32_w]
                    rfl
                   refine pure_ (i := 2) (N := some 72) (v := ?_) (a' := ?_) #[true, true, true, false, false, false, false, false, false, false, false, false, false] rfl rfl (any_of HT_.out (by kernel_rfl)) (fun _ _ _ h => h) (Or.inl ⟨by rfl, ?_⟩) ?_ ?_
                   rotate_left
                   ·intro w'
                    go_simp
                    with_reducible rfl
                   rotate_left
                   ·simp only [Act.put, List.setIfInBounds_toArray, List.set_cons_zero, List.set_cons_succ, i64_w, i32_w]
                    rfl
                   refine pure_ (i := 6) (N := some 76) (v := ?_) (a' := ?_) #[true, true, true, false, false, false, true, false, false, false, false, false, false] rfl rfl (any_of HT_.out (by kernel_rfl)) (fun _ _ _ h => h) (Or.inl ⟨by rfl, ?_⟩) ?_ ?_
                   rotate_left
                   ·intro w'
                    go_simp
                    with_reducible rfl
                   rotate_left
                   ·simp only [Act.put, List.setIfInBounds_toArray, List.set_cons_zero, List.set_cons_succ, i64_w, i32_w]
                    rfl
                   refine pure_ (i := 7) (N := some 77) (v := ?_) (a' := ?_) #[true, true, true, false, false, false, true, true, false, false, false, false, false] rfl rfl (any_of HT_.out (by kernel_rfl)) (fun _ _ _ h => h) (Or.inl ⟨by rfl, ?_⟩) ?_ ?_
                   rotate_left
                   ·intro w'
                    go_simp
                    with_reducible rfl
                   rotate_left
                   ·simp only [Act.put, List.setIfInBounds_toArray, List.set_cons_zero, List.set_cons_succ, i64_w, i32_w]
                    rfl
                   refine take_ (i := 3) (N := some 73) (v := ?_) (a' := ?_) #[true, true, true, true, false, false, true, true, false, false, false, false, false] rfl rfl (take_ofW HT_.out HW_.out (by kernel_rfl)) (fun _ _ _ h => h) (Or.inl ⟨by rfl, ?_⟩) hHeld ?_ ?_
                   rotate_left
                   ·rintro w' ⟨s0, s1, s2, s3, s4, s5, s6, s7, s8⟩
                    go_simp
                    with_reducible rfl
                   rotate_left
                   ·simp only [Act.put, List.setIfInBounds_toArray, List.set_cons_zero, List.set_cons_succ, i64_w, i32_w]
                    rfl
                   refine pure_ (i := 4) (N := some 74) (v := ?_) (a' := ?_) #[true, true, true, true, true, false, true, true, false, false, false, false, false] rfl rfl (any_of HT_.out (by kernel_rfl)) (fun _ _ _ h => h) (Or.inl ⟨by rfl, ?_⟩) ?_ ?_
                   rotate_left
                   ·intro w'
                    go_simp
                    with_reducible rfl
                   rotate_left
                   ·simp only [Act.put, List.setIfInBounds_toArray, List.set_cons_zero, List.set_cons_succ, i64_w, i32_w]
                    rfl
                   refine take_ (i := 5) (N := some 75) (v := ?_) (a' := ?_) #[true, true, true, true, true, true, true, true, false, false, false, false, false] rfl rfl (take_ofW HT_.out HW_.out (by kernel_rfl)) (fun _ _ _ h => h) (Or.inl ⟨by rfl, ?_⟩) hHeld ?_ ?_
                   rotate_left
                   ·rintro w' ⟨s0, s1, s2, s3, s4, s5, s6, s7, s8⟩
                    go_simp
                    with_reducible rfl
                   rotate_left
                   ·simp only [Act.put, List.setIfInBounds_toArray, List.set_cons_zero, List.set_cons_succ, i64_w, i32_w]
                    rfl
                   refine take_ (i := 8) (N := some 78) (v := ?_) (a' := ?_) #[true, true, true, true, true, true, true, true, true, false, false, false, false] rfl rfl (take_ofW HT_.out HW_.out (by kernel_rfl)) (fun _ _ _ h => h) (Or.inl ⟨by rfl, ?_⟩) hHeld ?_ ?_
                   rotate_left
                   ·rintro w' ⟨s0, s1, s2, s3, s4, s5, s6, s7, s8⟩
                    go_simp
                    with_reducible rfl
                   rotate_left
                   ·simp only [Act.put, List.setIfInBounds_toArray, List.set_cons_zero, List.set_cons_succ, i64_w, i32_w]
                    rfl
                   refine pure_ (i := 9) (N := some 79) (v := ?_) (a' := ?_) #[true, true, true, true, true, true, true, true, true, true, false, false, false] rfl rfl (any_of HT_.out (by kernel_rfl)) (fun _ _ _ h => h) (Or.inl ⟨by rfl, ?_⟩) ?_ ?_
                   rotate_left
                   ·intro w'
                    go_simp
                    with_reducible rfl
                   rotate_left
                   ·simp only [Act.put, List.setIfInBounds_toArray, List.set_cons_zero, List.set_cons_succ, i64_w, i32_w]
                    rfl
                   refine take_ (i := 10) (N := some 80) (v := ?_) (a' := ?_) #[true, true, true, true, true, true, true, true, true, true, true, false, false] rfl rfl (take_ofW HT_.out HW_.out (by kernel_rfl)) (fun _ _ _ h => h) (Or.inl ⟨by rfl, ?_⟩) hHeld ?_ ?_
                   rotate_left
                   ·rintro w' ⟨s0, s1, s2, s3, s4, s5, s6, s7, s8⟩
                    go_simp
                    with_reducible rfl
                   rotate_left
                   ·simp only [Act.put, List.setIfInBounds_toArray, List.set_cons_zero, List.set_cons_succ, i64_w, i32_w]
                    rfl
                   refine one_ (i := 11) (N := some 81) #[true, true, true, true, true, true, true, true, true, true, true, true, false] rfl rfl (one_of HT_.out (by kernel_rfl)) (by decide) (fun K hK => ?_)
                   refine goes_ Try.func114 (by kernel_rfl) rfl #[.int .i64 a0, .agg #[.int .u64 ((rd_T28 x11_2 ((rd_T149 l1 x38_2).f1)).f0), .int .u64 ((rd_T28 x11_2 ((rd_T149 l1 x38_2).f1)).f1)], .agg #[.int .u64 ((rd_T28 x11_2 ((rd_T149 l1 x38_2).f2)).f0), .int .u64 ((rd_T28 x11_2 ((rd_T149 l1 x38_2).f2)).f1)]] (by rfl) rfl rfl (by (try simp only [List.map_toArray, List.map_cons, List.map_nil]); first | done | rfl | (simp only [List.length_drop, List.length_take]; rfl)) ?_
                   with_reducible refine (tower_Mul.calls k2 a0 ((rd_T28 x11_2 ((rd_T149 l1 x38_2).f1)).f0) ((rd_T28 x11_2 ((rd_T149 l1 x38_2).f1)).f1) ((rd_T28 x11_2 ((rd_T149 l1 x38_2).f2)).f0) ((rd_T28 x11_2 ((rd_T149 l1 x38_2).f2)).f1) t383 t384 _ A75.out).mono ?_
                   rintro e w85 ⟨rfl, hb⟩
                   have HS5_ := (hb.cell (World.block_lt_of_cell? _ _ (hHeld.2.2.2.2.2.1))).trans (hHeld.2.2.2.2.2.1)
                   have HS6_ := (hb.cell (World.block_lt_of_cell? _ _ (hHeld.2.2.2.2.2.2.1))).trans (hHeld.2.2.2.2.2.2.1)
                   have HS7_ := (hb.cell (World.block_lt_of_cell? _ _ (hHeld.2.2.2.2.2.2.2.1))).trans (hHeld.2.2.2.2.2.2.2.1)
                   have HS8_ := (hb.cell (World.block_lt_of_cell? _ _ (hHeld.2.2.2.2.2.2.2.2))).trans (hHeld.2.2.2.2.2.2.2.2)
                   refine ⟨_, rfl, ?_⟩
                   have n0_ := Aside0.mk (Kd.R_below (by exact rF HO_11.out) hb)
                   have n1_ := Aside0.mk (blk_below (g := gb358) (o := .cells #[.int .u64 x359000_1, .int .u64 x359001_1] 28 (0, 0)) (by exact bF BK358.out) hb)
                   have n2_ := Aside0.mk (blk_below (g := gb365) (o := .cells #[.int .i64 ((rd_T149 l1 x38_2).f0), .int .i64 ((rd_T149 l1 x38_2).f1), .int .i64 ((rd_T149 l1 x38_2).f2), .int .u64 ((rd_T149 l1 x38_2).f3.f0), .int .u64 ((rd_T149 l1 x38_2).f3.f1)] 149 (0, 0)) (by exact bF BK365.out) hb)
                   have n3_ := Aside0.mk (blk_below (g := gb366) (o := .cells #[.int .u64 0, .int .u64 0] 28 (0, 0)) (by exact bF BK366.out) hb)
                   have n4_ := Aside0.mk (below_step (by repeat (first | (with_reducible first | exact HB.out | apply bA | apply bN | apply bD | refine bS ?_ GE358.out | refine bS ?_ GE365.out | refine bS ?_ GE366.out) | exact HB.out)) hb)
                   clear HO_11
                   clear BK358
                   clear BK365
                   clear BK366
                   clear HB
                   have HO_11 := n0_
                   have BK358 := n1_
                   have BK365 := n2_
                   have BK366 := n3_
                   have HB := n4_
                   clear n0_ n1_ n2_ n3_ n4_
                   (try clear hb)
                   (try clear hb2)
                   (try clear hk)
                   (try clear hi)
                   refine hK.out _ _ ⟨(blk_cell BK365.out 0).trans rfl, (blk_cell BK365.out 1).trans rfl, (blk_cell BK365.out 2).trans rfl, (blk_cell BK365.out 3).trans rfl, (blk_cell BK365.out 4).trans rfl, HS5_, HS6_, HS7_, HS8_⟩ (fun hHeld => ?_)
                   clear hK K
                   refine norm_ (a' := ?_) ?_ ?_
                   rotate_left
                   ·show Act.put _ (some 81) _ = _
                    simp only [Act.put, List.setIfInBounds_toArray, List.set_cons_zero, List.set_cons_succ, i64_w, i32_w]
                    rfl
                   refine one_ (i := 12) (N := none) #[true, true, true, true, true, true, true, true, true, true, true, true, true] rfl rfl (one_of HT_.out (by kernel_rfl)) (by decide) (fun K hK => ?_)
                   have hs86 : w85.cell? ⟨gb366, 0, none⟩ = some (.int .u64 0) := (blk_cell BK366.out 0).trans rfl
                   have hfs86 := blk_frozen BK366.out 0
                   have hns86_0 := NB358_366.out
                   have hns86_1 := NB365_366.out
                   have hms86_0 := NB366_358.out
                   have hms86_1 := NB366_365.out
                   have hs87 : w85.cell? ⟨gb366, 1, none⟩ = some (.int .u64 0) := (blk_cell BK366.out 1).trans rfl
                   have hfs87 := blk_frozen BK366.out 1
                   have hns87_0 := NB358_366.out
                   have hns87_1 := NB365_366.out
                   have hms87_0 := NB366_358.out
                   have hms87_1 := NB366_365.out
                   refine skip_ (w1 := ?_) (by rfl) rfl ?_ ?_
                   rotate_left
                   ·go_simp
                    rfl
                   refine hK.out _ _ ⟨((cell_far (p := ⟨gb366, _, none⟩) NB365_366.out _).trans (((cell_far (p := ⟨gb366, _, none⟩) NB365_366.out _).trans (hHeld.1)))), ((cell_far (p := ⟨gb366, _, none⟩) NB365_366.out _).trans (((cell_far (p := ⟨gb366, _, none⟩) NB365_366.out _).trans (hHeld.2.1)))), ((cell_far (p := ⟨gb366, _, none⟩) NB365_366.out _).trans (((cell_far (p := ⟨gb366, _, none⟩) NB365_366.out _).trans (hHeld.2.2.1)))), ((cell_far (p := ⟨gb366, _, none⟩) NB365_366.out _).trans (((cell_far (p := ⟨gb366, _, none⟩) NB365_366.out _).trans (hHeld.2.2.2.1)))), ((cell_far (p := ⟨gb366, _, none⟩) NB365_366.out _).trans (((cell_far (p := ⟨gb366, _, none⟩) NB365_366.out _).trans (hHeld.2.2.2.2.1)))), ((cell_far (p := ⟨gb366, _, none⟩) (by first | exact Kd.own_blk (Kd.R_away HO_11.out (fun _ hk => hk.2)) | (rw [add_block]; exact Kd.own_blk (Kd.R_away HO_11.out (fun _ hk => hk.2))) | (show (Addr.add _ _).block ≠ _; rw [add_block]; exact Kd.own_blk (Kd.R_away HO_11.out (fun _ hk => hk.2))) | (dsimp only; exact Kd.own_blk (Kd.R_away HO_11.out (fun _ hk => hk.2)))) _).trans (((cell_far (p := ⟨gb366, _, none⟩) (by first | exact Kd.own_blk (Kd.R_away HO_11.out (fun _ hk => hk.2)) | (rw [add_block]; exact Kd.own_blk (Kd.R_away HO_11.out (fun _ hk => hk.2))) | (show (Addr.add _ _).block ≠ _; rw [add_block]; exact Kd.own_blk (Kd.R_away HO_11.out (fun _ hk => hk.2))) | (dsimp only; exact Kd.own_blk (Kd.R_away HO_11.out (fun _ hk => hk.2)))) _).trans (hHeld.2.2.2.2.2.1)))), ((cell_far (p := ⟨gb366, _, none⟩) (by first | exact Kd.own_blk (Kd.R_away HO_11.out (fun _ hk => hk.2)) | (rw [add_block]; exact Kd.own_blk (Kd.R_away HO_11.out (fun _ hk => hk.2))) | (show (Addr.add _ _).block ≠ _; rw [add_block]; exact Kd.own_blk (Kd.R_away HO_11.out (fun _ hk => hk.2))) | (dsimp only; exact Kd.own_blk (Kd.R_away HO_11.out (fun _ hk => hk.2)))) _).trans (((cell_far (p := ⟨gb366, _, none⟩) (by first | exact Kd.own_blk (Kd.R_away HO_11.out (fun _ hk => hk.2)) | (rw [add_block]; exact Kd.own_blk (Kd.R_away HO_11.out (fun _ hk => hk.2))) | (show (Addr.add _ _).block ≠ _; rw [add_block]; exact Kd.own_blk (Kd.R_away HO_11.out (fun _ hk => hk.2))) | (dsimp only; exact Kd.own_blk (Kd.R_away HO_11.out (fun _ hk => hk.2)))) _).trans (hHeld.2.2.2.2.2.2.1)))), ((cell_far (p := ⟨gb366, _, none⟩) (by first | exact Kd.own_blk (Kd.R_away HO_11.out (fun _ hk => hk.2)) | (rw [add_block]; exact Kd.own_blk (Kd.R_away HO_11.out (fun _ hk => hk.2))) | (show (Addr.add _ _).block ≠ _; rw [add_block]; exact Kd.own_blk (Kd.R_away HO_11.out (fun _ hk => hk.2))) | (dsimp only; exact Kd.own_blk (Kd.R_away HO_11.out (fun _ hk => hk.2)))) _).trans (((cell_far (p := ⟨gb366, _, none⟩) (by first | exact Kd.own_blk (Kd.R_away HO_11.out (fun _ hk => hk.2)) | (rw [add_block]; exact Kd.own_blk (Kd.R_away HO_11.out (fun _ hk => hk.2))) | (show (Addr.add _ _).block ≠ _; rw [add_block]; exact Kd.own_blk (Kd.R_away HO_11.out (fun _ hk => hk.2))) | (dsimp only; exact Kd.own_blk (Kd.R_away HO_11.out (fun _ hk => hk.2)))) _).trans (hHeld.2.2.2.2.2.2.2.1)))), ((cell_far (p := ⟨gb366, _, none⟩) (by first | exact Kd.own_blk (Kd.R_away HO_11.out (fun _ hk => hk.2)) | (rw [add_block]; exact Kd.own_blk (Kd.R_away HO_11.out (fun _ hk => hk.2))) | (show (Addr.add _ _).block ≠ _; rw [add_block]; exact Kd.own_blk (Kd.R_away HO_11.out (fun _ hk => hk.2))) | (dsimp only; exact Kd.own_blk (Kd.R_away HO_11.out (fun _ hk => hk.2)))) _).trans (((cell_far (p := ⟨gb366, _, none⟩) (by first | exact Kd.own_blk (Kd.R_away HO_11.out (fun _ hk => hk.2)) | (rw [add_block]; exact Kd.own_blk (Kd.R_away HO_11.out (fun _ hk => hk.2))) | (show (Addr.add _ _).block ≠ _; rw [add_block]; exact Kd.own_blk (Kd.R_away HO_11.out (fun _ hk => hk.2))) | (dsimp only; exact Kd.own_blk (Kd.R_away HO_11.out (fun _ hk => hk.2)))) _).trans (hHeld.2.2.2.2.2.2.2.2))))⟩ (fun hHeld => ?_)
                   clear hK K
                   refine done_ (done_of HT_.out (by kernel_rfl)) ?_
                   have hnb88 := NB366_358.out
                   have hnc88 := NB358_366.out
                   have hcz89_0 : w85.cell? ⟨gb366, 0, none⟩ = some (.int .u64 0) := (blk_cell BK366.out 0).trans rfl
                   have hcz89_1 : w85.cell? ⟨gb366, 1, none⟩ = some (.int .u64 0) := (blk_cell BK366.out 1).trans rfl
                   have hfz89_0 := blk_frozen BK366.out 0
                   have hfz89_1 := blk_frozen BK366.out 1
                   try go_wp2_with (first | ((with_reducible refine gate_builtin (b := .append) (xs := #[.tmp 82, .tmp 84]) rfl ?_); at_builtin; refine Kd.R_append k28 (w0 := w) w.heap.size rfl (.tmp 82) (.tmp 84) 53 28 (.agg #[(.int .u64 0), (.int .u64 0)]) 16 rfl Try.underlying53 info28 rfl (by decide) (by omega) (.slice (some ad381) x11_2.length co84) x11_2 (⟨t383, t384⟩ : S28) [.int .u64 t383, .int .u64 t384] (fun k_ => k_ ≠ gb358 ∧ k_ ≠ gb366) (fun _ => False) rfl (by first | (go_simp; done) | (go_simp; rfl)) ?aP (fun _ hk => hk.elim) ?aF ?aO ?aB ?aS ?aL ?_; (case aP => exact k28_mkM _ _ _ (⟨t383, t384⟩ : S28)); (case aB => exact (by repeat (first | (with_reducible first | exact HB.out | apply bA | apply bN | apply bD | refine bS ?_ GE358.out | refine bS ?_ GE365.out | refine bS ?_ GE366.out) | exact HB.out))); (case aF => exact (fun k_ hk => ⟨Kd.freshB (g := gb358) (o := .cells #[.int .u64 x359000_1, .int .u64 x359001_1] 28 (0, 0)) (by (with_reducible repeat (first | refine blk_drewN ?_ _ | refine blk_drew ?_ | refine blk_alloc ?_ _)); refine blk_far ?_ NB358_366.out _; (with_reducible repeat (first | refine blk_drewN ?_ _ | refine blk_drew ?_ | refine blk_alloc ?_ _)); refine blk_far ?_ NB358_366.out _; exact bF BK358.out) k_ hk, Kd.freshB (g := gb366) (o := .cells #[.int .u64 t383, .int .u64 t384] 28 (0, 0)) (by (with_reducible repeat (first | refine blk_drewN ?_ _ | refine blk_drew ?_ | refine blk_alloc ?_ _)); refine blk_put (cs := #[.int .u64 t383, .int .u64 0]) ?_ 1 _ rfl; (with_reducible repeat (first | refine blk_drewN ?_ _ | refine blk_drew ?_ | refine blk_alloc ?_ _)); refine blk_put (cs := #[.int .u64 0, .int .u64 0]) ?_ 0 _ rfl; exact bF BK366.out) k_ hk⟩)); (case aO => exact (by (with_reducible repeat (first | apply Kd.R_alloc | apply Kd.R_drewN | apply Kd.R_drew)); exact Kd.R_mono (Kd.R_far (p := ⟨gb366, 1, none⟩) (Kd.R_far (p := ⟨gb366, 0, none⟩) (Kd.R_mono HO_11.out (fun k_ hk => (⟨hk, hk.2⟩ : _ ∧ k_ ≠ gb366))) (fun _ hk => hk.2) (.int .u64 t383)) (fun _ hk => hk.2) (.int .u64 t384)) (fun _ hk => ⟨hk.1.1, hk.1.2⟩))); (case aS => exact (below_size (by repeat (first | (with_reducible first | exact HB.out | apply bA | apply bN | apply bD | refine bS ?_ GE358.out | refine bS ?_ GE365.out | refine bS ?_ GE366.out) | exact HB.out)))); (case aL => have := LMc76.out; omega); intro v386 w90 ho hb hg hat; rw [← Ny385.out] at ho; have n0_ := Aside0.mk (blk_grown (g := gb358) (o := .cells #[.int .u64 x359000_1, .int .u64 x359001_1] 28 (0, 0)) (by (with_reducible repeat (first | refine blk_drewN ?_ _ | refine blk_drew ?_ | refine blk_alloc ?_ _)); refine blk_far ?_ NB358_366.out _; (with_reducible repeat (first | refine blk_drewN ?_ _ | refine blk_drew ?_ | refine blk_alloc ?_ _)); refine blk_far ?_ NB358_366.out _; exact bF BK358.out) hg (Kd.R_away HO_11.out (fun _ hk => hk.1))); have n1_ := Aside0.mk (blk_grown (g := gb365) (o := .cells #[.int .i64 ((rd_T149 l1 x38_2).f0), .int .i64 ((rd_T149 l1 x38_2).f1), .int .i64 ((rd_T149 l1 x38_2).f2), .int .u64 ((rd_T149 l1 x38_2).f3.f0), .int .u64 ((rd_T149 l1 x38_2).f3.f1)] 149 (0, 0)) (by (with_reducible repeat (first | refine blk_drewN ?_ _ | refine blk_drew ?_ | refine blk_alloc ?_ _)); refine blk_far ?_ NB365_366.out _; (with_reducible repeat (first | refine blk_drewN ?_ _ | refine blk_drew ?_ | refine blk_alloc ?_ _)); refine blk_far ?_ NB365_366.out _; exact bF BK365.out) hg (Kd.R_ne HO_11.out BK365.out (by decide))); have n2_ := Aside0.mk (blk_grown (g := gb366) (o := .cells #[.int .u64 t383, .int .u64 t384] 28 (0, 0)) (by (with_reducible repeat (first | refine blk_drewN ?_ _ | refine blk_drew ?_ | refine blk_alloc ?_ _)); refine blk_put (cs := #[.int .u64 t383, .int .u64 0]) ?_ 1 _ rfl; (with_reducible repeat (first | refine blk_drewN ?_ _ | refine blk_drew ?_ | refine blk_alloc ?_ _)); refine blk_put (cs := #[.int .u64 0, .int .u64 0]) ?_ 0 _ rfl; exact bF BK366.out) hg (Kd.R_away HO_11.out (fun _ hk => hk.2))); have n3_ := Aside0.mk (hb); have n4_ := Aside0.mk (ho); clear BK358; clear BK365; clear BK366; clear HB; clear HO_11; have BK358 := n0_; have BK365 := n1_; have BK366 := n2_; have HB := n3_; have HO387 := n4_; clear n0_ n1_ n2_ n3_ n4_; clear ho hb hg hat))
                   go_roundg k2
                   case measure => have := HK1.out; have := HK2.out; omega
                   case rel => exact ⟨(y385), (wrap64 (x38_2 + 1)), (by first | rfl | (simp; done) | (simp [*]; done)), H', ⟨by have := HK1.out; have := HK2.out; omega⟩, ⟨by (with_reducible repeat (first | apply Kd.R_alloc | apply Kd.R_drewN | apply Kd.R_drew)); exact Kd.R_mono HO387.out (fun _ hk => hk.1)⟩, ⟨by exact bF BK358.out⟩, ⟨by repeat (first | (with_reducible first | exact HB.out | apply bA | apply bN | apply bD | refine bS ?_ GE358.out | refine bS ?_ GE365.out | refine bS ?_ GE366.out) | exact HB.out)⟩⟩
                  ·rw [if_neg c76] at H
                   exact absurd H (by simp)
                 ·rw [if_neg c74] at H
                  exact absurd H (by simp)
                ·rw [if_neg c73] at H
                 exact absurd H (by simp)
               ·rw [if_neg c72] at H
                exact absurd H (by simp)
              ·rw [if_neg c71] at H
               exact absurd H (by simp)
             ·rw [if_neg c70] at H
              have c70b0 : (((rd_T149 l1 x38_2).f0) == 4) = false := beq_eq_false_iff_ne.mpr c70
              have c70b1 : (((rd_T149 l1 x38_2).f0) != 4) = true := bne_iff_ne.mpr c70
              by_cases c91 : x11_2.length < 8796093022208
              ·rw [if_pos c91] at H
               have LMc91 := Aside0.mk c91
               clear c91
               obtain ⟨y388, hy388⟩ : ∃ y_ : List (S28), y_ = (x11_2 ++ [(⟨0, 0⟩ : S28)]) := ⟨_, rfl⟩
               replace H : (expr_Eval.l1 k2 a0 l2 y388 l1 (l1.length : Int) (wrap64 (x38_2 + 1))) = some (r1, r2, r3) := by first | (rw [hy388]; with_reducible exact H) | (have H2_ := (Option.bind_some _ _).symm.trans H; rw [hy388]; with_reducible exact H2_) | (have H2_ := (Option.bind_some _ _).symm.trans H; with_reducible exact H2_) | with_reducible exact H | (rw [hy388]; exact H) | exact H
               have Ny388 := Aside0.mk hy388
               clear hy388
               have H' := Aside0.mk H
               clear H
               have p364 : 0 ≤ (x38_2 : Int) := of_decide_eq_true (by first | (with_reducible assumption) | assumption)
               have q364 : x38_2 < (l1.length : Int) := of_decide_eq_true (by first | (with_reducible assumption) | assumption)
               obtain ⟨ad364, e364, hx364_0, hx364_1, hx364_2, hx364_3, hx364_4⟩ := at_T149 HR1.out x38_2 p364 q364
               cases e364
               replace hx364_0 := (HB.out.cell (World.block_lt_of_cell? w _ hx364_0)).trans hx364_0
               replace hx364_1 := (HB.out.cell (World.block_lt_of_cell? w _ hx364_1)).trans hx364_1
               replace hx364_2 := (HB.out.cell (World.block_lt_of_cell? w _ hx364_2)).trans hx364_2
               replace hx364_3 := (HB.out.cell (World.block_lt_of_cell? w _ hx364_3)).trans hx364_3
               replace hx364_4 := (HB.out.cell (World.block_lt_of_cell? w _ hx364_4)).trans hx364_4
               replace p364 := eq_true p364
               replace q364 := eq_true q364
               go_wp2_with (first | ((with_reducible refine gate_dst (N := 13) rfl ?_); refine box_event ?hg (N := 13) ?hd (cs := #[.int .i64 0, .int .i64 0, .int .i64 0, .int .u64 0, .int .u64 0]) (t := 149) ?hr ?_; (case hd => rfl); (case hg => rfl); (case hr => first | (go_simp; done) | (go_simp; rfl)); intro gb365 hg w92 hbox hb; have n0_ := Aside0.mk (Kd.R_below (by exact rF HO_11.out) hb); have n1_ := Aside0.mk (blk_below (g := gb358) (o := .cells #[.int .u64 x359000_1, .int .u64 x359001_1] 28 (0, 0)) (by exact bF BK358.out) hb); have n2_ := Aside0.mk (below_step (by repeat (first | (with_reducible first | exact HB.out | apply bA | apply bN | apply bD | refine bS ?_ GE358.out) | exact HB.out)) hb); have n3_ := Aside0.mk (hbox); have n4_ := Aside0.mk ((by rw [hg]; exact (below_size (by repeat (first | (with_reducible first | exact HB.out | apply bA | apply bN | apply bD | refine bS ?_ GE358.out) | exact HB.out))) : w.heap.size ≤ gb365)); have n5_ := Aside0.mk ((by rw [hg]; exact (below_size (by repeat (first | (with_reducible first | exact HB.out | apply bA | apply bN | apply bD | refine bS ?_ GE358.out) | exact HB.out))) : w.heap.size ≤ gb365)); have n6_ := Aside0.mk ((by rw [hg]; exact Nat.ne_of_lt (blk_lt (g := gb358) (o := .cells #[.int .u64 x359000_1, .int .u64 x359001_1] 28 (0, 0)) (by exact bF BK358.out)) : gb358 ≠ gb365)); have n7_ := Aside0.mk ((by rw [hg]; exact Nat.ne_of_gt (blk_lt (g := gb358) (o := .cells #[.int .u64 x359000_1, .int .u64 x359001_1] 28 (0, 0)) (by exact bF BK358.out)) : gb365 ≠ gb358)); clear HO_11; clear BK358; clear HB; have HO_11 := n0_; have BK358 := n1_; have HB := n2_; have BK365 := n3_; have GW365 := n4_; have GE365 := n5_; have NB358_365 := n6_; have NB365_358 := n7_; clear n0_ n1_ n2_ n3_ n4_ n5_ n6_ n7_; clear hb hbox hg; have hnb93 := NB365_358.out; have hnc93 := NB358_365.out; have hcz94_0 : w92.cell? ⟨gb365, 0, none⟩ = some (.int .i64 0) := (blk_cell BK365.out 0).trans rfl; have hcz94_1 : w92.cell? ⟨gb365, 1, none⟩ = some (.int .i64 0) := (blk_cell BK365.out 1).trans rfl; have hcz94_2 : w92.cell? ⟨gb365, 2, none⟩ = some (.int .i64 0) := (blk_cell BK365.out 2).trans rfl; have hcz94_3 : w92.cell? ⟨gb365, 3, none⟩ = some (.int .u64 0) := (blk_cell BK365.out 3).trans rfl; have hcz94_4 : w92.cell? ⟨gb365, 4, none⟩ = some (.int .u64 0) := (blk_cell BK365.out 4).trans rfl; have hfz94_0 := blk_frozen BK365.out 0; have hfz94_1 := blk_frozen BK365.out 1; have hfz94_2 := blk_frozen BK365.out 2; have hfz94_3 := blk_frozen BK365.out 3; have hfz94_4 := blk_frozen BK365.out 4) | ((with_reducible refine gate_dst (N := 14) rfl ?_); refine box_event ?hg (N := 14) ?hd (cs := #[.int .u64 0, .int .u64 0]) (t := 28) ?hr ?_; (case hd => rfl); (case hg => rfl); (case hr => first | (go_simp; done) | (go_simp; rfl)); intro gb366 hg w95 hbox hb; have n0_ := Aside0.mk (Kd.R_below (Kd.R_elderB (by (with_reducible repeat (first | apply Kd.R_alloc | apply Kd.R_drewN | apply Kd.R_drew)); exact (Kd.R_mono (Kd.R_far (p := ⟨gb365, 4, none⟩) (Kd.R_far (p := ⟨gb365, 3, none⟩) (Kd.R_far (p := ⟨gb365, 2, none⟩) (Kd.R_far (p := ⟨gb365, 1, none⟩) (Kd.R_far (p := ⟨gb365, 0, none⟩) (Kd.R_types HO_11.out BK365.out (by decide)) (fun _ hk => hk.2) (.int .i64 ((rd_T149 l1 x38_2).f0))) (fun _ hk => hk.2) (.int .i64 ((rd_T149 l1 x38_2).f1))) (fun _ hk => hk.2) (.int .i64 ((rd_T149 l1 x38_2).f2))) (fun _ hk => hk.2) (.int .u64 ((rd_T149 l1 x38_2).f3.f0))) (fun _ hk => hk.2) (.int .u64 ((rd_T149 l1 x38_2).f3.f1))) (fun _ h_ => h_.1))) gb366 (Nat.le_of_eq hg.symm)) hb); have n1_ := Aside0.mk (blk_below (g := gb358) (o := .cells #[.int .u64 x359000_1, .int .u64 x359001_1] 28 (0, 0)) (by (with_reducible repeat (first | refine blk_drewN ?_ _ | refine blk_drew ?_ | refine blk_alloc ?_ _)); refine blk_far ?_ NB358_365.out _; (with_reducible repeat (first | refine blk_drewN ?_ _ | refine blk_drew ?_ | refine blk_alloc ?_ _)); refine blk_far ?_ NB358_365.out _; (with_reducible repeat (first | refine blk_drewN ?_ _ | refine blk_drew ?_ | refine blk_alloc ?_ _)); refine blk_far ?_ NB358_365.out _; (with_reducible repeat (first | refine blk_drewN ?_ _ | refine blk_drew ?_ | refine blk_alloc ?_ _)); refine blk_far ?_ NB358_365.out _; (with_reducible repeat (first | refine blk_drewN ?_ _ | refine blk_drew ?_ | refine blk_alloc ?_ _)); refine blk_far ?_ NB358_365.out _; exact bF BK358.out) hb); have n2_ := Aside0.mk (blk_below (g := gb365) (o := .cells #[.int .i64 ((rd_T149 l1 x38_2).f0), .int .i64 ((rd_T149 l1 x38_2).f1), .int .i64 ((rd_T149 l1 x38_2).f2), .int .u64 ((rd_T149 l1 x38_2).f3.f0), .int .u64 ((rd_T149 l1 x38_2).f3.f1)] 149 (0, 0)) (by (with_reducible repeat (first | refine blk_drewN ?_ _ | refine blk_drew ?_ | refine blk_alloc ?_ _)); refine blk_put (cs := #[.int .i64 ((rd_T149 l1 x38_2).f0), .int .i64 ((rd_T149 l1 x38_2).f1), .int .i64 ((rd_T149 l1 x38_2).f2), .int .u64 ((rd_T149 l1 x38_2).f3.f0), .int .u64 0]) ?_ 4 _ rfl; (with_reducible repeat (first | refine blk_drewN ?_ _ | refine blk_drew ?_ | refine blk_alloc ?_ _)); refine blk_put (cs := #[.int .i64 ((rd_T149 l1 x38_2).f0), .int .i64 ((rd_T149 l1 x38_2).f1), .int .i64 ((rd_T149 l1 x38_2).f2), .int .u64 0, .int .u64 0]) ?_ 3 _ rfl; (with_reducible repeat (first | refine blk_drewN ?_ _ | refine blk_drew ?_ | refine blk_alloc ?_ _)); refine blk_put (cs := #[.int .i64 ((rd_T149 l1 x38_2).f0), .int .i64 ((rd_T149 l1 x38_2).f1), .int .i64 0, .int .u64 0, .int .u64 0]) ?_ 2 _ rfl; (with_reducible repeat (first | refine blk_drewN ?_ _ | refine blk_drew ?_ | refine blk_alloc ?_ _)); refine blk_put (cs := #[.int .i64 ((rd_T149 l1 x38_2).f0), .int .i64 0, .int .i64 0, .int .u64 0, .int .u64 0]) ?_ 1 _ rfl; (with_reducible repeat (first | refine blk_drewN ?_ _ | refine blk_drew ?_ | refine blk_alloc ?_ _)); refine blk_put (cs := #[.int .i64 0, .int .i64 0, .int .i64 0, .int .u64 0, .int .u64 0]) ?_ 0 _ rfl; exact bF BK365.out) hb); have n3_ := Aside0.mk (below_step (by repeat (first | (with_reducible first | exact HB.out | apply bA | apply bN | apply bD | refine bS ?_ GE358.out | refine bS ?_ GE365.out) | exact HB.out)) hb); have n4_ := Aside0.mk (hbox); have n5_ := Aside0.mk ((by rw [hg]; exact (below_size (by repeat (first | (with_reducible first | exact HB.out | apply bA | apply bN | apply bD | refine bS ?_ GE358.out | refine bS ?_ GE365.out) | exact HB.out))) : w.heap.size ≤ gb366)); have n6_ := Aside0.mk ((by rw [hg]; exact (below_size (by repeat (first | (with_reducible first | exact HB.out | apply bA | apply bN | apply bD | refine bS ?_ GE358.out | refine bS ?_ GE365.out) | exact HB.out))) : w.heap.size ≤ gb366)); have n7_ := Aside0.mk ((by rw [hg]; exact Nat.ne_of_lt (blk_lt (g := gb358) (o := .cells #[.int .u64 x359000_1, .int .u64 x359001_1] 28 (0, 0)) (by (with_reducible repeat (first | refine blk_drewN ?_ _ | refine blk_drew ?_ | refine blk_alloc ?_ _)); refine blk_far ?_ NB358_365.out _; (with_reducible repeat (first | refine blk_drewN ?_ _ | refine blk_drew ?_ | refine blk_alloc ?_ _)); refine blk_far ?_ NB358_365.out _; (with_reducible repeat (first | refine blk_drewN ?_ _ | refine blk_drew ?_ | refine blk_alloc ?_ _)); refine blk_far ?_ NB358_365.out _; (with_reducible repeat (first | refine blk_drewN ?_ _ | refine blk_drew ?_ | refine blk_alloc ?_ _)); refine blk_far ?_ NB358_365.out _; (with_reducible repeat (first | refine blk_drewN ?_ _ | refine blk_drew ?_ | refine blk_alloc ?_ _)); refine blk_far ?_ NB358_365.out _; exact bF BK358.out)) : gb358 ≠ gb366)); have n8_ := Aside0.mk ((by rw [hg]; exact Nat.ne_of_gt (blk_lt (g := gb358) (o := .cells #[.int .u64 x359000_1, .int .u64 x359001_1] 28 (0, 0)) (by (with_reducible repeat (first | refine blk_drewN ?_ _ | refine blk_drew ?_ | refine blk_alloc ?_ _)); refine blk_far ?_ NB358_365.out _; (with_reducible repeat (first | refine blk_drewN ?_ _ | refine blk_drew ?_ | refine blk_alloc ?_ _)); refine blk_far ?_ NB358_365.out _; (with_reducible repeat (first | refine blk_drewN ?_ _ | refine blk_drew ?_ | refine blk_alloc ?_ _)); refine blk_far ?_ NB358_365.out _; (with_reducible repeat (first | refine blk_drewN ?_ _ | refine blk_drew ?_ | refine blk_alloc ?_ _)); refine blk_far ?_ NB358_365.out _; (with_reducible repeat (first | refine blk_drewN ?_ _ | refine blk_drew ?_ | refine blk_alloc ?_ _)); refine blk_far ?_ NB358_365.out _; exact bF BK358.out)) : gb366 ≠ gb358)); have n9_ := Aside0.mk ((by rw [hg]; exact Nat.ne_of_lt (blk_lt (g := gb365) (o := .cells #[.int .i64 ((rd_T149 l1 x38_2).f0), .int .i64 ((rd_T149 l1 x38_2).f1), .int .i64 ((rd_T149 l1 x38_2).f2), .int .u64 ((rd_T149 l1 x38_2).f3.f0), .int .u64 ((rd_T149 l1 x38_2).f3.f1)] 149 (0, 0)) (by (with_reducible repeat (first | refine blk_drewN ?_ _ | refine blk_drew ?_ | refine blk_alloc ?_ _)); refine blk_put (cs := #[.int .i64 ((rd_T149 l1 x38_2).f0), .int .i64 ((rd_T149 l1 x38_2).f1), .int .i64 ((rd_T149 l1 x38_2).f2), .int .u64 ((rd_T149 l1 x38_2).f3.f0), .int .u64 0]) ?_ 4 _ rfl; (with_reducible repeat (first | refine blk_drewN ?_ _ | refine blk_drew ?_ | refine blk_alloc ?_ _)); refine blk_put (cs := #[.int .i64 ((rd_T149 l1 x38_2).f0), .int .i64 ((rd_T149 l1 x38_2).f1), .int .i64 ((rd_T149 l1 x38_2).f2), .int .u64 0, .int .u64 0]) ?_ 3 _ rfl; (with_reducible repeat (first | refine blk_drewN ?_ _ | refine blk_drew ?_ | refine blk_alloc ?_ _)); refine blk_put (cs := #[.int .i64 ((rd_T149 l1 x38_2).f0), .int .i64 ((rd_T149 l1 x38_2).f1), .int .i64 0, .int .u64 0, .int .u64 0]) ?_ 2 _ rfl; (with_reducible repeat (first | refine blk_drewN ?_ _ | refine blk_drew ?_ | refine blk_alloc ?_ _)); refine blk_put (cs := #[.int .i64 ((rd_T149 l1 x38_2).f0), .int .i64 0, .int .i64 0, .int .u64 0, .int .u64 0]) ?_ 1 _ rfl; (with_reducible repeat (first | refine blk_drewN ?_ _ | refine blk_drew ?_ | refine blk_alloc ?_ _)); refine blk_put (cs := #[.int .i64 0, .int .i64 0, .int .i64 0, .int .u64 0, .int .u64 0]) ?_ 0 _ rfl; exact bF BK365.out)) : gb365 ≠ gb366)); have n10_ := Aside0.mk ((by rw [hg]; exact Nat.ne_of_gt (blk_lt (g := gb365) (o := .cells #[.int .i64 ((rd_T149 l1 x38_2).f0), .int .i64 ((rd_T149 l1 x38_2).f1), .int .i64 ((rd_T149 l1 x38_2).f2), .int .u64 ((rd_T149 l1 x38_2).f3.f0), .int .u64 ((rd_T149 l1 x38_2).f3.f1)] 149 (0, 0)) (by (with_reducible repeat (first | refine blk_drewN ?_ _ | refine blk_drew ?_ | refine blk_alloc ?_ _)); refine blk_put (cs := #[.int .i64 ((rd_T149 l1 x38_2).f0), .int .i64 ((rd_T149 l1 x38_2).f1), .int .i64 ((rd_T149 l1 x38_2).f2), .int .u64 ((rd_T149 l1 x38_2).f3.f0), .int .u64 0]) ?_ 4 _ rfl; (with_reducible repeat (first | refine blk_drewN ?_ _ | refine blk_drew ?_ | refine blk_alloc ?_ _)); refine blk_put (cs := #[.int .i64 ((rd_T149 l1 x38_2).f0), .int .i64 ((rd_T149 l1 x38_2).f1), .int .i64 ((rd_T149 l1 x38_2).f2), .int .u64 0, .int .u64 0]) ?_ 3 _ rfl; (with_reducible repeat (first | refine blk_drewN ?_ _ | refine blk_drew ?_ | refine blk_alloc ?_ _)); refine blk_put (cs := #[.int .i64 ((rd_T149 l1 x38_2).f0), .int .i64 ((rd_T149 l1 x38_2).f1), .int .i64 0, .int .u64 0, .int .u64 0]) ?_ 2 _ rfl; (with_reducible repeat (first | refine blk_drewN ?_ _ | refine blk_drew ?_ | refine blk_alloc ?_ _)); refine blk_put (cs := #[.int .i64 ((rd_T149 l1 x38_2).f0), .int .i64 0, .int .i64 0, .int .u64 0, .int .u64 0]) ?_ 1 _ rfl; (with_reducible repeat (first | refine blk_drewN ?_ _ | refine blk_drew ?_ | refine blk_alloc ?_ _)); refine blk_put (cs := #[.int .i64 0, .int .i64 0, .int .i64 0, .int .u64 0, .int .u64 0]) ?_ 0 _ rfl; exact bF BK365.out)) : gb366 ≠ gb365)); clear HO_11; clear BK358; clear BK365; clear HB; have HO_11 := n0_; have BK358 := n1_; have BK365 := n2_; have HB := n3_; have BK366 := n4_; have GW366 := n5_; have GE366 := n6_; have NB358_366 := n7_; have NB366_358 := n8_; have NB365_366 := n9_; have NB366_365 := n10_; clear n0_ n1_ n2_ n3_ n4_ n5_ n6_ n7_ n8_ n9_ n10_; clear hb hbox hg; have hnb96 := NB365_366.out; have hnc96 := NB366_365.out; have hcz97_0 : w95.cell? ⟨gb365, 0, none⟩ = some (.int .i64 ((rd_T149 l1 x38_2).f0)) := (blk_cell BK365.out 0).trans rfl; have hcz97_1 : w95.cell? ⟨gb365, 1, none⟩ = some (.int .i64 ((rd_T149 l1 x38_2).f1)) := (blk_cell BK365.out 1).trans rfl; have hcz97_2 : w95.cell? ⟨gb365, 2, none⟩ = some (.int .i64 ((rd_T149 l1 x38_2).f2)) := (blk_cell BK365.out 2).trans rfl; have hcz97_3 : w95.cell? ⟨gb365, 3, none⟩ = some (.int .u64 ((rd_T149 l1 x38_2).f3.f0)) := (blk_cell BK365.out 3).trans rfl; have hcz97_4 : w95.cell? ⟨gb365, 4, none⟩ = some (.int .u64 ((rd_T149 l1 x38_2).f3.f1)) := (blk_cell BK365.out 4).trans rfl; have hfz97_0 := blk_frozen BK365.out 0; have hfz97_1 := blk_frozen BK365.out 1; have hfz97_2 := blk_frozen BK365.out 2; have hfz97_3 := blk_frozen BK365.out 3; have hfz97_4 := blk_frozen BK365.out 4; have hnb98 := NB366_358.out; have hnc98 := NB358_366.out; have hcz99_0 : w95.cell? ⟨gb366, 0, none⟩ = some (.int .u64 0) := (blk_cell BK366.out 0).trans rfl; have hcz99_1 : w95.cell? ⟨gb366, 1, none⟩ = some (.int .u64 0) := (blk_cell BK366.out 1).trans rfl; have hfz99_0 := blk_frozen BK366.out 0; have hfz99_1 := blk_frozen BK366.out 1) | ((with_reducible refine gate_builtin (b := .append) (xs := #[.tmp 82, .tmp 84]) rfl ?_); at_builtin; refine Kd.R_append k28 (w0 := w) w.heap.size rfl (.tmp 82) (.tmp 84) 53 28 (.agg #[(.int .u64 0), (.int .u64 0)]) 16 rfl Try.underlying53 info28 rfl (by decide) (by omega) u11 x11_2 (⟨0, 0⟩ : S28) [.int .u64 0, .int .u64 0] (fun k_ => k_ ≠ gb358 ∧ k_ ≠ gb366) (fun _ => False) rfl rfl ?aP (fun _ hk => hk.elim) ?aF ?aO ?aB ?aS ?aL ?_; (case aP => exact k28_mkM _ _ _ (⟨0, 0⟩ : S28)); (case aB => exact (by repeat (first | (with_reducible first | exact HB.out | apply bA | apply bN | apply bD | refine bS ?_ GE358.out | refine bS ?_ GE365.out | refine bS ?_ GE366.out) | exact HB.out))); (case aF => exact (fun k_ hk => ⟨Kd.freshB (g := gb358) (o := .cells #[.int .u64 x359000_1, .int .u64 x359001_1] 28 (0, 0)) (by exact bF BK358.out) k_ hk, Kd.freshB (g := gb366) (o := .cells #[.int .u64 0, .int .u64 0] 28 (0, 0)) (by exact bF BK366.out) k_ hk⟩)); (case aO => exact (by exact rF HO_11.out)); (case aS => exact (below_size (by repeat (first | (with_reducible first | exact HB.out | apply bA | apply bN | apply bD | refine bS ?_ GE358.out | refine bS ?_ GE365.out | refine bS ?_ GE366.out) | exact HB.out)))); (case aL => have := LMc91.out; omega); intro v389 w100 ho hb hg hat; rw [← Ny388.out] at ho; have n0_ := Aside0.mk (blk_grown (g := gb358) (o := .cells #[.int .u64 x359000_1, .int .u64 x359001_1] 28 (0, 0)) (by exact bF BK358.out) hg (Kd.R_away HO_11.out (fun _ hk => hk.1))); have n1_ := Aside0.mk (blk_grown (g := gb365) (o := .cells #[.int .i64 ((rd_T149 l1 x38_2).f0), .int .i64 ((rd_T149 l1 x38_2).f1), .int .i64 ((rd_T149 l1 x38_2).f2), .int .u64 ((rd_T149 l1 x38_2).f3.f0), .int .u64 ((rd_T149 l1 x38_2).f3.f1)] 149 (0, 0)) (by exact bF BK365.out) hg (Kd.R_ne HO_11.out BK365.out (by decide))); have n2_ := Aside0.mk (blk_grown (g := gb366) (o := .cells #[.int .u64 0, .int .u64 0] 28 (0, 0)) (by exact bF BK366.out) hg (Kd.R_away HO_11.out (fun _ hk => hk.2))); have n3_ := Aside0.mk (hb); have n4_ := Aside0.mk (ho); clear BK358; clear BK365; clear BK366; clear HB; clear HO_11; have BK358 := n0_; have BK365 := n1_; have BK366 := n2_; have HB := n3_; have HO390 := n4_; clear n0_ n1_ n2_ n3_ n4_; clear ho hb hg hat))
               go_roundg k2
               case measure => have := HK1.out; have := HK2.out; omega
               case rel => exact ⟨(y388), (wrap64 (x38_2 + 1)), (by first | rfl | (simp; done) | (simp [*]; done)), H', ⟨by have := HK1.out; have := HK2.out; omega⟩, ⟨by (with_reducible repeat (first | apply Kd.R_alloc | apply Kd.R_drewN | apply Kd.R_drew)); exact Kd.R_mono HO390.out (fun _ hk => hk.1)⟩, ⟨by exact bF BK358.out⟩, ⟨by repeat (first | (with_reducible first | exact HB.out | apply bA | apply bN | apply bD | refine bS ?_ GE358.out | refine bS ?_ GE365.out | refine bS ?_ GE366.out) | exact HB.out)⟩⟩
              ·rw [if_neg c91] at H
               exact absurd H (by simp)
         ·rw [if_neg c24] at H
          exact absurd H (by simp)
        ·rw [if_neg c23] at H
         exact absurd H (by simp)
       ·rw [if_neg c22] at H
        have c22b0 : decide (x38_2 < (l1.length : Int)) = false := decide_eq_false c22
        clear c22
        obtain ⟨ji101, hji101⟩ : ∃ j_ : Int, (wrap64 ((x11_2.length : Int) - 1)) = j_ := ⟨_, rfl⟩
        replace H : (if 0 ≤ (ji101) then (if (ji101) < (x11_2.length : Int) then (some ((rd_T28 x11_2 (ji101)).f0, (rd_T28 x11_2 (ji101)).f1, 0)) else (none)) else (none)) = some (r1, r2, r3) := by first | (rw [hji101] at H; exact H) | (simp only [hji101] at H ⊢; exact H)
        have hji101w : (IntKind.i64.wrap ((x11_2.length : Int) - 1)) = ji101 := (i64_w _).trans hji101
        by_cases c102 : 0 ≤ (ji101)
        ·rw [if_pos c102] at H
         have c102b0 : decide (0 ≤ (ji101)) = true := decide_eq_true c102
         clear c102
         by_cases c103 : (ji101) < (x11_2.length : Int)
         ·rw [if_pos c103] at H
          have c103b0 : decide ((ji101) < (x11_2.length : Int)) = true := decide_eq_true c103
          clear c103
          simp only [Option.some.injEq, Prod.mk.injEq] at H
          obtain ⟨rfl, rfl, rfl⟩ := H
          obtain ⟨Ao104, co104, eo104⟩ := Kd.R_slice HO_11.out
          subst eo104
          have p363 : 0 ≤ ((ji101) : Int) := of_decide_eq_true (by first | (with_reducible assumption) | assumption)
          have q363 : (ji101) < (x11_2.length : Int) := of_decide_eq_true (by first | (with_reducible assumption) | assumption)
          obtain ⟨ad363, e363, hx363_0, hx363_1⟩ := at_T28 (Kd.R_reads' HO_11.out).2.2 (ji101) p363 q363
          cases e363
          replace p363 := eq_true p363
          replace q363 := eq_true q363
          have hcz105_0 : wr.cell? ⟨gb358, 0, none⟩ = some (.int .u64 x359000_1) := (blk_cell BK358.out 0).trans rfl
          have hcz105_1 : wr.cell? ⟨gb358, 1, none⟩ = some (.int .u64 x359001_1) := (blk_cell BK358.out 1).trans rfl
          have hfz105_0 := blk_frozen BK358.out 0
          have hfz105_1 := blk_frozen BK358.out 1
          go_wp2
          refine bodyPost_ret (results_ct rfl _ _ gb358 28 #[.int .u64 ((rd_T28 x11_2 (ji101)).f0), .int .u64 ((rd_T28 x11_2 (ji101)).f1)] (0, 0) _ rfl (by (with_reducible repeat (first | refine blk_drewN ?_ _ | refine blk_drew ?_ | refine blk_alloc ?_ _)); refine blk_put (cs := #[.int .u64 ((rd_T28 x11_2 (ji101)).f0), .int .u64 x359001_1]) ?_ 1 _ rfl; (with_reducible repeat (first | refine blk_drewN ?_ _ | refine blk_drew ?_ | refine blk_alloc ?_ _)); refine blk_put (cs := #[.int .u64 x359000_1, .int .u64 x359001_1]) ?_ 0 _ rfl; exact bF BK358.out) Try.underlying28 rfl (by kernel_rfl)) rfl ?_
          exact ⟨by first | rfl | (simp [errW_none, errW_some] <;> rfl) | (simp only [← hji101]; first | rfl | (simp [errW_none, errW_some] <;> rfl)) | (simp [*, errW_none, errW_some] <;> rfl), by repeat (first | (with_reducible first | exact HB.out | apply bA | apply bN | apply bD | refine bS ?_ GE358.out) | exact HB.out)⟩
         ·rw [if_neg c103] at H
          exact absurd H (by simp)
        ·rw [if_neg c102] at H
         exact absurd H (by simp)
 ·rw [if_neg c5] at H
  have c5b0 : (t359 == 0) = false := beq_eq_false_iff_ne.mpr c5
  have c5b1 : (t359 != 0) = true := bne_iff_ne.mpr c5
  simp only [Option.some.injEq, Prod.mk.injEq] at H
  obtain ⟨rfl, rfl, rfl⟩ := H
  go_enter Try.func65, Try.ntmps65
  go_wp2_with (first | ((with_reducible refine gate_dst (N := 6) rfl ?_); refine box_event ?hg (N := 6) ?hd (cs := #[.int .u64 0, .int .u64 0]) (t := 28) ?hr ?_; (case hd => rfl); (case hg => rfl); (case hr => first | (go_simp; done) | (go_simp; rfl)); intro gb358 hg w106 hbox hb; have n0_ := Aside0.mk (below_step (by exact lF HB.out) hb); have n1_ := Aside0.mk (hbox); have n2_ := Aside0.mk ((by rw [hg]; exact (below_size (by exact lF HB.out)) : w.heap.size ≤ gb358)); have n3_ := Aside0.mk ((by rw [hg]; exact (below_size (by exact lF HB.out)) : w.heap.size ≤ gb358)); clear HB; have HB := n0_; have BK358 := n1_; have GW358 := n2_; have GE358 := n3_; clear n0_ n1_ n2_ n3_; clear hb hbox hg) | ((with_reducible refine gate_callee (f := 91) rfl ?_); refine goesL_ (some 19) rfl rfl Try.func91 (by kernel_rfl) rfl #[.int .i64 a0, .int .i64 (l2.length : Int), .slice A1 l1.length c1] rfl (by (try simp only [List.map_toArray, List.map_cons, List.map_nil]); first | done | rfl | (simp only [List.length_drop, List.length_take]; rfl)) ?_; (with_reducible refine (expr_Check.calls k a0 (l2.length : Int) _ _ l1 t359 _ ?side1 ?side2 A4.out).mono ?_); (case side1 => repeat (first | exact (Kd.C_below HR1.out HB.out) | (with_reducible refine Kd.C_alloc ?_ _) | (with_reducible refine Kd.C_drewN ?_ _) | (with_reducible refine Kd.C_drew ?_))); (case side2 => exact HC1.out); rintro e w107 ⟨rfl, hb⟩; refine ⟨_, rfl, ?_⟩; have n0_ := Aside0.mk (blk_below (g := gb358) (o := .cells #[.int .u64 0, .int .u64 0] 28 (0, 0)) (by exact bF BK358.out) hb); have n1_ := Aside0.mk (below_step (by repeat (first | (with_reducible first | exact HB.out | apply bA | apply bN | apply bD | refine bS ?_ GE358.out) | exact HB.out)) hb); clear BK358; clear HB; have BK358 := n0_; have HB := n1_; clear n0_ n1_; (try clear hb); (try clear hb2); (try clear hk); (try clear hi); have hcz108_0 : w107.cell? ⟨gb358, 0, none⟩ = some (.int .u64 0) := (blk_cell BK358.out 0).trans rfl; have hcz108_1 : w107.cell? ⟨gb358, 1, none⟩ = some (.int .u64 0) := (blk_cell BK358.out 1).trans rfl; have hfz108_0 := blk_frozen BK358.out 0; have hfz108_1 := blk_frozen BK358.out 1))
  refine bodyPost_ret (results_ct rfl _ _ gb358 28 #[.int .u64 0, .int .u64 0] (0, 0) _ rfl (by (with_reducible repeat (first | refine blk_drewN ?_ _ | refine blk_drew ?_ | refine blk_alloc ?_ _)); refine blk_put (cs := #[.int .u64 0, .int .u64 0]) ?_ 1 _ rfl; (with_reducible repeat (first | refine blk_drewN ?_ _ | refine blk_drew ?_ | refine blk_alloc ?_ _)); refine blk_put (cs := #[.int .u64 0, .int .u64 0]) ?_ 0 _ rfl; exact bF BK358.out) Try.underlying28 rfl (by kernel_rfl)) rfl ?_
  exact ⟨by first | rfl | (simp [errW_none, errW_some] <;> rfl) | (simp [*, errW_none, errW_some] <;> rfl), by repeat (first | (with_reducible first | exact HB.out | apply bA | apply bN | apply bD | refine bS ?_ GE358.out) | exact HB.out)⟩
mutual
def sumcheck_sum.l0 : Nat → Int → List (S149) → List (List (S28)) → Int → Int → Int → Int → Option (Int × Int)
 | 0, _, _, _, _, _, _, _ => none
 | k + 1, x0, x1, x2, x17, x18, x468000, x468001 => if x18 < x17 then (if 0 ≤ (x2.length : Int) then (if ((x2.length : Int) : Int).toNat ≤ 17592186044416 then (sumcheck_sum.l1 k x0 x1 x2 x18 (List.replicate ((x2.length : Int) : Int).toNat z28) x17 x18 x2 (x2.length : Int) 0 x468000 x468001) else (none)) else (none)) else (some (x468000, x468001))
def sumcheck_sum.l1 : Nat → Int → List (S149) → List (List (S28)) → Int → List (S28) → Int → Int → List (List (S28)) → Int → Int → Int → Int → Option (Int × Int)
 | 0, _, _, _, _, _, _, _, _, _, _, _, _ => none
 | k + 1, x0, x1, x2, x8, x9, x17, x18, x24, x25, x26, x468000, x468001 => if x26 < x25 then (if 0 ≤ x26 then (if x26 < (x24.length : Int) then (if 0 ≤ x8 then (if x8 < ((rd_L11 x24 x26).length : Int) then (if x26 < (x9.length : Int) then (sumcheck_sum.l1 k x0 x1 x2 x8 (x9.set (x26 : Int).toNat (⟨(rd_T28 (rd_L11 x24 x26) x8).f0, (rd_T28 (rd_L11 x24 x26) x8).f1⟩ : S28)) x17 x18 x24 x25 (wrap64 (x26 + 1)) x468000 x468001) else (none)) else (none)) else (none)) else (none)) else (none)) else ((expr_Eval.f k x0 x1 x9).bind fun bt475 => ((tower_Add.f x468000 x468001 bt475.1 bt475.2.1).bind fun bt479 => (sumcheck_sum.l0 k x0 x1 x2 x17 (wrap64 (x18 + 1)) bt479.1 bt479.2)))
end
def sumcheck_sum.f (k : Nat) (a0 : Int) (l1 : List (S149)) (l2 : List (List (S28))) : Option (Int × Int) := if 0 < (l2.length : Int) then (sumcheck_sum.l0 k a0 l1 l2 ((rd_L11 l2 0).length : Int) 0 0 0) else (none)
set_option maxHeartbeats 8000000 in
set_option maxRecDepth 100000 in
theorem sumcheck_sum.calls (k : Nat) (a0 : Int) (A1 : Option Addr) (c1 : Nat) (l1 : List (S149)) (A2 : Option Addr) (c2 : Nat) (l2 : List (List (S28))) (r1 : Int) (r2 : Int) (w : World) (hr1 : Kd.C k149 w A1 l1.length l1) (hc1 : l1.length ≤ c1) (hr2 : Kd.C (Kd.slice 28 k28) w A2 l2.length l2) (hc2 : l2.length ≤ c2) (h : sumcheck_sum.f k a0 l1 l2 = some (r1, r2)) :
  Calls Try.prog 108 #[.int .i64 a0, .slice A1 l1.length c1, .slice A2 l2.length c2] w fun e w' => e = .returned (.agg #[.int .u64 r1, .int .u64 r2]) ∧ Below w.heap.size w w' := by
 have hu28 := Try.underlying28
 have HR1 := Aside0.mk hr1
 have HC1 := Aside0.mk hc1
 clear hr1 hc1
 have HR2 := Aside0.mk hr2
 have HC2 := Aside0.mk hc2
 clear hr2 hc2
 have HB := Aside0.mk (Below.refl w.heap.size w)
 have H : (if 0 < (l2.length : Int) then (sumcheck_sum.l0 k a0 l1 l2 ((rd_L11 l2 0).length : Int) 0 0 0) else (none)) = some (r1, r2) := h
 clear h
 by_cases c4 : 0 < (l2.length : Int)
 ·rw [if_pos c4] at H
  have c4b0 : decide (0 < (l2.length : Int)) = true := decide_eq_true c4
  have c4b1 : decide (0 < l2.length) = true := decide_eq_true (by omega)
  clear c4
  have H' := Aside0.mk H
  clear H
  go_enter Try.func108, Try.ntmps108
  go_wp2_with (first | ((with_reducible refine gate_dst (N := 6) rfl ?_); refine box_event ?hg (N := 6) ?hd (cs := #[.int .u64 0, .int .u64 0]) (t := 28) ?hr ?_; (case hd => rfl); (case hg => rfl); (case hr => first | (go_simp; done) | (go_simp; rfl)); intro gb466 hg w5 hbox hb; have n0_ := Aside0.mk (below_step (by exact lF HB.out) hb); have n1_ := Aside0.mk (hbox); have n2_ := Aside0.mk ((by rw [hg]; exact (below_size (by exact lF HB.out)) : w.heap.size ≤ gb466)); have n3_ := Aside0.mk ((by rw [hg]; exact (below_size (by exact lF HB.out)) : w.heap.size ≤ gb466)); clear HB; have HB := n0_; have BK466 := n1_; have GW466 := n2_; have GE466 := n3_; clear n0_ n1_ n2_ n3_; clear hb hbox hg) | ((with_reducible refine gate_dst (N := 7) rfl ?_); refine box_event ?hg (N := 7) ?hd (cs := #[.int .u64 0, .int .u64 0]) (t := 28) ?hr ?_; (case hd => rfl); (case hg => rfl); (case hr => first | (go_simp; done) | (go_simp; rfl)); intro gb467 hg w6 hbox hb; have n0_ := Aside0.mk (blk_below (g := gb466) (o := .cells #[.int .u64 0, .int .u64 0] 28 (0, 0)) (by exact bF BK466.out) hb); have n1_ := Aside0.mk (below_step (by repeat (first | (with_reducible first | exact HB.out | apply bA | apply bN | apply bD | refine bS ?_ GE466.out) | exact HB.out)) hb); have n2_ := Aside0.mk (hbox); have n3_ := Aside0.mk ((by rw [hg]; exact (below_size (by repeat (first | (with_reducible first | exact HB.out | apply bA | apply bN | apply bD | refine bS ?_ GE466.out) | exact HB.out))) : w.heap.size ≤ gb467)); have n4_ := Aside0.mk ((by rw [hg]; exact (below_size (by repeat (first | (with_reducible first | exact HB.out | apply bA | apply bN | apply bD | refine bS ?_ GE466.out) | exact HB.out))) : w.heap.size ≤ gb467)); have n5_ := Aside0.mk ((by rw [hg]; exact Nat.ne_of_lt (blk_lt (g := gb466) (o := .cells #[.int .u64 0, .int .u64 0] 28 (0, 0)) (by exact bF BK466.out)) : gb466 ≠ gb467)); have n6_ := Aside0.mk ((by rw [hg]; exact Nat.ne_of_gt (blk_lt (g := gb466) (o := .cells #[.int .u64 0, .int .u64 0] 28 (0, 0)) (by exact bF BK466.out)) : gb467 ≠ gb466)); clear BK466; clear HB; have BK466 := n0_; have HB := n1_; have BK467 := n2_; have GW467 := n3_; have GE467 := n4_; have NB466_467 := n5_; have NB467_466 := n6_; clear n0_ n1_ n2_ n3_ n4_ n5_ n6_; clear hb hbox hg; have p468 : 0 ≤ (0 : Int) := (by omega); have q468 : 0 < (l2.length : Int) := of_decide_eq_true (by first | (with_reducible assumption) | assumption); obtain ⟨ad468, A468_0, c468_0, e468, hx468_0, hl468_0, hi468_0⟩ := at_L11 HR2.out 0 p468 q468; cases e468; have qi468 : (0 < l2.length) = True := eq_true (by omega); (try rw [show ((0 : Int)).toNat = 0 from rfl] at hx468_0); (try rw [Addr.add_zero'] at hx468_0); replace hx468_0 := (HB.out.cell (World.block_lt_of_cell? w _ hx468_0)).trans hx468_0; have HR468_0 := Aside0.mk hi468_0; have HC468_0 := Aside0.mk hl468_0; clear hi468_0 hl468_0; replace p468 := eq_true p468; replace q468 := eq_true q468))
  go_loopg [18] k (fun kq v18 w' => ∃ (x18_1 : Int) (x467000_1 : Int) (x467001_1 : Int) (x468000_1 : Int) (x468001_1 : Int), v18 = .int .i64 x18_1 ∧ Aside0 (sumcheck_sum.l0 kq a0 l1 l2 ((rd_L11 l2 0).length : Int) x18_1 x468000_1 x468001_1 = some (r1, r2)) ∧ Aside0 (kq ≤ k) ∧ Aside0 (w'.heap[gb466]? = some (.cells #[.int .u64 x467000_1, .int .u64 x467001_1] 28 (0, 0))) ∧ Aside0 (w'.heap[gb467]? = some (.cells #[.int .u64 x468000_1, .int .u64 x468001_1] 28 (0, 0))) ∧ Aside0 (Below w.heap.size w w'))
  case atStart => exact ⟨(0), (0), (0), (0), (0), (by first | rfl | (simp; done) | (simp [*]; done)), H', ⟨Nat.le_refl _⟩, ⟨by exact bF BK466.out⟩, ⟨by exact bF BK467.out⟩, ⟨by repeat (first | (with_reducible first | exact HB.out | apply bA | apply bN | apply bD | refine bS ?_ GE466.out | refine bS ?_ GE467.out) | exact HB.out)⟩⟩
  case round =>
   clear H'
   try clear c1
   try clear c2
   try clear p2
   try clear c4
   try clear c4b0
   try clear c4b1
   try clear p4
   try clear q4
   try clear hx4
   try clear qi4
   try clear hx468_0
   try clear p468
   try clear q468
   obtain ⟨x18_1, x467000_1, x467001_1, x468000_1, x468001_1, rfl, HA, HK1, BK466, BK467, HB⟩ := hrel
   cases gk with
   | zero => exact absurd HA.out (by simp [sumcheck_sum.l0])
   | succ k1 =>
    have H := HA.out
    clear HA
    simp only [sumcheck_sum.l0] at H
    by_cases c7 : x18_1 < ((rd_L11 l2 0).length : Int)
    ·rw [if_pos c7] at H
     have c7b0 : decide (x18_1 < ((rd_L11 l2 0).length : Int)) = true := decide_eq_true c7
     clear c7
     by_cases c8 : 0 ≤ (l2.length : Int)
     ·rw [if_pos c8] at H
      have c8b0 := eq_true c8
      have c8b1 : decide (0 ≤ (l2.length : Int)) = true := decide_eq_true c8
      clear c8
      by_cases c9 : ((l2.length : Int) : Int).toNat ≤ 17592186044416
      ·rw [if_pos c9] at H
       have c9b0 := eq_true c9
       have c9b1 : decide (((l2.length : Int) : Int).toNat ≤ 17592186044416) = true := decide_eq_true c9
       clear c9
       obtain ⟨y469, hy469⟩ : ∃ y_ : List (S28), y_ = (List.replicate ((l2.length : Int) : Int).toNat z28) := ⟨_, rfl⟩
       replace H : (sumcheck_sum.l1 k1 a0 l1 l2 x18_1 y469 ((rd_L11 l2 0).length : Int) x18_1 l2 (l2.length : Int) 0 x468000_1 x468001_1) = some (r1, r2) := by first | (rw [hy469]; with_reducible exact H) | (have H2_ := (Option.bind_some _ _).symm.trans H; rw [hy469]; with_reducible exact H2_) | (have H2_ := (Option.bind_some _ _).symm.trans H; with_reducible exact H2_) | with_reducible exact H | (rw [hy469]; exact H) | exact H
       have Ny469 := Aside0.mk hy469
       clear hy469
       have H' := Aside0.mk H
       clear H
       go_wp2_with (first | ((with_reducible refine gate_dst (N := 23) rfl ?_); refine Kd.R_make k28 _ 28 rfl (N := 23) rfl 53 _ _ rfl (l2.length : Int) rfl rfl Try.underlying53 (.agg #[(.int .u64 0), (.int .u64 0)]) 16 info28 rfl (by decide) (by omega) z28 (ok := fun _ => True) (okp := fun _ => True) (k28_mkM _ _ _ z28 ) (fun _ hk => hk) trivial (of_decide_eq_true (by first | (with_reducible assumption) | assumption)) (Nat.le_trans (Nat.mul_le_mul_right _ (of_decide_eq_true (by first | (with_reducible assumption) | assumption) : (l2.length : Int).toNat ≤ 17592186044416)) (by omega)) (Below.refl _ _) (Nat.le_refl _) ?_; intro v470 w10 ho11 hb hg_ hnew_; clear hg_ hnew_; (first | rw [← Ny469.out] at ho11 | (simp only [Int.reduceToNat] at ho11; rw [← Ny469.out] at ho11)); have n0_ := Aside0.mk (Kd.R_lower (Kd.R_newB (Kd.R_newB ho11 (g := gb466) (o := .cells #[.int .u64 x467000_1, .int .u64 x467001_1] 28 (0, 0)) (by exact bF BK466.out)) (g := gb467) (o := .cells #[.int .u64 x468000_1, .int .u64 x468001_1] 28 (0, 0)) (by exact bF BK467.out)) (below_size (by repeat (first | (with_reducible first | exact HB.out | apply bA | apply bN | apply bD | refine bS ?_ GE466.out | refine bS ?_ GE467.out) | exact HB.out)))); have n1_ := Aside0.mk (blk_below (g := gb466) (o := .cells #[.int .u64 x467000_1, .int .u64 x467001_1] 28 (0, 0)) (by exact bF BK466.out) hb); have n2_ := Aside0.mk (blk_below (g := gb467) (o := .cells #[.int .u64 x468000_1, .int .u64 x468001_1] 28 (0, 0)) (by exact bF BK467.out) hb); have n3_ := Aside0.mk (below_step (by repeat (first | (with_reducible first | exact HB.out | apply bA | apply bN | apply bD | refine bS ?_ GE466.out | refine bS ?_ GE467.out) | exact HB.out)) hb); clear BK466; clear BK467; clear HB; have HO471 := n0_; have BK466 := n1_; have BK467 := n2_; have HB := n3_; clear n0_ n1_ n2_ n3_; clear hb ho11))
       go_loopg [26] k1 (fun kq v26 w' => ∃ (x9_2 : List (S28)) (x26_2 : Int) (x467000_2 : Int) (x467001_2 : Int) (x468000_2 : Int) (x468001_2 : Int), v26 = .int .i64 x26_2 ∧ Aside0 (sumcheck_sum.l1 kq a0 l1 l2 x18_1 x9_2 ((rd_L11 l2 0).length : Int) x18_1 l2 (l2.length : Int) x26_2 x468000_2 x468001_2 = some (r1, r2)) ∧ Aside0 (kq ≤ k1) ∧ Aside0 (Kd.R k28 28 w' w.heap.size (fun k_ => k_ ≠ gb466 ∧ k_ ≠ gb467) v470 x9_2) ∧ Aside0 (w'.heap[gb466]? = some (.cells #[.int .u64 x467000_2, .int .u64 x467001_2] 28 (0, 0))) ∧ Aside0 (w'.heap[gb467]? = some (.cells #[.int .u64 x468000_2, .int .u64 x468001_2] 28 (0, 0))) ∧ Aside0 (Below w.heap.size w w'))
       case atStart => exact ⟨(y469), (0), (x467000_1), (x467001_1), (x468000_1), (x468001_1), (by first | rfl | (simp; done) | (simp [*]; done)), H', ⟨Nat.le_refl _⟩, ⟨by (with_reducible repeat (first | apply Kd.R_alloc | apply Kd.R_drewN | apply Kd.R_drew)); exact Kd.R_mono HO471.out (fun _ hk => ⟨hk.1.2, hk.2⟩)⟩, ⟨by exact bF BK466.out⟩, ⟨by exact bF BK467.out⟩, ⟨by repeat (first | (with_reducible first | exact HB.out | apply bA | apply bN | apply bD | refine bS ?_ GE466.out | refine bS ?_ GE467.out) | exact HB.out)⟩⟩
       case round =>
        clear H'
        try clear c1
        try clear c2
        try clear p2
        try clear c4
        try clear c4b0
        try clear c4b1
        try clear p4
        try clear q4
        try clear hx4
        try clear qi4
        try clear c7
        try clear c7b0
        try clear c8
        try clear c8b0
        try clear c8b1
        try clear c9
        try clear c9b0
        try clear c9b1
        try clear c10
        try clear hx468_0
        try clear p2
        try clear p4
        try clear p468
        try clear q4
        try clear q468
        obtain ⟨x9_2, x26_2, x467000_2, x467001_2, x468000_2, x468001_2, rfl, HA, HK2, HO_9, BK466, BK467, HB⟩ := hrel
        cases gk with
        | zero => exact absurd HA.out (by simp [sumcheck_sum.l1])
        | succ k2 =>
         have H := HA.out
         clear HA
         simp only [sumcheck_sum.l1] at H
         by_cases c12 : x26_2 < (l2.length : Int)
         ·rw [if_pos c12] at H
          have c12b0 : decide (x26_2 < (l2.length : Int)) = true := decide_eq_true c12
          clear c12
          by_cases c13 : 0 ≤ x26_2
          ·rw [if_pos c13] at H
           have c13b0 : decide (0 ≤ x26_2) = true := decide_eq_true c13
           clear c13
           by_cases c14 : x26_2 < (l2.length : Int)
           ·rw [if_pos c14] at H
            have c14b0 : decide (x26_2 < (l2.length : Int)) = true := decide_eq_true c14
            clear c14
            by_cases c15 : 0 ≤ x18_1
            ·rw [if_pos c15] at H
             have c15b0 : decide (0 ≤ x18_1) = true := decide_eq_true c15
             clear c15
             by_cases c16 : x18_1 < ((rd_L11 l2 x26_2).length : Int)
             ·rw [if_pos c16] at H
              have c16b0 : decide (x18_1 < ((rd_L11 l2 x26_2).length : Int)) = true := decide_eq_true c16
              clear c16
              by_cases c17 : x26_2 < (x9_2.length : Int)
              ·rw [if_pos c17] at H
               have c17b0 : decide (x26_2 < (x9_2.length : Int)) = true := decide_eq_true c17
               clear c17
               obtain ⟨y474, hy474⟩ : ∃ y_ : List (S28), y_ = (x9_2.set (x26_2 : Int).toNat (⟨(rd_T28 (rd_L11 l2 x26_2) x18_1).f0, (rd_T28 (rd_L11 l2 x26_2) x18_1).f1⟩ : S28)) := ⟨_, rfl⟩
               replace H : (sumcheck_sum.l1 k2 a0 l1 l2 x18_1 y474 ((rd_L11 l2 0).length : Int) x18_1 l2 (l2.length : Int) (wrap64 (x26_2 + 1)) x468000_2 x468001_2) = some (r1, r2) := by first | (rw [hy474]; with_reducible exact H) | (have H2_ := (Option.bind_some _ _).symm.trans H; rw [hy474]; with_reducible exact H2_) | (have H2_ := (Option.bind_some _ _).symm.trans H; with_reducible exact H2_) | with_reducible exact H | (rw [hy474]; exact H) | exact H
               have Ny474 := Aside0.mk hy474
               clear hy474
               have H' := Aside0.mk H
               clear H
               have p472 : 0 ≤ (x26_2 : Int) := of_decide_eq_true (by first | (with_reducible assumption) | assumption)
               have q472 : x26_2 < (l2.length : Int) := of_decide_eq_true (by first | (with_reducible assumption) | assumption)
               obtain ⟨ad472, A472_0, c472_0, e472, hx472_0, hl472_0, hi472_0⟩ := at_L11 HR2.out x26_2 p472 q472
               obtain rfl : ad468 = ad472 := (by injection e472)
               replace hx472_0 := (HB.out.cell (World.block_lt_of_cell? w _ hx472_0)).trans hx472_0
               have HR472_0 := Aside0.mk hi472_0
               have HC472_0 := Aside0.mk hl472_0
               clear hi472_0 hl472_0
               replace p472 := eq_true p472
               replace q472 := eq_true q472
               have p473 : 0 ≤ (x18_1 : Int) := of_decide_eq_true (by first | (with_reducible assumption) | assumption)
               have q473 : x18_1 < ((rd_L11 l2 x26_2).length : Int) := of_decide_eq_true (by first | (with_reducible assumption) | assumption)
               obtain ⟨ad473, e473, hx473_0, hx473_1⟩ := at_T28 HR472_0.out x18_1 p473 q473
               cases e473
               replace hx473_0 := (HB.out.cell (World.block_lt_of_cell? w _ hx473_0)).trans hx473_0
               replace hx473_1 := (HB.out.cell (World.block_lt_of_cell? w _ hx473_1)).trans hx473_1
               replace p473 := eq_true p473
               replace q473 := eq_true q473
               have p18 : 0 ≤ (x26_2 : Int) := of_decide_eq_true (by first | (with_reducible assumption) | assumption)
               have q18 : (x26_2 : Int) < ((x9_2.length : Int) : Int) := of_decide_eq_true (by first | (with_reducible assumption) | assumption)
               obtain ⟨go18, co18, eo18, gb18, gl18, cl18, HG18⟩ := Kd.R_form HO_9.out (by omega)
               (first | cases eo18 | (injection eo18 with ea_ en_ ec_; (first | subst ea_ | (injection ea_ with ea_; subst ea_)); subst ec_; clear en_))
               have GB18 := Aside0.mk gb18
               have GG18 := Aside0.mk HG18
               clear gb18 gl18 HG18
               obtain ⟨ce18, hcl18, hM18, hcc18, hfr18⟩ := Kd.R_elem HO_9.out z28 (x26_2 : Int) p18 q18
               obtain rfl := k28_openM hM18
               have hx18_0 : wr.cell? ⟨go18, (x26_2 : Int).toNat * 2, none⟩ = some (.int .u64 ((rd_T28 x9_2 x26_2).f0)) := hcc18 0 _ rfl
               have hx18_1 : wr.cell? ⟨go18, (x26_2 : Int).toNat * 2 + 1, none⟩ = some (.int .u64 ((rd_T28 x9_2 x26_2).f1)) := hcc18 1 _ rfl
               have hf18_0 : wr.frozen? ⟨go18, (x26_2 : Int).toNat * 2, none⟩ = false := hfr18 0
               have hf18_1 : wr.frozen? ⟨go18, (x26_2 : Int).toNat * 2 + 1, none⟩ = false := hfr18 1
               clear hcl18 hcc18 hfr18 hM18
               replace p18 := eq_true p18
               replace q18 := eq_true q18
               have HX19 := Aside0.mk (show Kd.R k28 28 wr w.heap.size (fun k_ => k_ ≠ gb466 ∧ k_ ≠ gb467) (.slice (some ⟨go18, 0, none⟩) x9_2.length co18) x9_2 from (by exact rF HO_9.out))
               obtain ⟨ce19, hcl19, hM19, hcc19, hfr19⟩ := Kd.R_elem HX19.out z28 (x26_2 : Int) (of_decide_eq_true (by first | (with_reducible assumption) | assumption)) (by have h_ : (x26_2 : Int) < ((x9_2.length : Int) : Int) := of_decide_eq_true (by first | (with_reducible assumption) | assumption); first | exact h_ | (have e_ := (Kd.R_reads' HO_9.out).1; omega) | simpa using h_)
               obtain rfl := k28_openM hM19
               have HP19 := Kd.R_seg HX19.out (x26_2 : Int) (of_decide_eq_true (by first | (with_reducible assumption) | assumption)) (by have h_ : (x26_2 : Int) < ((x9_2.length : Int) : Int) := of_decide_eq_true (by first | (with_reducible assumption) | assumption); first | exact h_ | (have e_ := (Kd.R_reads' HO_9.out).1; omega) | simpa using h_) (seg := [.int .u64 ((rd_T28 (rd_L11 l2 x26_2) x18_1).f0), .int .u64 ((rd_T28 (rd_L11 l2 x26_2) x18_1).f1)]) (j := 0) hcl19 hcc19 (show 2 ≤ 2 from by decide) (x' := (⟨(rd_T28 (rd_L11 l2 x26_2) x18_1).f0, (rd_T28 (rd_L11 l2 x26_2) x18_1).f1⟩ : S28)) (k28_mkM _ _ _ (⟨(rd_T28 (rd_L11 l2 x26_2) x18_1).f0, (rd_T28 (rd_L11 l2 x26_2) x18_1).f1⟩ : S28) ) (fun _ hk => hk)
               have hx19_0 := hcc19 0 _ rfl
               (try simp only [show (k28).sz = 2 from rfl, Nat.mul_one, Nat.add_zero] at hx19_0)
               have hf19_0 := hfr19 0
               (try simp only [show (k28).sz = 2 from rfl, Nat.mul_one, Nat.add_zero] at hf19_0)
               have hx19_1 := hcc19 1 _ rfl
               (try simp only [show (k28).sz = 2 from rfl, Nat.mul_one, Nat.add_zero] at hx19_1)
               have hf19_1 := hfr19 1
               (try simp only [show (k28).sz = 2 from rfl, Nat.mul_one, Nat.add_zero] at hf19_1)
               clear hcl19 hcc19 hfr19 hM19
               go_wp2_with (first | ((with_reducible refine gate_store (t := 28) (p := 37) rfl ?_); refine store_event (t := 28) (p := 37) (v := ?vo_w20) (w1 := ((wr.setCell ⟨go18, (x26_2 : Int).toNat * 2, none⟩ (.int .u64 ((rd_T28 (rd_L11 l2 x26_2) x18_1).f0))).setCell ⟨go18, (x26_2 : Int).toNat * 2 + 1, none⟩ (.int .u64 ((rd_T28 (rd_L11 l2 x26_2) x18_1).f1)))) ?hg ?ho ?hn ?hr ?_; (case ho => rfl); (case hg => rfl); (case hn => rfl); (case hr => first | (go_simp; done) | (go_simp; rfl)); intro w20 hw; have hg : wr.grownBy w20 (some go18) := (by rw [hw]; exact HP19.2); have hp_ : Kd.R k28 28 w20 w.heap.size (fun k_ => k_ ≠ gb466 ∧ k_ ≠ gb467) (.slice (some ⟨go18, 0, none⟩) x9_2.length co18) y474 := (by rw [hw, Ny474.out]; exact HP19.1); clear HP19; have n0_ := Aside0.mk (hp_); have n1_ := Aside0.mk (blk_grown (g := gb466) (o := .cells #[.int .u64 x467000_2, .int .u64 x467001_2] 28 (0, 0)) (by exact bF BK466.out) hg (Kd.R_away HO_9.out (fun _ hk => hk.1))); have n2_ := Aside0.mk (blk_grown (g := gb467) (o := .cells #[.int .u64 x468000_2, .int .u64 x468001_2] 28 (0, 0)) (by exact bF BK467.out) hg (Kd.R_away HO_9.out (fun _ hk => hk.2))); have n3_ := Aside0.mk ((by rw [hw]; exact below_set (below_set (HB.out) GB18.out) GB18.out : Below w.heap.size w w20)); clear HO_9; clear BK466; clear BK467; clear HB; have HO_9 := n0_; have BK466 := n1_; have BK467 := n2_; have HB := n3_; clear n0_ n1_ n2_ n3_; clear hg hw hp_))
               go_roundg k2
               case measure => have := HK1.out; have := HK2.out; omega
               case rel => exact ⟨(y474), (wrap64 (x26_2 + 1)), (x467000_2), (x467001_2), (x468000_2), (x468001_2), (by first | rfl | (simp; done) | (simp [*]; done)), H', ⟨by have := HK1.out; have := HK2.out; omega⟩, ⟨by exact rF HO_9.out⟩, ⟨by exact bF BK466.out⟩, ⟨by exact bF BK467.out⟩, ⟨by repeat (first | (with_reducible first | exact HB.out | apply bA | apply bN | apply bD | refine bS ?_ GE466.out | refine bS ?_ GE467.out) | exact HB.out)⟩⟩
              ·rw [if_neg c17] at H
               exact absurd H (by simp)
             ·rw [if_neg c16] at H
              exact absurd H (by simp)
            ·rw [if_neg c15] at H
             exact absurd H (by simp)
           ·rw [if_neg c14] at H
            exact absurd H (by simp)
          ·rw [if_neg c13] at H
           exact absurd H (by simp)
         ·rw [if_neg c12] at H
          have c12b0 : decide (x26_2 < (l2.length : Int)) = false := decide_eq_false c12
          clear c12
          replace H := Option.bind_eq_some_iff.mp H
          obtain ⟨⟨t475, t476, t477⟩, A210, H⟩ := H
          replace H : ((tower_Add.f x468000_2 x468001_2 t475 t476).bind fun bt479 => (sumcheck_sum.l0 k2 a0 l1 l2 ((rd_L11 l2 0).length : Int) (wrap64 (x18_1 + 1)) bt479.1 bt479.2)) = some (r1, r2) := H
          have A21 := Aside0.mk A210
          clear A210
          replace H := Option.bind_eq_some_iff.mp H
          obtain ⟨⟨t479, t480⟩, A220, H⟩ := H
          replace H : (sumcheck_sum.l0 k2 a0 l1 l2 ((rd_L11 l2 0).length : Int) (wrap64 (x18_1 + 1)) t479 t480) = some (r1, r2) := H
          have A22 := Aside0.mk A220
          clear A220
          have H' := Aside0.mk H
          clear H
          obtain ⟨Ao23, co23, eo23⟩ := Kd.R_slice HO_9.out
          subst eo23
          go_wp2_with (first | ((with_reducible refine gate_callee (f := 65) rfl ?_); refine goesL_ (some 43) rfl rfl Try.func65 (by kernel_rfl) rfl #[.int .i64 a0, .slice A1 l1.length c1, .slice Ao23 x9_2.length co23] rfl (by (try simp only [List.map_toArray, List.map_cons, List.map_nil]); first | done | rfl | (simp only [List.length_drop, List.length_take]; rfl)) ?_; (with_reducible refine (expr_Eval.calls k2 a0 _ _ l1 _ _ x9_2 t475 t476 t477 _ ?side1 ?side2 ?side3 ?side4 A21.out).mono ?_); (case side1 => repeat (first | exact (Kd.C_below HR1.out HB.out) | (with_reducible refine Kd.C_alloc ?_ _) | (with_reducible refine Kd.C_drewN ?_ _) | (with_reducible refine Kd.C_drew ?_))); (case side2 => exact HC1.out); (case side3 => repeat (first | exact (Kd.R_reads' HO_9.out).2.2 | (with_reducible refine Kd.C_alloc ?_ _) | (with_reducible refine Kd.C_drewN ?_ _) | (with_reducible refine Kd.C_drew ?_))); (case side4 => exact (Kd.R_reads' HO_9.out).2.1); rintro e w24 ⟨rfl, hb⟩; refine ⟨_, rfl, ?_⟩; have n0_ := Aside0.mk (Kd.R_below (by exact rF HO_9.out) hb); have n1_ := Aside0.mk (blk_below (g := gb466) (o := .cells #[.int .u64 x467000_2, .int .u64 x467001_2] 28 (0, 0)) (by exact bF BK466.out) hb); have n2_ := Aside0.mk (blk_below (g := gb467) (o := .cells #[.int .u64 x468000_2, .int .u64 x468001_2] 28 (0, 0)) (by exact bF BK467.out) hb); have n3_ := Aside0.mk (below_step (by repeat (first | (with_reducible first | exact HB.out | apply bA | apply bN | apply bD | refine bS ?_ GE466.out | refine bS ?_ GE467.out) | exact HB.out)) hb); clear HO_9; clear BK466; clear BK467; clear HB; have HO_9 := n0_; have BK466 := n1_; have BK467 := n2_; have HB := n3_; clear n0_ n1_ n2_ n3_; (try clear hb); (try clear hb2); (try clear hk); (try clear hi)) | ((with_reducible refine gate_dst (N := 12) rfl ?_); refine box_event ?hg (N := 12) ?hd (cs := #[.int .u64 0, .int .u64 0]) (t := 28) ?hr ?_; (case hd => rfl); (case hg => rfl); (case hr => first | (go_simp; done) | (go_simp; rfl)); intro gb478 hg w25 hbox hb; have n0_ := Aside0.mk (Kd.R_below (Kd.R_elderB (by exact rF HO_9.out) gb478 (Nat.le_of_eq hg.symm)) hb); have n1_ := Aside0.mk (blk_below (g := gb466) (o := .cells #[.int .u64 x467000_2, .int .u64 x467001_2] 28 (0, 0)) (by exact bF BK466.out) hb); have n2_ := Aside0.mk (blk_below (g := gb467) (o := .cells #[.int .u64 x468000_2, .int .u64 x468001_2] 28 (0, 0)) (by exact bF BK467.out) hb); have n3_ := Aside0.mk (below_step (by repeat (first | (with_reducible first | exact HB.out | apply bA | apply bN | apply bD | refine bS ?_ GE466.out | refine bS ?_ GE467.out) | exact HB.out)) hb); have n4_ := Aside0.mk (hbox); have n5_ := Aside0.mk ((by rw [hg]; exact (below_size (by repeat (first | (with_reducible first | exact HB.out | apply bA | apply bN | apply bD | refine bS ?_ GE466.out | refine bS ?_ GE467.out) | exact HB.out))) : w.heap.size ≤ gb478)); have n6_ := Aside0.mk ((by rw [hg]; exact (below_size (by repeat (first | (with_reducible first | exact HB.out | apply bA | apply bN | apply bD | refine bS ?_ GE466.out | refine bS ?_ GE467.out) | exact HB.out))) : w.heap.size ≤ gb478)); have n7_ := Aside0.mk ((by rw [hg]; exact Nat.ne_of_lt (blk_lt (g := gb466) (o := .cells #[.int .u64 x467000_2, .int .u64 x467001_2] 28 (0, 0)) (by exact bF BK466.out)) : gb466 ≠ gb478)); have n8_ := Aside0.mk ((by rw [hg]; exact Nat.ne_of_gt (blk_lt (g := gb466) (o := .cells #[.int .u64 x467000_2, .int .u64 x467001_2] 28 (0, 0)) (by exact bF BK466.out)) : gb478 ≠ gb466)); have n9_ := Aside0.mk ((by rw [hg]; exact Nat.ne_of_lt (blk_lt (g := gb467) (o := .cells #[.int .u64 x468000_2, .int .u64 x468001_2] 28 (0, 0)) (by exact bF BK467.out)) : gb467 ≠ gb478)); have n10_ := Aside0.mk ((by rw [hg]; exact Nat.ne_of_gt (blk_lt (g := gb467) (o := .cells #[.int .u64 x468000_2, .int .u64 x468001_2] 28 (0, 0)) (by exact bF BK467.out)) : gb478 ≠ gb467)); clear HO_9; clear BK466; clear BK467; clear HB; have HO_9 := n0_; have BK466 := n1_; have BK467 := n2_; have HB := n3_; have BK478 := n4_; have GW478 := n5_; have GE478 := n6_; have NB466_478 := n7_; have NB478_466 := n8_; have NB467_478 := n9_; have NB478_467 := n10_; clear n0_ n1_ n2_ n3_ n4_ n5_ n6_ n7_ n8_ n9_ n10_; clear hb hbox hg; have hnb26 := NB478_466.out; have hnc26 := NB466_478.out; have hnb27 := NB478_467.out; have hnc27 := NB467_478.out; have hcz28_0 : w25.cell? ⟨gb478, 0, none⟩ = some (.int .u64 0) := (blk_cell BK478.out 0).trans rfl; have hcz28_1 : w25.cell? ⟨gb478, 1, none⟩ = some (.int .u64 0) := (blk_cell BK478.out 1).trans rfl; have hfz28_0 := blk_frozen BK478.out 0; have hfz28_1 := blk_frozen BK478.out 1; have hnb29 := NB467_466.out; have hnc29 := NB466_467.out; have hcz30_0 : w25.cell? ⟨gb467, 0, none⟩ = some (.int .u64 x468000_2) := (blk_cell BK467.out 0).trans rfl; have hcz30_1 : w25.cell? ⟨gb467, 1, none⟩ = some (.int .u64 x468001_2) := (blk_cell BK467.out 1).trans rfl; have hfz30_0 := blk_frozen BK467.out 0; have hfz30_1 := blk_frozen BK467.out 1) | ((with_reducible refine gate_callee (f := 60) rfl ?_); refine goesL_ (some 48) rfl rfl Try.func60 (by kernel_rfl) rfl #[.agg #[.int .u64 x468000_2, .int .u64 x468001_2], .agg #[.int .u64 t475, .int .u64 t476]] rfl (by (try simp only [List.map_toArray, List.map_cons, List.map_nil]); first | done | rfl | (simp only [List.length_drop, List.length_take]; rfl)) ?_; (with_reducible refine (tower_Add.calls x468000_2 x468001_2 t475 t476 t479 t480 _ A22.out).mono ?_); rintro e w31 ⟨rfl, hb⟩; refine ⟨_, rfl, ?_⟩; have n0_ := Aside0.mk (Kd.R_below (by (with_reducible repeat (first | apply Kd.R_alloc | apply Kd.R_drewN | apply Kd.R_drew)); exact (Kd.R_mono (Kd.R_far (p := ⟨gb478, 1, none⟩) (Kd.R_far (p := ⟨gb478, 0, none⟩) (Kd.R_mono HO_9.out (fun k_ hk => (⟨hk, hk.2⟩ : _ ∧ k_ ≠ gb478))) (fun _ hk => hk.2) (.int .u64 t475)) (fun _ hk => hk.2) (.int .u64 t476)) (fun _ h_ => h_.1))) hb); have n1_ := Aside0.mk (blk_below (g := gb466) (o := .cells #[.int .u64 x467000_2, .int .u64 x467001_2] 28 (0, 0)) (by (with_reducible repeat (first | refine blk_drewN ?_ _ | refine blk_drew ?_ | refine blk_alloc ?_ _)); refine blk_far ?_ NB466_478.out _; (with_reducible repeat (first | refine blk_drewN ?_ _ | refine blk_drew ?_ | refine blk_alloc ?_ _)); refine blk_far ?_ NB466_478.out _; exact bF BK466.out) hb); have n2_ := Aside0.mk (blk_below (g := gb467) (o := .cells #[.int .u64 x468000_2, .int .u64 x468001_2] 28 (0, 0)) (by (with_reducible repeat (first | refine blk_drewN ?_ _ | refine blk_drew ?_ | refine blk_alloc ?_ _)); refine blk_far ?_ NB467_478.out _; (with_reducible repeat (first | refine blk_drewN ?_ _ | refine blk_drew ?_ | refine blk_alloc ?_ _)); refine blk_far ?_ NB467_478.out _; exact bF BK467.out) hb); have n3_ := Aside0.mk (blk_below (g := gb478) (o := .cells #[.int .u64 t475, .int .u64 t476] 28 (0, 0)) (by (with_reducible repeat (first | refine blk_drewN ?_ _ | refine blk_drew ?_ | refine blk_alloc ?_ _)); refine blk_put (cs := #[.int .u64 t475, .int .u64 0]) ?_ 1 _ rfl; (with_reducible repeat (first | refine blk_drewN ?_ _ | refine blk_drew ?_ | refine blk_alloc ?_ _)); refine blk_put (cs := #[.int .u64 0, .int .u64 0]) ?_ 0 _ rfl; exact bF BK478.out) hb); have n4_ := Aside0.mk (below_step (by repeat (first | (with_reducible first | exact HB.out | apply bA | apply bN | apply bD | refine bS ?_ GE466.out | refine bS ?_ GE467.out | refine bS ?_ GE478.out) | exact HB.out)) hb); clear HO_9; clear BK466; clear BK467; clear BK478; clear HB; have HO_9 := n0_; have BK466 := n1_; have BK467 := n2_; have BK478 := n3_; have HB := n4_; clear n0_ n1_ n2_ n3_ n4_; (try clear hb); (try clear hb2); (try clear hk); (try clear hi); have hcz32_0 : w31.cell? ⟨gb467, 0, none⟩ = some (.int .u64 x468000_2) := (blk_cell BK467.out 0).trans rfl; have hcz32_1 : w31.cell? ⟨gb467, 1, none⟩ = some (.int .u64 x468001_2) := (blk_cell BK467.out 1).trans rfl; have hfz32_0 := blk_frozen BK467.out 0; have hfz32_1 := blk_frozen BK467.out 1))
          go_roundg k2
          case measure => have := HK1.out; have := HK2.out; omega
          case rel => exact ⟨(wrap64 (x18_1 + 1)), (x467000_2), (x467001_2), (t479), (t480), (by first | rfl | (simp; done) | (simp [*]; done)), H', ⟨by have := HK1.out; have := HK2.out; omega⟩, ⟨by (with_reducible repeat (first | refine blk_drewN ?_ _ | refine blk_drew ?_ | refine blk_alloc ?_ _)); refine blk_far ?_ NB466_467.out _; (with_reducible repeat (first | refine blk_drewN ?_ _ | refine blk_drew ?_ | refine blk_alloc ?_ _)); refine blk_far ?_ NB466_467.out _; exact bF BK466.out⟩, ⟨by (with_reducible repeat (first | refine blk_drewN ?_ _ | refine blk_drew ?_ | refine blk_alloc ?_ _)); refine blk_put (cs := #[.int .u64 t479, .int .u64 x468001_2]) ?_ 1 _ rfl; (with_reducible repeat (first | refine blk_drewN ?_ _ | refine blk_drew ?_ | refine blk_alloc ?_ _)); refine blk_put (cs := #[.int .u64 x468000_2, .int .u64 x468001_2]) ?_ 0 _ rfl; exact bF BK467.out⟩, ⟨by repeat (first | (with_reducible first | exact HB.out | apply bA | apply bN | apply bD | refine bS ?_ GE466.out | refine bS ?_ GE467.out | refine bS ?_ GE478.out) | exact HB.out)⟩⟩
      ·rw [if_neg c9] at H
       exact absurd H (by simp)
     ·rw [if_neg c8] at H
      exact absurd H (by simp)
    ·rw [if_neg c7] at H
     have c7b0 : decide (x18_1 < ((rd_L11 l2 0).length : Int)) = false := decide_eq_false c7
     clear c7
     simp only [Option.some.injEq, Prod.mk.injEq] at H
     obtain ⟨rfl, rfl⟩ := H
     have hnb33 := NB467_466.out
     have hnc33 := NB466_467.out
     have hcz34_0 : wr.cell? ⟨gb467, 0, none⟩ = some (.int .u64 x468000_1) := (blk_cell BK467.out 0).trans rfl
     have hcz34_1 : wr.cell? ⟨gb467, 1, none⟩ = some (.int .u64 x468001_1) := (blk_cell BK467.out 1).trans rfl
     have hfz34_0 := blk_frozen BK467.out 0
     have hfz34_1 := blk_frozen BK467.out 1
     have hcz35_0 : wr.cell? ⟨gb466, 0, none⟩ = some (.int .u64 x467000_1) := (blk_cell BK466.out 0).trans rfl
     have hcz35_1 : wr.cell? ⟨gb466, 1, none⟩ = some (.int .u64 x467001_1) := (blk_cell BK466.out 1).trans rfl
     have hfz35_0 := blk_frozen BK466.out 0
     have hfz35_1 := blk_frozen BK466.out 1
     go_wp2
     refine bodyPost_ret (results_cell_row rfl _ _ gb466 28 #[.int .u64 x468000_1, .int .u64 x468001_1] (0, 0) _ rfl (by (with_reducible repeat (first | refine blk_drewN ?_ _ | refine blk_drew ?_ | refine blk_alloc ?_ _)); refine blk_put (cs := #[.int .u64 x468000_1, .int .u64 x467001_1]) ?_ 1 _ rfl; (with_reducible repeat (first | refine blk_drewN ?_ _ | refine blk_drew ?_ | refine blk_alloc ?_ _)); refine blk_put (cs := #[.int .u64 x467000_1, .int .u64 x467001_1]) ?_ 0 _ rfl; exact bF BK466.out) Try.underlying28 rfl (by kernel_rfl)) rfl ?_
     exact ⟨by first | rfl | (simp [errW_none, errW_some] <;> rfl) | (simp [*, errW_none, errW_some] <;> rfl), by repeat (first | (with_reducible first | exact HB.out | apply bA | apply bN | apply bD | refine bS ?_ GE466.out | refine bS ?_ GE467.out) | exact HB.out)⟩
 ·rw [if_neg c4] at H
  exact absurd H (by simp)
def sumcheck_Sum.f (k : Nat) (a0 : Int) (l1 : List (S149)) (l2 : List (List (S28))) : Option (Int × Int × Int) := (sumcheck_Check.f k a0 l1 l2).bind fun t482 => (if t482 = 0 then ((sumcheck_sum.f k a0 l1 l2).bind fun bt483 => (some (bt483.1, bt483.2, 0))) else (some (0, 0, t482)))
set_option maxHeartbeats 8000000 in
set_option maxRecDepth 100000 in
theorem sumcheck_Sum.calls (k : Nat) (a0 : Int) (A1 : Option Addr) (c1 : Nat) (l1 : List (S149)) (A2 : Option Addr) (c2 : Nat) (l2 : List (List (S28))) (r1 : Int) (r2 : Int) (r3 : Int) (w : World) (hr1 : Kd.C k149 w A1 l1.length l1) (hc1 : l1.length ≤ c1) (hr2 : Kd.C (Kd.slice 28 k28) w A2 l2.length l2) (hc2 : l2.length ≤ c2) (h : sumcheck_Sum.f k a0 l1 l2 = some (r1, r2, r3)) :
  Calls Try.prog 52 #[.int .i64 a0, .slice A1 l1.length c1, .slice A2 l2.length c2] w fun e w' => e = .returned (.tuple #[.agg #[.int .u64 r1, .int .u64 r2], .int .i64 r3]) ∧ Below w.heap.size w w' := by
 have hu28 := Try.underlying28
 have HR1 := Aside0.mk hr1
 have HC1 := Aside0.mk hc1
 clear hr1 hc1
 have HR2 := Aside0.mk hr2
 have HC2 := Aside0.mk hc2
 clear hr2 hc2
 have HB := Aside0.mk (Below.refl w.heap.size w)
 have H : ((sumcheck_Check.f k a0 l1 l2).bind fun t482 => (if t482 = 0 then ((sumcheck_sum.f k a0 l1 l2).bind fun bt483 => (some (bt483.1, bt483.2, 0))) else (some (0, 0, t482)))) = some (r1, r2, r3) := h
 clear h
 replace H := Option.bind_eq_some_iff.mp H
 obtain ⟨t482, A40, H⟩ := H
 replace H : (if t482 = 0 then ((sumcheck_sum.f k a0 l1 l2).bind fun bt483 => (some (bt483.1, bt483.2, 0))) else (some (0, 0, t482))) = some (r1, r2, r3) := H
 have A4 := Aside0.mk A40
 clear A40
 by_cases c5 : t482 = 0
 ·rw [if_pos c5] at H
  have c5b0 : (t482 == 0) = true := beq_iff_eq.mpr c5
  have c5b1 : (t482 != 0) = false := bne_eq_false_iff_eq.mpr c5
  clear c5
  replace H := Option.bind_eq_some_iff.mp H
  obtain ⟨⟨t483, t484⟩, A60, H⟩ := H
  replace H : (some (t483, t484, 0)) = some (r1, r2, r3) := H
  have A6 := Aside0.mk A60
  clear A60
  simp only [Option.some.injEq, Prod.mk.injEq] at H
  obtain ⟨rfl, rfl, rfl⟩ := H
  go_enter Try.func52, Try.ntmps52
  go_wp2_with (first | ((with_reducible refine gate_dst (N := 6) rfl ?_); refine box_event ?hg (N := 6) ?hd (cs := #[.int .u64 0, .int .u64 0]) (t := 28) ?hr ?_; (case hd => rfl); (case hg => rfl); (case hr => first | (go_simp; done) | (go_simp; rfl)); intro gb481 hg w7 hbox hb; have n0_ := Aside0.mk (below_step (by exact lF HB.out) hb); have n1_ := Aside0.mk (hbox); have n2_ := Aside0.mk ((by rw [hg]; exact (below_size (by exact lF HB.out)) : w.heap.size ≤ gb481)); have n3_ := Aside0.mk ((by rw [hg]; exact (below_size (by exact lF HB.out)) : w.heap.size ≤ gb481)); clear HB; have HB := n0_; have BK481 := n1_; have GW481 := n2_; have GE481 := n3_; clear n0_ n1_ n2_ n3_; clear hb hbox hg) | ((with_reducible refine gate_callee (f := 51) rfl ?_); refine goesL_ (some 12) rfl rfl Try.func51 (by kernel_rfl) rfl #[.int .i64 a0, .slice A1 l1.length c1, .slice A2 l2.length c2] rfl (by (try simp only [List.map_toArray, List.map_cons, List.map_nil]); first | done | rfl | (simp only [List.length_drop, List.length_take]; rfl)) ?_; (with_reducible refine (sumcheck_Check.calls k a0 _ _ l1 _ _ l2 t482 _ ?side1 ?side2 ?side3 ?side4 A4.out).mono ?_); (case side1 => repeat (first | exact (Kd.C_below HR1.out HB.out) | (with_reducible refine Kd.C_alloc ?_ _) | (with_reducible refine Kd.C_drewN ?_ _) | (with_reducible refine Kd.C_drew ?_))); (case side2 => exact HC1.out); (case side3 => repeat (first | exact (Kd.C_below HR2.out HB.out) | (with_reducible refine Kd.C_alloc ?_ _) | (with_reducible refine Kd.C_drewN ?_ _) | (with_reducible refine Kd.C_drew ?_))); (case side4 => exact HC2.out); rintro e w8 ⟨rfl, hb⟩; refine ⟨_, rfl, ?_⟩; have n0_ := Aside0.mk (blk_below (g := gb481) (o := .cells #[.int .u64 0, .int .u64 0] 28 (0, 0)) (by exact bF BK481.out) hb); have n1_ := Aside0.mk (below_step (by repeat (first | (with_reducible first | exact HB.out | apply bA | apply bN | apply bD | refine bS ?_ GE481.out) | exact HB.out)) hb); clear BK481; clear HB; have BK481 := n0_; have HB := n1_; clear n0_ n1_; (try clear hb); (try clear hb2); (try clear hk); (try clear hi)) | ((with_reducible refine gate_callee (f := 108) rfl ?_); refine goesL_ (some 20) rfl rfl Try.func108 (by kernel_rfl) rfl #[.int .i64 a0, .slice A1 l1.length c1, .slice A2 l2.length c2] rfl (by (try simp only [List.map_toArray, List.map_cons, List.map_nil]); first | done | rfl | (simp only [List.length_drop, List.length_take]; rfl)) ?_; (with_reducible refine (sumcheck_sum.calls k a0 _ _ l1 _ _ l2 t483 t484 _ ?side1 ?side2 ?side3 ?side4 A6.out).mono ?_); (case side1 => repeat (first | exact (Kd.C_below HR1.out HB.out) | (with_reducible refine Kd.C_alloc ?_ _) | (with_reducible refine Kd.C_drewN ?_ _) | (with_reducible refine Kd.C_drew ?_))); (case side2 => exact HC1.out); (case side3 => repeat (first | exact (Kd.C_below HR2.out HB.out) | (with_reducible refine Kd.C_alloc ?_ _) | (with_reducible refine Kd.C_drewN ?_ _) | (with_reducible refine Kd.C_drew ?_))); (case side4 => exact HC2.out); rintro e w9 ⟨rfl, hb⟩; refine ⟨_, rfl, ?_⟩; have n0_ := Aside0.mk (blk_below (g := gb481) (o := .cells #[.int .u64 0, .int .u64 0] 28 (0, 0)) (by exact bF BK481.out) hb); have n1_ := Aside0.mk (below_step (by repeat (first | (with_reducible first | exact HB.out | apply bA | apply bN | apply bD | refine bS ?_ GE481.out) | exact HB.out)) hb); clear BK481; clear HB; have BK481 := n0_; have HB := n1_; clear n0_ n1_; (try clear hb); (try clear hb2); (try clear hk); (try clear hi); have hcz10_0 : w9.cell? ⟨gb481, 0, none⟩ = some (.int .u64 0) := (blk_cell BK481.out 0).trans rfl; have hcz10_1 : w9.cell? ⟨gb481, 1, none⟩ = some (.int .u64 0) := (blk_cell BK481.out 1).trans rfl; have hfz10_0 := blk_frozen BK481.out 0; have hfz10_1 := blk_frozen BK481.out 1))
  refine bodyPost_ret (results_ct rfl _ _ gb481 28 #[.int .u64 t483, .int .u64 t484] (0, 0) _ rfl (by (with_reducible repeat (first | refine blk_drewN ?_ _ | refine blk_drew ?_ | refine blk_alloc ?_ _)); refine blk_put (cs := #[.int .u64 t483, .int .u64 0]) ?_ 1 _ rfl; (with_reducible repeat (first | refine blk_drewN ?_ _ | refine blk_drew ?_ | refine blk_alloc ?_ _)); refine blk_put (cs := #[.int .u64 0, .int .u64 0]) ?_ 0 _ rfl; exact bF BK481.out) Try.underlying28 rfl (by kernel_rfl)) rfl ?_
  exact ⟨by first | rfl | (simp [errW_none, errW_some] <;> rfl) | (simp [*, errW_none, errW_some] <;> rfl), by repeat (first | (with_reducible first | exact HB.out | apply bA | apply bN | apply bD | refine bS ?_ GE481.out) | exact HB.out)⟩
 ·rw [if_neg c5] at H
  have c5b0 : (t482 == 0) = false := beq_eq_false_iff_ne.mpr c5
  have c5b1 : (t482 != 0) = true := bne_iff_ne.mpr c5
  simp only [Option.some.injEq, Prod.mk.injEq] at H
  obtain ⟨rfl, rfl, rfl⟩ := H
  go_enter Try.func52, Try.ntmps52
  go_wp2_with (first | ((with_reducible refine gate_dst (N := 6) rfl ?_); refine box_event ?hg (N := 6) ?hd (cs := #[.int .u64 0, .int .u64 0]) (t := 28) ?hr ?_; (case hd => rfl); (case hg => rfl); (case hr => first | (go_simp; done) | (go_simp; rfl)); intro gb481 hg w11 hbox hb; have n0_ := Aside0.mk (below_step (by exact lF HB.out) hb); have n1_ := Aside0.mk (hbox); have n2_ := Aside0.mk ((by rw [hg]; exact (below_size (by exact lF HB.out)) : w.heap.size ≤ gb481)); have n3_ := Aside0.mk ((by rw [hg]; exact (below_size (by exact lF HB.out)) : w.heap.size ≤ gb481)); clear HB; have HB := n0_; have BK481 := n1_; have GW481 := n2_; have GE481 := n3_; clear n0_ n1_ n2_ n3_; clear hb hbox hg) | ((with_reducible refine gate_callee (f := 51) rfl ?_); refine goesL_ (some 12) rfl rfl Try.func51 (by kernel_rfl) rfl #[.int .i64 a0, .slice A1 l1.length c1, .slice A2 l2.length c2] rfl (by (try simp only [List.map_toArray, List.map_cons, List.map_nil]); first | done | rfl | (simp only [List.length_drop, List.length_take]; rfl)) ?_; (with_reducible refine (sumcheck_Check.calls k a0 _ _ l1 _ _ l2 t482 _ ?side1 ?side2 ?side3 ?side4 A4.out).mono ?_); (case side1 => repeat (first | exact (Kd.C_below HR1.out HB.out) | (with_reducible refine Kd.C_alloc ?_ _) | (with_reducible refine Kd.C_drewN ?_ _) | (with_reducible refine Kd.C_drew ?_))); (case side2 => exact HC1.out); (case side3 => repeat (first | exact (Kd.C_below HR2.out HB.out) | (with_reducible refine Kd.C_alloc ?_ _) | (with_reducible refine Kd.C_drewN ?_ _) | (with_reducible refine Kd.C_drew ?_))); (case side4 => exact HC2.out); rintro e w12 ⟨rfl, hb⟩; refine ⟨_, rfl, ?_⟩; have n0_ := Aside0.mk (blk_below (g := gb481) (o := .cells #[.int .u64 0, .int .u64 0] 28 (0, 0)) (by exact bF BK481.out) hb); have n1_ := Aside0.mk (below_step (by repeat (first | (with_reducible first | exact HB.out | apply bA | apply bN | apply bD | refine bS ?_ GE481.out) | exact HB.out)) hb); clear BK481; clear HB; have BK481 := n0_; have HB := n1_; clear n0_ n1_; (try clear hb); (try clear hb2); (try clear hk); (try clear hi); have hcz13_0 : w12.cell? ⟨gb481, 0, none⟩ = some (.int .u64 0) := (blk_cell BK481.out 0).trans rfl; have hcz13_1 : w12.cell? ⟨gb481, 1, none⟩ = some (.int .u64 0) := (blk_cell BK481.out 1).trans rfl; have hfz13_0 := blk_frozen BK481.out 0; have hfz13_1 := blk_frozen BK481.out 1))
  refine bodyPost_ret (results_ct rfl _ _ gb481 28 #[.int .u64 0, .int .u64 0] (0, 0) _ rfl (by (with_reducible repeat (first | refine blk_drewN ?_ _ | refine blk_drew ?_ | refine blk_alloc ?_ _)); refine blk_put (cs := #[.int .u64 0, .int .u64 0]) ?_ 1 _ rfl; (with_reducible repeat (first | refine blk_drewN ?_ _ | refine blk_drew ?_ | refine blk_alloc ?_ _)); refine blk_put (cs := #[.int .u64 0, .int .u64 0]) ?_ 0 _ rfl; exact bF BK481.out) Try.underlying28 rfl (by kernel_rfl)) rfl ?_
  exact ⟨by first | rfl | (simp [errW_none, errW_some] <;> rfl) | (simp [*, errW_none, errW_some] <;> rfl), by repeat (first | (with_reducible first | exact HB.out | apply bA | apply bN | apply bD | refine bS ?_ GE481.out) | exact HB.out)⟩
end Go.Proofs.Ytoaepfgfbfgcdaa.Q
namespace Go.Proofs.Ytoaepfgfbfgcdaa.Q
open Go.RowKit Go.Proofs.YtoaepfgfbfgcdaaW.PrintWords Go.Proofs.YtoaepfgfbfgcdaaW.PrintLast Go.Proofs.YtoaepfgfbfgcdaaW.PrintMore
attribute [local go_sem] max2_int min2_int max_two min_two max_three min_three max_four min_four
set_option linter.unusedVariables false
set_option linter.unusedSimpArgs false
set_option maxHeartbeats 2000000 in
set_option maxRecDepth 100000 in
theorem clone_rows (w0 : World) (A0 : Option Addr) (c0 : Nat) (l0 : List (List S28)) (w : World) (hb0 : Below w0.heap.size w0 w) (hr0 : Kd.C (Kd.slice 28 k28) w0 A0 l0.length l0) (hb : l0.length * 24 ≤ 140737488355328) :
  Calls Try.prog 82 #[.slice A0 l0.length c0] w fun e w' => ∃ v0_ : Value, e = .returned (v0_) ∧ Kd.R (Kd.mix 28 k28 k28 w0) 53 w' w.heap.size (fun _ => True) v0_ l0 ∧ Below w.heap.size w w' := by
 have hsz : l0.length ≤ 9223372036854775807 := hr0.2.1
 have hrr : ReadsRow ((Kd.slice 28 k28).K w0) 1 w A0 l0.length l0 := ReadsRow.imp_ hr0 hb0 (fun _ _ hp => hp)
 cases A0 with
 | none =>
  have hl : l0.length = 0 := by
   rcases Nat.eq_zero_or_pos l0.length with h | h
   ·exact h
   ·obtain ⟨ad, e, _⟩ := hr0.2.2 h
    cases e
  obtain rfl := List.eq_nil_of_length_eq_zero hl
  clear hl hb hr0 hrr
  have he : ∀ W, (binOp .eql 42 (.slice none 0 c0) (.slice none 0 0)).run Try.prog W = .ok (.bool true) W := fun W => Lib.run_eql_slice_nil (P := Try.prog) W 42 53 none 0 c0 0 0 Try.underlying42
  go_enter Try.func82, Try.ntmps82
  go_wp2
  go_ret
  exact ⟨_, rfl, Kd.R_nil _ _ _ _ _, Below.refl _ _⟩
 | some ad =>
  have he : ∀ W, (binOp .eql 42 (.slice (some ad) l0.length c0) (.slice none 0 0)).run Try.prog W = .ok (.bool false) W := fun W => Lib.run_eql_slice_nil (P := Try.prog) W 42 53 (some ad) l0.length c0 0 0 Try.underlying42
  have HR := Aside0.mk hrr
  have HL := Aside0.mk hb
  clear hr0 hb hrr
  go_enter Try.func82, Try.ntmps82
  go_wp2_with (first | ((with_reducible refine gate_dst (N := 5) rfl ?_); refine Kd.R_lit (Kd.mix 28 k28 k28 w0) _ 53 ?hg (N := 5) ?hd (xs := ([] : List (List S28))) (inner := []) (ok := fun _ => True) (okp := fun _ => True) ?hr ?hp (fun _ hk => hk) trivial (Below.refl _ _) (Nat.le_refl _) (by simp) ?_; (case hd => rfl); (case hg => rfl); (case hr => first | (go_simp; done) | (go_simp; rfl)); (case hp => exact Reps.none _ _); intro v1 w1 ho1 hb1 hg_ hnew_; clear hg_ hnew_; have HO := Aside0.mk ho1; have HB := Aside0.mk hb1; have HR1 := Aside0.mk (ReadsRow.imp_ HR.out hb1 (fun _ _ hp => hp)); clear ho1 hb1) | ((with_reducible refine gate_builtin (b := .append) (xs := #[.tmp 5, .tmp 6]) rfl ?_); at_builtin; refine Kd.R_append_rows (Kd.mix 28 k28 k28 w0) (w0 := w) w.heap.size rfl (.tmp 5) (.tmp 6) 42 53 (.slice none 0 0) 24 rfl Try.underlying42 info53 rfl (show 0 < 1 from by decide) (by omega) v1 ([] : List (List S28)) l0 _ _ _ (fun _ => True) (fun _ => False) rfl rfl HO.out HR1.out ?aK (fun _ h => h.elim) (fun _ _ => trivial) HB.out HB.out.size ?aL ?_; (case aK => (intro x cs h; exact Kd.slice_came h)); (case aL => (have := HL.out; simp; omega)); intro v2 w2 ho2 hb2 hg_ hnew_; clear hg_ hnew_; have HO2 := Aside0.mk ho2; have HB2 := Aside0.mk hb2; clear ho2 hb2))
  go_ret
  exact ⟨_, rfl, HO2.out, HB2.out⟩
end Go.Proofs.Ytoaepfgfbfgcdaa.Q
namespace Go.Proofs.Ytoaepfgfbfgcdaa.Q
open Go.RowKit Go.Proofs.YtoaepfgfbfgcdaaW.PrintWords Go.Proofs.YtoaepfgfbfgcdaaW.PrintLast Go.Proofs.YtoaepfgfbfgcdaaW.PrintMore
attribute [local go_sem] max2_int min2_int max_two min_two max_three min_three max_four min_four
set_option linter.unusedVariables false
set_option linter.unusedSimpArgs false
set_option maxHeartbeats 2000000 in
set_option maxRecDepth 100000 in
theorem cube_of.lit (a0 h l : Int) (B : Nat) (w : World) (hB : B < w.heap.size) (hc : w.cell? ⟨B, 0, none⟩ = some (.int .i64 a0)) :
  Calls Try.prog 163 #[.agg #[.int .u64 h, .int .u64 l], .pointer (some ⟨B, 0, none⟩)] w fun e w' => e = .returned (.bool (!ofB a0 h l)) ∧ Below w.heap.size w w' := by
 have hu28 := Try.underlying28
 go_enter Try.func163, Try.ntmps163
 go_wp2_with fail
 refine (octet_Of.calls a0 h l _ _ rfl).mono ?_
 rintro e w1 ⟨rfl, hb1⟩
 go_wp2
 go_ret
 exact ⟨rfl, ((Below.refl _ _).alloc (Nat.le_refl _) _).trans (hb1.mono (by simp))⟩
def cube_of.f (a0 : Int) (l1 : List (S28)) : Option (Bool) := some (!(l1.any fun x => !ofB a0 x.f0 x.f1))
set_option maxHeartbeats 8000000 in
set_option maxRecDepth 100000 in
theorem cube_of.calls (a0 : Int) (A1 : Option Addr) (c1 : Nat) (l1 : List (S28)) (r : Bool) (w : World) (hr1 : Kd.C k28 w A1 l1.length l1) (hc1 : l1.length ≤ c1) (h : cube_of.f a0 l1 = some r) :
  Calls Try.prog 129 #[.int .i64 a0, .slice A1 l1.length c1] w fun e w' => e = .returned (.bool r) ∧ Below w.heap.size w w' := by
 obtain rfl := Option.some.inj h
 clear h
 have HC := Aside0.mk (has_Elem (fun x => !ofB a0 x.f0 x.f1) 163 #[.pointer (some ⟨w.heap.size, 0, none⟩)] A1 c1 l1 (w.alloc (.cells #[.int .i64 a0] 3)) (Kd.C_below hr1 ((Below.refl _ _).alloc (Nat.le_refl _) _)) (fun args w => by kernel_rfl)
  (fun W x hb => (cube_of.lit a0 x.f0 x.f1 w.heap.size W (by have := hb.size; simp at this; omega) ((hb.cell (p := ⟨w.heap.size, 0, none⟩) (by simp)).trans (by simp [go_sem]))).mono fun e w' ⟨he, hb'⟩ => ⟨he, hb.trans (hb'.mono hb.size)⟩))
 clear hr1
 go_enter Try.func129, Try.ntmps129
 go_wp2_with fail
 refine HC.out.mono ?_
 rintro e w1 ⟨rfl, hb1⟩
 clear HC
 go_wp2
 go_ret
 exact ⟨rfl, ((Below.refl _ _).alloc (Nat.le_refl _) _).trans (hb1.mono (by simp))⟩
end Go.Proofs.Ytoaepfgfbfgcdaa.Q
namespace Go.Proofs.Ytoaepfgfbfgcdaa.Q
open Go.RowKit Go.Proofs.YtoaepfgfbfgcdaaW.PrintWords Go.Proofs.YtoaepfgfbfgcdaaW.PrintLast Go.Proofs.YtoaepfgfbfgcdaaW.PrintMore
attribute [local go_sem] max2_int min2_int max_two min_two max_three min_three max_four min_four
set_option linter.unusedVariables false
set_option linter.unusedSimpArgs false
def addE (a b : S28) : S28 := ⟨Go.bits .xor .u64 a.f0 b.f0, Go.bits .xor .u64 a.f1 b.f1⟩
def wrow (k : Nat) (a0 x0 x1 : Int) : List S28 → Option (List S28)
 | [] => some []
 | w :: r => (tower_Mul.f k a0 w.f0 w.f1 x0 x1).bind fun m => (wrow k a0 x0 x1 r).bind fun s => some (⟨m.1, m.2⟩ :: s)
theorem wrow_len {k : Nat} {a0 x0 x1 : Int} : ∀ {l U : List S28}, wrow k a0 x0 x1 l = some U → U.length = l.length
 | [], U, h => by cases h; rfl
 | w :: r, U, h => by
  obtain ⟨m, _, h⟩ := Option.bind_eq_some_iff.mp h
  obtain ⟨s, hs, h⟩ := Option.bind_eq_some_iff.mp h
  obtain rfl := Option.some.inj h
  rw [List.length_cons, wrow_len hs, List.length_cons]
theorem wrow_at {k : Nat} {a0 x0 x1 : Int} : ∀ {l U : List S28} (i : Nat), wrow k a0 x0 x1 l = some U → i < l.length → tower_Mul.f k a0 (l.getD i z28).f0 (l.getD i z28).f1 x0 x1 = some ((U.getD i z28).f0, (U.getD i z28).f1)
 | [], U, i, h, hi => absurd hi (Nat.not_lt_zero _)
 | w :: r, U, i, h, hi => by
  obtain ⟨m, hm, h⟩ := Option.bind_eq_some_iff.mp h
  obtain ⟨s, hs, h⟩ := Option.bind_eq_some_iff.mp h
  obtain rfl := Option.some.inj h
  cases i with
  | zero => simpa using hm
  | succ i => simpa using wrow_at i hs (by simpa using hi)
theorem wrow_mono (k : Nat) (a0 x0 x1 : Int) : ∀ l, LeO (wrow k a0 x0 x1 l) (wrow (k + 1) a0 x0 x1 l)
 | [] => LeO.refl _
 | w :: r => LeO.bind (tower_Mul.mono _ _ _ _ _ _) fun _ => LeO.bind (wrow_mono k a0 x0 x1 r) fun _ => LeO.refl _
def wts (k : Nat) (a0 : Int) : List S28 → List S28 → Option (List S28)
 | [], out => some out
 | x :: r, out => (wrow k a0 x.f0 x.f1 out).bind fun U => wts k a0 r (List.zipWith addE out U ++ U)
theorem wts_mono (k : Nat) (a0 : Int) : ∀ l out, LeO (wts k a0 l out) (wts (k + 1) a0 l out)
 | [], out => LeO.refl _
 | x :: r, out => LeO.bind (wrow_mono _ _ _ _ _) fun _ => wts_mono k a0 r _
def mixl {α : Type} (i : Nat) (a b : List α) : List α := a.take i ++ b.drop i
theorem mixl_zero {α : Type} (a b : List α) : mixl 0 a b = b := by simp [mixl]
theorem mixl_len {α : Type} (i : Nat) (a b : List α) (h : a.length = b.length) (hi : i ≤ b.length) : (mixl i a b).length = b.length := by simp [mixl]; omega
theorem mixl_all {α : Type} (a b : List α) (h : a.length = b.length) (i : Nat) (hi : i = b.length) : mixl i a b = a := by
 subst hi; unfold mixl; rw [List.drop_length, List.append_nil, ← h, List.take_length]
theorem mixl_at {α : Type} (z : α) (i : Nat) (a b : List α) (h : a.length = b.length) (hi : i < b.length) : (mixl i a b).getD i z = b.getD i z := by
 unfold mixl
 rw [List.getD_eq_getElem?_getD, List.getD_eq_getElem?_getD, List.getElem?_append_right (by simp; omega)]
 simp only [List.length_take]
 rw [Nat.min_eq_left (by omega), Nat.sub_self, List.getElem?_drop, Nat.add_zero]
theorem mixl_set {α : Type} (z : α) (i : Nat) (a b : List α) (h : a.length = b.length) (hi : i < b.length) : (mixl i a b).set i (a.getD i z) = mixl (i + 1) a b := by
 unfold mixl
 rw [List.set_append_right _ _ (by simp; omega)]
 simp only [List.length_take]
 rw [Nat.min_eq_left (by omega), Nat.sub_self, List.drop_eq_getElem_cons hi, List.set_cons_zero]
 rw [List.take_succ_eq_append_getElem (by omega), List.append_assoc]
 congr 2
 rw [List.getD_eq_getElem?_getD, List.getElem?_eq_getElem (by omega)]
 rfl
theorem zip_at (i : Nat) : ∀ (a b : List S28), a.length = b.length → i < b.length → (List.zipWith addE a b).getD i z28 = addE (a.getD i z28) (b.getD i z28) := by
 intro a b h hi
 rw [List.getD_eq_getElem?_getD, List.getD_eq_getElem?_getD, List.getD_eq_getElem?_getD, List.getElem?_zipWith, List.getElem?_eq_getElem (by omega), List.getElem?_eq_getElem hi]
 rfl
theorem put_Elem {W : World} {base : Nat} {ok : Nat → Prop} {g n cap : Nat} {xs : List S28} (h : Kd.R k28 28 W base ok (.slice (some ⟨g, 0, none⟩) n cap) xs) (i : Int) (h0 : 0 ≤ i) (h1 : i < n) (x' : S28) :
  W.cell? ⟨g, i.toNat * 2, none⟩ = some (.int .u64 (rd_T28 xs i).f0) ∧ W.cell? ⟨g, i.toNat * 2 + 1, none⟩ = some (.int .u64 (rd_T28 xs i).f1) ∧ W.frozen? ⟨g, i.toNat * 2, none⟩ = false ∧ W.frozen? ⟨g, i.toNat * 2 + 1, none⟩ = false ∧
  Kd.R k28 28 ((W.setCell ⟨g, i.toNat * 2, none⟩ (.int .u64 x'.f0)).setCell ⟨g, i.toNat * 2 + 1, none⟩ (.int .u64 x'.f1)) base ok (.slice (some ⟨g, 0, none⟩) n cap) (xs.set i.toNat x') ∧
  W.grownBy ((W.setCell ⟨g, i.toNat * 2, none⟩ (.int .u64 x'.f0)).setCell ⟨g, i.toNat * 2 + 1, none⟩ (.int .u64 x'.f1)) (some g) := by
 obtain ⟨c, hcl, hM, hcc, hf⟩ := Kd.R_elem h z28 i h0 h1
 obtain rfl := k28_openM hM
 obtain ⟨a, b⟩ := Kd.R_seg h i h0 h1 hcl hcc (seg := [.int .u64 x'.f0, .int .u64 x'.f1]) (j := 0) (show 0 + 2 ≤ 2 from by decide) (x' := x') (okp := fun k => ok k ∧ k ≠ g) (k28_mkM _ _ _ x') (fun _ hk => hk)
 exact ⟨hcc 0 _ rfl, hcc 1 _ rfl, hf 0, hf 1, a, b⟩
def cube_Weights.f (k : Nat) (a0 : Int) (l1 : List (S28)) : Option ((List (S28))) := (octet_Wide.f k a0).bind fun wd => if wd = 0 then some [] else if 16 < (l1.length : Int) then some [] else if (l1.any fun x => !ofB a0 x.f0 x.f1) = true then some [] else wts k a0 l1 [⟨0, 1⟩]
set_option maxHeartbeats 8000000 in
set_option maxRecDepth 100000 in
theorem cube_Weights.calls (k : Nat) (a0 : Int) (A1 : Option Addr) (c1 : Nat) (l1 : List (S28)) (r : List (S28)) (w : World) (hr1 : Kd.C k28 w A1 l1.length l1) (hc1 : l1.length ≤ c1) (h : cube_Weights.f k a0 l1 = some r) :
  Calls Try.prog 83 #[.int .i64 a0, .slice A1 l1.length c1] w fun e w' => ∃ v0_ : Value, e = .returned (v0_) ∧ Kd.R k28 28 w' w.heap.size (fun _ => True) v0_ r ∧ Below w.heap.size w w' := by
 unfold cube_Weights.f at h
 obtain ⟨wd, hwd, h⟩ := Option.bind_eq_some_iff.mp h
 have hm : l1.length ≤ 9223372036854775807 := hr1.2.1
 have HR := Aside0.mk hr1
 have HK := Aside0.mk hc1
 have HW := Aside0.mk (octet_Wide.calls k a0 wd w hwd)
 clear hr1 hc1 hwd
 have huE := Try.underlying28
 by_cases h1 : wd = 0
 ·rw [if_pos h1] at h
  obtain rfl := Option.some.inj h
  have b1 : (wd == 0) = true := beq_iff_eq.mpr h1
  clear h h1
  go_enter Try.func83, Try.ntmps83
  go_wp2_with fail
  refine HW.out.mono ?_
  rintro e w1 ⟨rfl, hd⟩
  clear HW
  go_wp2
  go_ret
  exact ⟨_, rfl, Kd.R_nil _ _ _ _ _, hd.below⟩
 rw [if_neg h1] at h
 have b1 : (wd == 0) = false := beq_eq_false_iff_ne.mpr h1
 clear h1
 by_cases h2 : 16 < (l1.length : Int)
 ·rw [if_pos h2] at h
  obtain rfl := Option.some.inj h
  clear h
  have b2 : decide (16 < l1.length) = true := decide_eq_true (by omega)
  go_enter Try.func83, Try.ntmps83
  go_wp2_with fail
  refine HW.out.mono ?_
  rintro e w1 ⟨rfl, hd⟩
  clear HW
  go_wp2
  go_ret
  exact ⟨_, rfl, Kd.R_nil _ _ _ _ _, hd.below⟩
 rw [if_neg h2] at h
 have b2 : decide (16 < l1.length) = false := decide_eq_false (by omega)
 have b3 : ¬ 16 < (l1.length : Int) := h2
 clear h2
 have HO := Aside0.mk (fun W1 (hb : Below w.heap.size w W1) => cube_of.calls a0 A1 c1 l1 _ W1 (Kd.C_below HR.out hb) HK.out rfl)
 obtain ⟨q, hq⟩ : ∃ q, (l1.any fun x => !ofB a0 x.f0 x.f1) = q := ⟨_, rfl⟩
 rw [hq] at h HO
 clear hq
 cases q with
 | true =>
  rw [if_pos rfl] at h
  obtain rfl := Option.some.inj h
  clear h
  go_enter Try.func83, Try.ntmps83
  go_wp2_with fail
  refine HW.out.mono ?_
  rintro e w1 ⟨rfl, hd⟩
  clear HW
  have HD := Aside0.mk hd.below
  clear hd
  go_wp2_with fail
  refine (HO.out _ HD.out).mono ?_
  rintro e2 w2 ⟨rfl, hb2⟩
  go_wp2
  go_ret
  exact ⟨_, rfl, Kd.R_nil _ _ _ _ _, below_step HD.out hb2⟩
 | false =>
  rw [if_neg (by simp)] at h
  have HH := Aside0.mk h
  clear h
  go_enter Try.func83, Try.ntmps83
  go_wp2_with fail
  refine HW.out.mono ?_
  rintro e w1 ⟨rfl, hd⟩
  clear HW
  have HD := Aside0.mk hd.below
  clear hd
  go_wp2_with fail
  refine (HO.out _ HD.out).mono ?_
  rintro e2 w2 ⟨rfl, hb2⟩
  clear HO
  have HD2 := Aside0.mk (below_step HD.out hb2)
  clear hb2 HD
  go_wp2_with fail
  refine (tower_One.calls 0 1 _ rfl).mono ?_
  rintro e3 w3 ⟨rfl, hb3⟩
  have HD3 := Aside0.mk (below_step HD2.out hb3)
  clear hb3 HD2
  go_wp2_with (((with_reducible refine gate_dst (N := 26) rfl ?_); refine Kd.R_lit k28 _ 28 ?hg (N := 26) ?hd (xs := ([(⟨0, 1⟩ : S28)] : List (S28))) (inner := [.int .u64 0, .int .u64 1]) (ok := fun _ => True) (okp := fun _ => True) ?hr ?hp (fun _ hk => hk) trivial (Below.refl _ _) (Nat.le_refl _) (by simp) ?_; (case hd => rfl); (case hg => rfl); (case hr => first | (go_simp; done) | (go_simp; rfl)); (case hp => exact (Reps.c2 (show Kd.M k28 _ _ _ (⟨0, 1⟩ : S28) [.int .u64 0, .int .u64 1] from (k28_mkM _ _ _ (⟨0, 1⟩ : S28))) (Reps.none _ _))); intro v1 w4 ho1 hb1 hg_ hnew_; clear hg_ hnew_; have RO := Aside0.mk (Kd.R_lower ho1 HD3.out.size); have HB := Aside0.mk (below_step HD3.out hb1); clear ho1 hb1))
  go_loopg [5, 29] l1.length (fun gg v5 v29 wr => ∃ (y : Int) (O : List S28), v29 = .int .i64 y ∧ 0 ≤ y ∧ y ≤ l1.length ∧ l1.length - y.toNat ≤ gg ∧ Aside0 (Kd.R k28 28 wr w.heap.size (fun _ => True) v5 O) ∧ Aside0 (Below w.heap.size w wr) ∧ Aside0 (wts k a0 (l1.drop y.toNat) O = some r) ∧ Aside0 (O.length = 2 ^ y.toNat))
  case atStart => exact ⟨0, _, rfl, by omega, by omega, by omega, RO, HB, HH, ⟨rfl⟩⟩
  case round =>
   clear RO HB HH HD3
   obtain ⟨y, O, rfl, h0, h1, hg, RO, HB, HT, HN⟩ := hrel
   by_cases hlt : y < (l1.length : Int)
   ·have hyn : y.toNat < l1.length := by omega
    have HT2 := HT.out
    rw [List.drop_eq_getElem_cons hyn] at HT2
    obtain ⟨U, hU, hR⟩ := Option.bind_eq_some_iff.mp HT2
    have hx : l1[y.toNat] = rd_T28 l1 y := by unfold rd_T28; rw [List.getD_eq_getElem?_getD, List.getElem?_eq_getElem hyn]; rfl
    rw [hx] at hU
    obtain ⟨ad, e, hx0, hx1⟩ := at_T28 HR.out y h0 hlt
    cases e
    replace hx0 := (HB.out.cell (World.block_lt_of_cell? w _ hx0)).trans hx0
    replace hx1 := (HB.out.cell (World.block_lt_of_cell? w _ hx1)).trans hx1
    have HU := Aside0.mk hU
    have HR2 := Aside0.mk hR
    have hpos : 0 < O.length := by rw [HN.out]; exact Nat.pos_of_ne_zero (by simp)
    have hsmall : O.length ≤ 65536 := by rw [HN.out]; exact Nat.pow_le_pow_right (n := 2) (by decide) (show y.toNat ≤ 16 by omega)
    have HP := Aside0.mk hpos
    have HS := Aside0.mk hsmall
    clear HT HT2 hU hR hx hyn hpos hsmall
    obtain ⟨x0, hx0e⟩ : ∃ x0, (rd_T28 l1 y).f0 = x0 := ⟨_, rfl⟩
    obtain ⟨x1, hx1e⟩ : ∃ x1, (rd_T28 l1 y).f1 = x1 := ⟨_, rfl⟩
    rw [hx0e] at HU hx0
    rw [hx1e] at HU hx1
    clear hx0e hx1e
    have p0 := eq_true h0
    have q0 := eq_true hlt
    obtain ⟨go, co, rfl, hgb, hgl, hgc⟩ := Kd.R_form RO.out HP.out
    have hgo : go < wr.heap.size := hgl
    obtain ⟨W1, hW1⟩ : ∃ W1, W1 = wr.alloc (.cells #[.int .u64 x0, .int .u64 x1] 28) := ⟨_, rfl⟩
    have hs1 : W1.heap.size = wr.heap.size + 1 := by rw [hW1]; simp
    have BX := Aside0.mk (show W1.heap[wr.heap.size]? = some (.cells #[.int .u64 x0, .int .u64 x1] 28 (0, 0)) by rw [hW1]; exact blk_new _ _)
    have RO1 := Aside0.mk (show Kd.R k28 28 W1 w.heap.size (fun _ => True) _ O by rw [hW1]; exact Kd.R_alloc RO.out _)
    have HB1 := Aside0.mk (show Below w.heap.size w W1 by rw [hW1]; exact HB.out.alloc HB.out.size _)
    have HW1 := Aside0.mk hW1
    have HS1 := Aside0.mk hs1
    obtain ⟨gx, hgx⟩ : ∃ gx, gx = wr.heap.size := ⟨_, rfl⟩
    rw [← hgx] at BX HS1 hgo
    have HGX := Aside0.mk hgx
    clear hW1 hs1 RO HB hgl hgb hgc hgx
    go_wp2_with (((with_reducible refine gate_dst (N := 35) rfl ?_); (rw [← HW1.out]); (rw [← HGX.out]); (refine Kd.R_make k28 _ 28 ?hg (N := 35) ?hd 53 (.tmp 34) (.tmp 34) ?ho (O.length : Int) ?hx ?hy Try.underlying53 (.agg #[(.int .u64 0), (.int .u64 0)]) 16 info28 rfl ?hs0 ?hb0 z28 (ok := fun _ => True) (okp := fun _ => True) (k28_mkM _ _ _ z28) (fun _ hk => hk) trivial ?h0 ?hl (Below.refl _ _) (Nat.le_refl _) ?_); (case hd => rfl); (case hg => rfl); (case ho => rfl); (case hx => rfl); (case hy => rfl); (case hs0 => decide); (case hb0 => decide); (case h0 => omega); (case hl => (have := HS.out; omega)); intro v2 w5 ho2 hb2 hg_ hnew_; clear hg_ hnew_; have RU := Aside0.mk ho2; have HB2 := Aside0.mk hb2; clear ho2 hb2))
    have hlen : (List.replicate (O.length : Int).toNat z28).length = O.length := by simp
    obtain ⟨gu, cu, hv2, hub, hul, _⟩ := Kd.R_form RU.out (by rw [hlen]; exact HP.out)
    rw [hlen] at hv2
    subst hv2
    rw [Int.toNat_natCast] at RU
    clear hlen
    have hgu : gx < gu := by have := HS1.out; omega
    have flat : ∀ {ok1 ok2 : Nat → Prop} {x : S28} {cs : List Value}, k28.M w5 w.heap.size ok1 x cs → k28.M w5 w.heap.size ok2 x cs := fun h => by obtain rfl := k28_openM h; exact k28_mkM _ _ _ _
    have RO5 := Aside0.mk (Kd.R_flat (ok' := fun k => k = go) flat (Kd.R_below RO1.out HB2.out) (fun k hk _ => by simpa [Value.ownBlock, eq_comm] using hk))
    have RU5 := Aside0.mk (Kd.R_flat (ok' := fun k => k = gu) flat (Kd.R_lower RU.out HB1.out.size) (fun k hk _ => by simpa [Value.ownBlock, eq_comm] using hk))
    have BX5 := Aside0.mk (blk_below BX.out HB2.out)
    have HB5 := Aside0.mk (below_step HB1.out HB2.out)
    clear flat RU HB2 RO1 HB1 BX HW1 HS1 hub hul
    obtain ⟨vo, hvo⟩ : ∃ vo : Value, vo = .slice (some ⟨go, 0, none⟩) O.length co := ⟨_, rfl⟩
    obtain ⟨Z, hZ⟩ : ∃ Z, Z = List.replicate O.length z28 := ⟨_, rfl⟩
    have HZ := Aside0.mk (show Z.length = O.length by rw [hZ]; simp)
    rw [← hZ] at RU5
    have HUL := Aside0.mk (wrow_len HU.out)
    clear hZ
    obtain ⟨O', hO'⟩ : ∃ O', O' = List.zipWith addE O U := ⟨_, rfl⟩
    have HO' := Aside0.mk hO'
    have HOL := Aside0.mk (show O'.length = O.length by rw [hO', List.length_zipWith, HUL.out, Nat.min_self])
    clear hO' hvo
    go_wp2_with fail
    go_loopg [38] O.length (fun gg v38 wr2 => ∃ x : Int, v38 = .int .i64 x ∧ 0 ≤ x ∧ x ≤ O.length ∧ O.length - x.toNat ≤ gg ∧ Aside0 (Kd.R k28 28 wr2 w.heap.size (fun k => k = go) (.slice (some ⟨go, 0, none⟩) O.length co) (mixl x.toNat O' O)) ∧ Aside0 (Kd.R k28 28 wr2 w.heap.size (fun k => k = gu) (.slice (some ⟨gu, 0, none⟩) O.length cu) (mixl x.toNat U Z)) ∧ Aside0 (wr2.heap[gx]? = some (.cells #[.int .u64 x0, .int .u64 x1] 28 (0, 0))) ∧ Aside0 (Below w.heap.size w wr2))
    case atStart => exact ⟨0, rfl, by omega, by omega, by omega, ⟨by rw [show (0 : Int).toNat = 0 from rfl, mixl_zero]; exact RO5.out⟩, ⟨by rw [show (0 : Int).toNat = 0 from rfl, mixl_zero]; exact RU5.out⟩, BX5, HB5⟩
    case round =>
     clear RO5 RU5 BX5 HB5
     obtain ⟨x, rfl, g0, g1, gg, RO, RU, BX, HB⟩ := hrel
     by_cases hl2 : x < (O.length : Int)
     ·have hxn : x.toNat < O.length := by omega
      have hmul := wrow_at x.toNat HU.out hxn
      obtain ⟨ho0, ho1, hf0, hf1, _, _⟩ := put_Elem RO.out x g0 hl2 (O'.getD x.toNat z28)
      rw [show rd_T28 (mixl x.toNat O' O) x = O.getD x.toNat z28 from mixl_at z28 x.toNat O' O HOL.out hxn] at ho0 ho1
      obtain ⟨w0, hw0⟩ : ∃ w0, (O.getD x.toNat z28).f0 = w0 := ⟨_, rfl⟩
      obtain ⟨w1', hw1⟩ : ∃ w1, (O.getD x.toNat z28).f1 = w1 := ⟨_, rfl⟩
      rw [hw0] at hmul ho0
      rw [hw1] at hmul ho1
      have HW0 := Aside0.mk hw0
      have HW1 := Aside0.mk hw1
      clear hw0 hw1
      obtain ⟨W1, hW1⟩ : ∃ W1, W1 = wr.alloc (.cells #[.int .u64 w0, .int .u64 w1'] 28) := ⟨_, rfl⟩
      have a0x : (wr.alloc (.cells #[.int .u64 w0, .int .u64 w1'] 28)).cell? ⟨gx, 0, none⟩ = some (.int .u64 x0) := (World.cell?_alloc_lt wr _ ⟨gx, 0, none⟩ (blk_lt BX.out)).trans (blk_cell BX.out 0)
      have a1x : (wr.alloc (.cells #[.int .u64 w0, .int .u64 w1'] 28)).cell? ⟨gx, 1, none⟩ = some (.int .u64 x1) := (World.cell?_alloc_lt wr _ ⟨gx, 1, none⟩ (blk_lt BX.out)).trans (blk_cell BX.out 1)
      have HM := Aside0.mk hmul
      have HXN := Aside0.mk hxn
      have HW := Aside0.mk hW1
      clear hmul hxn hW1
      have p0 := eq_true g0
      have q0 := eq_true hl2
      go_wp2_with fail
      obtain ⟨gw, hgw⟩ : ∃ gw, gw = wr.heap.size := ⟨_, rfl⟩
      rw [← HW.out, ← hgw]
      have BW := Aside0.mk (show W1.heap[gw]? = some (.cells #[.int .u64 w0, .int .u64 w1'] 28 (0, 0)) by rw [HW.out, hgw]; exact blk_new _ _)
      have hbW : Below wr.heap.size wr W1 := by rw [HW.out]; exact (Below.refl _ _).alloc (Nat.le_refl _) _
      have hlo : go < gw := by rw [hgw]; exact Kd.R_lt RO.out go (by simp [Value.ownBlock])
      have hlu : gu < gw := by rw [hgw]; exact Kd.R_lt RU.out gu (by simp [Value.ownBlock])
      have hlx : gx < gw := by rw [hgw]; exact blk_lt BX.out
      clear a0x a1x ho0 ho1 hf0 hf1
      have HBW := Aside0.mk hbW
      have HGW := Aside0.mk hgw
      clear hbW hgw
      obtain ⟨UU, hUU⟩ : ∃ UU, U.getD x.toNat z28 = UU := ⟨_, rfl⟩
      rw [hUU] at HM
      have HUU := Aside0.mk hUU
      clear hUU
      refine (tower_Mul.calls k a0 w0 w1' x0 x1 UU.f0 UU.f1 W1 HM.out).mono ?_
      rintro e w2 ⟨rfl, hb2⟩
      have HB2 := Aside0.mk (below_step HBW.out hb2)
      have BW2 := Aside0.mk (blk_below BW.out hb2)
      have RO2 := Aside0.mk (Kd.R_below RO.out HB2.out)
      have RU2 := Aside0.mk (Kd.R_below RU.out HB2.out)
      have BX2 := Aside0.mk (blk_below BX.out HB2.out)
      have HBB := Aside0.mk (below_step HB.out HB2.out)
      clear hb2 HB2 BW RO RU BX HB HBW HM HW
      have hxU : x < (O.length : Int) := hl2
      obtain ⟨hu0, hu1, fu0, fu1, hR3, hG3⟩ := put_Elem RU2.out x g0 hl2 UU
      obtain ⟨W3, hW3⟩ : ∃ W3, W3 = (w2.setCell ⟨gu, x.toNat * 2, none⟩ (.int .u64 UU.f0)).setCell ⟨gu, x.toNat * 2 + 1, none⟩ (.int .u64 UU.f1) := ⟨_, rfl⟩
      rw [← hW3] at hR3 hG3
      have RU3 := Aside0.mk hR3
      have G3 := Aside0.mk hG3
      have HW3 := Aside0.mk hW3
      clear hR3 hG3 hW3 RU2
      go_wp2_with fail
      rw [← HW3.out]
      clear hu0 hu1 fu0 fu1
      have GB := Aside0.mk (show Below w2.heap.size w2 w2 from Below.refl _ _)
      have HBB3 := Aside0.mk (show Below w.heap.size w W3 from HBB.out.grown G3.out HBB.out.size (fun k e => by cases e; exact Kd.R_base RU3.out gu (by simp [Value.ownBlock])))
      have RO3 := Aside0.mk (Kd.R_grown RO2.out G3.out (fun k hk e => by cases e; omega))
      have BX3 := Aside0.mk ((G3.out.block gx (blk_lt BX2.out) (fun e => by cases e; omega)).trans BX2.out)
      have BW3 := Aside0.mk ((G3.out.block gw (blk_lt BW2.out) (fun e => by cases e; omega)).trans BW2.out)
      have hx2 : x.toNat < (mixl x.toNat U Z).length := by rw [mixl_len _ _ _ (by rw [HUL.out, HZ.out]) (by rw [HZ.out]; omega), HZ.out]; omega
      obtain ⟨su0, su1, _, _, _, _⟩ := put_Elem RU3.out x g0 hxU UU
      rw [show rd_T28 ((mixl x.toNat U Z).set x.toNat UU) x = UU from by unfold rd_T28; rw [List.getD_eq_getElem?_getD, List.getElem?_set_self hx2]; rfl] at su0 su1
      obtain ⟨so0, so1, sf0, sf1, _, _⟩ := put_Elem RO3.out x g0 hxU UU
      rw [show rd_T28 (mixl x.toNat O' O) x = O.getD x.toNat z28 from mixl_at z28 x.toNat O' O HOL.out HXN.out] at so0 so1
      rw [HW0.out] at so0
      rw [HW1.out] at so1
      have sw0 : W3.cell? ⟨gw, 0, none⟩ = some (.int .u64 w0) := blk_cell BW3.out 0
      have sw1 : W3.cell? ⟨gw, 1, none⟩ = some (.int .u64 w1') := blk_cell BW3.out 1
      have lg : go < W3.heap.size := Kd.R_lt RO3.out go (by simp [Value.ownBlock])
      have lu : gu < W3.heap.size := Kd.R_lt RU3.out gu (by simp [Value.ownBlock])
      have lw : gw < W3.heap.size := blk_lt BW3.out
      have LG := Aside0.mk lg
      have LU := Aside0.mk lu
      have LW := Aside0.mk lw
      clear RO2 BX2 BW2 HBB G3 HW3 hx2 GB lg lu lw
      have n1 : gw ≠ go := by omega
      have n2 : gu ≠ go := by omega
      have RO4 := Aside0.mk (fun W' (hb : Below W3.drew.heap.size W3.drew W') => Kd.R_below (Kd.R_drew RO3.out) hb)
      go_region_held3 (fun w' => w'.cell? ⟨gw, 0, none⟩ = some (.int .u64 w0) ∧ w'.cell? ⟨gw, 1, none⟩ = some (.int .u64 w1') ∧ w'.cell? ⟨gu, x.toNat * 2, none⟩ = some (.int .u64 UU.f0) ∧ w'.cell? ⟨gu, x.toNat * 2 + 1, none⟩ = some (.int .u64 UU.f1))
       (first | go_keep | (go_split_ands; exact ⟨(cell_far (p := ⟨go, x.toNat * 2 + 1, none⟩) (a := ⟨gw, 0, none⟩) n1 _).trans ((cell_far (p := ⟨go, x.toNat * 2, none⟩) (a := ⟨gw, 0, none⟩) n1 _).trans (by assumption)), (cell_far (p := ⟨go, x.toNat * 2 + 1, none⟩) (a := ⟨gw, 1, none⟩) n1 _).trans ((cell_far (p := ⟨go, x.toNat * 2, none⟩) (a := ⟨gw, 1, none⟩) n1 _).trans (by assumption)), (cell_far (p := ⟨go, x.toNat * 2 + 1, none⟩) (a := ⟨gu, x.toNat * 2, none⟩) n2 _).trans ((cell_far (p := ⟨go, x.toNat * 2, none⟩) (a := ⟨gu, x.toNat * 2, none⟩) n2 _).trans (by assumption)), (cell_far (p := ⟨go, x.toNat * 2 + 1, none⟩) (a := ⟨gu, x.toNat * 2 + 1, none⟩) n2 _).trans ((cell_far (p := ⟨go, x.toNat * 2, none⟩) (a := ⟨gu, x.toNat * 2 + 1, none⟩) n2 _).trans (by assumption))⟩) | (go_split_ands; exact ⟨(hbd.cell (p := ⟨gw, 0, none⟩) LW.out).trans (by assumption), (hbd.cell (p := ⟨gw, 1, none⟩) LW.out).trans (by assumption), (hbd.cell (p := ⟨gu, x.toNat * 2, none⟩) LU.out).trans (by assumption), (hbd.cell (p := ⟨gu, x.toNat * 2 + 1, none⟩) LU.out).trans (by assumption)⟩))
       ((go_at_call 60; refine (tower_Add.calls w0 w1' UU.f0 UU.f1 _ _ _ rfl).mono ?_; rintro e3 w4 ⟨rfl, hbd⟩; have HBD := Aside0.mk hbd; have so2 := (hbd.cell (p := ⟨go, x.toNat * 2, none⟩) LG.out).trans so0; have so3 := (hbd.cell (p := ⟨go, x.toNat * 2 + 1, none⟩) LG.out).trans so1; have sf2 := (hbd.frozen (p := ⟨go, x.toNat * 2, none⟩) LG.out).trans sf0; have sf3 := (hbd.frozen (p := ⟨go, x.toNat * 2 + 1, none⟩) LG.out).trans sf1))
      have RO5 := RO4.out w4 HBD.out
      have hB4 : Below W3.heap.size W3 w4 := ⟨HBD.out.os, HBD.out.tape, HBD.out.output, HBD.out.size, HBD.out.block⟩
      obtain ⟨_, _, _, _, hRF, hGF⟩ := put_Elem RO5 x g0 hxU (addE ⟨w0, w1'⟩ UU)
      have HZP := zip_at x.toNat O U HUL.out.symm (by rw [HUL.out]; exact HXN.out)
      have eO : O'.getD x.toNat z28 = addE ⟨w0, w1'⟩ UU := by
       rw [HO'.out, HZP, HUU.out]
       congr 1
       rw [← HW0.out, ← HW1.out]
      have eS : (mixl x.toNat O' O).set x.toNat (addE ⟨w0, w1'⟩ UU) = mixl (x.toNat + 1) O' O := by rw [← eO]; exact mixl_set z28 x.toNat O' O HOL.out HXN.out
      rw [eS] at hRF
      have eU := mixl_set z28 x.toNat U Z (by rw [HUL.out, HZ.out]) (by rw [HZ.out]; exact HXN.out)
      rw [HUU.out] at eU
      have RUF := Kd.R_grown (Kd.R_below RU3.out hB4) hGF (fun k hk e => by cases e; omega)
      rw [eU] at RUF
      have BXF := (hGF.block gx (blk_lt (blk_below BX3.out hB4)) (fun e => by cases e; omega)).trans (blk_below BX3.out hB4)
      have HBF := (below_step HBB3.out hB4).grown hGF (below_step HBB3.out hB4).size (fun k e => by cases e; exact Kd.R_base RO5 go (by simp [Value.ownBlock]))
      have et : (x + 1).toNat = x.toNat + 1 := by omega
      rw [← et] at hRF RUF
      have F1 := Aside0.mk hRF
      have F2 := Aside0.mk RUF
      have F3 := Aside0.mk BXF
      have F4 := Aside0.mk HBF
      clear hRF RUF BXF HBF RO5 hB4 hGF HZP eO eU eS RO4 RO3 RU3 HBB3 BX3 BW3 so0 so1 so2 so3 sf0 sf1 sf2 sf3 su0 su1 sw0 sw1 hbd et
      go_wp2
      go_roundg (O.length - (x + 1).toNat)
      case measure => omega
      case rel => exact ⟨x + 1, by (have e_ : wrap64 (x + 1) = x + 1 := by (unfold wrap64; have := HS.out; omega)); first | rfl | rw [e_] | (simp; exact e_), by omega, by omega, by omega, F1, F2, F3, F4⟩
     ·have hxe : x.toNat = O.length := by omega
      have RO6 := RO.out
      have RU6 := RU.out
      rw [hxe] at RO6 RU6
      rw [mixl_all O' O HOL.out _ rfl] at RO6
      rw [mixl_all U Z (by rw [HUL.out, HZ.out]) _ HZ.out.symm] at RU6
      clear hxe RO RU
      have RO := Aside0.mk RO6
      have RU := Aside0.mk RU6
      clear RO6 RU6
      have RC : Kd.C k28 wr (some ⟨gu, 0, none⟩) O.length U := by
       have h_ := Kd.R_reads' RU.out
       rw [h_.1]; exact h_.2.2
      have HRC := Aside0.mk RC
      have ROT := Aside0.mk (Kd.R_mono RO.out (ok' := fun _ => True) (fun _ _ => trivial))
      clear RC RO RU BX
      have hgr := HB.out.size
      go_wp2_with (((with_reducible refine gate_builtin (b := .append) (xs := #[.tmp 60, .tmp 61]) rfl ?_); at_builtin; refine Kd.R_append_rows k28 (w0 := w) w.heap.size rfl (.tmp 60) (.tmp 61) 53 28 (.agg #[(.int .u64 0), (.int .u64 0)]) 16 rfl Try.underlying53 info28 rfl (by decide) (by omega) (.slice (some ⟨go, 0, none⟩) O.length co) O' U _ _ _ (fun _ => True) (fun _ => False) rfl rfl ROT.out HRC.out ?aK (fun _ h => h.elim) (fun _ _ => trivial) HB.out HB.out.size ?aL ?_; (case aK => (intro x cs h; obtain rfl := k28_open h; exact k28_mkM _ _ _ x)); (case aL => (have := HS.out; have := HOL.out; omega)); intro v6 w6 ho6 hb6 hg_ hnew_; clear hg_ hnew_; have RF := Aside0.mk ho6; have HF := Aside0.mk hb6; clear ho6 hb6))
      go_roundg (l1.length - (y + 1).toNat)
      case measure => omega
      case rel =>
       have et : (y + 1).toNat = y.toNat + 1 := by omega
       exact ⟨y + 1, O' ++ U, by first | rfl | (simp; done), by omega, by omega, by omega, RF, HF, ⟨by rw [et, HO'.out]; exact HR2.out⟩, ⟨by rw [List.length_append, HOL.out, HUL.out, HN.out, et, Nat.pow_succ]; omega⟩⟩
   ·have he : wts k a0 (l1.drop y.toNat) O = some O := by rw [List.drop_eq_nil_of_le (by omega)]; rfl
    have hO : O = r := Option.some.inj (he.symm.trans HT.out)
    subst hO
    clear he HT
    go_wp2
    go_ret
    exact ⟨_, rfl, RO.out, HB.out⟩
end Go.Proofs.Ytoaepfgfbfgcdaa.Q
namespace Go.Proofs.Ytoaepfgfbfgcdaa.Q
open Go.RowKit Go.Proofs.YtoaepfgfbfgcdaaW.PrintWords Go.Proofs.YtoaepfgfbfgcdaaW.PrintLast Go.Proofs.YtoaepfgfbfgcdaaW.PrintMore
attribute [local go_sem] max2_int min2_int max_two min_two max_three min_three max_four min_four
set_option linter.unusedVariables false
set_option linter.unusedSimpArgs false
set_option maxHeartbeats 2000000 in
set_option maxRecDepth 100000 in
theorem zero_Sum.lit (a0 h l : Int) (B : Nat) (w : World) (hB : B < w.heap.size) (hc : w.cell? ⟨B, 0, none⟩ = some (.int .i64 a0)) :
  Calls Try.prog 80 #[.agg #[.int .u64 h, .int .u64 l], .pointer (some ⟨B, 0, none⟩)] w fun e w' => e = .returned (.bool (!ofB a0 h l)) ∧ Below w.heap.size w w' := by
 have hu28 := Try.underlying28
 go_enter Try.func80, Try.ntmps80
 go_wp2_with fail
 refine (octet_Of.calls a0 h l _ _ rfl).mono ?_
 rintro e w1 ⟨rfl, hb1⟩
 go_wp2
 go_ret
 exact ⟨rfl, ((Below.refl _ _).alloc (Nat.le_refl _) _).trans (hb1.mono (by simp))⟩
def zero_Sum.f (k : Nat) (a0 : Int) (l1 : List (List (S149))) (l2 : List (List (S28))) (a3_0 : Int) (a3_1 : Int) (l4 : List (S28)) : Option (Int × Int × Int) := (zero_ask.f k a0 l1 l2).bind fun e => if e = 0 then (zero_Mix.f k a0 (l2.length : Int) l1 a3_0 a3_1).bind fun m => (if m.2 = 0 then (if 0 < l2.length then (cube_Log.f k ((rdR l2 0).length : Int)).bind fun n => (if (l4.length : Int) = n then (if (l4.any fun x => !ofB a0 x.f0 x.f1) = true then some (0, 0, 5) else (cube_Weights.f k a0 l4).bind fun ws => (if (l2.length + 1) * 24 ≤ 140737488355328 then sumcheck_Sum.f k a0 m.1 (l2 ++ [ws]) else none)) else some (0, 0, 6)) else none) else some (0, 0, m.2)) else some (0, 0, e)
set_option maxHeartbeats 8000000 in
set_option maxRecDepth 100000 in
theorem zero_Sum.calls (k : Nat) (a0 : Int) (A1 : Option Addr) (c1 : Nat) (l1 : List (List (S149))) (A2 : Option Addr) (c2 : Nat) (l2 : List (List (S28))) (a3_0 : Int) (a3_1 : Int) (A4 : Option Addr) (c4 : Nat) (l4 : List (S28)) (r1 : Int) (r2 : Int) (r3 : Int) (w : World) (hr1 : Kd.C (Kd.slice 149 k149) w A1 l1.length l1) (hc1 : l1.length ≤ c1) (hr2 : Kd.C (Kd.slice 28 k28) w A2 l2.length l2) (hc2 : l2.length ≤ c2) (hr4 : Kd.C k28 w A4 l4.length l4) (hc4 : l4.length ≤ c4) (h : zero_Sum.f k a0 l1 l2 a3_0 a3_1 l4 = some (r1, r2, r3)) :
  Calls Try.prog 33 #[.int .i64 a0, .slice A1 l1.length c1, .slice A2 l2.length c2, .agg #[.int .u64 a3_0, .int .u64 a3_1], .slice A4 l4.length c4] w fun e w' => e = .returned (.tuple #[.agg #[.int .u64 r1, .int .u64 r2], .int .i64 r3]) ∧ Below w.heap.size w w' := by
 unfold zero_Sum.f at h
 have hm2 : l2.length ≤ 9223372036854775807 := hr2.2.1
 have hm4 : l4.length ≤ 9223372036854775807 := hr4.2.1
 obtain ⟨e, he, h⟩ := Option.bind_eq_some_iff.mp h
 obtain ⟨W, hW⟩ : ∃ W, W = ((w.alloc (.cells #[.int .i64 a0] 3)).alloc (.cells #[.int .u64 a3_0, .int .u64 a3_1] 28)).alloc (.cells #[.int .u64 0, .int .u64 0] 28) := ⟨_, rfl⟩
 have hB : Below w.heap.size w W := by rw [hW]; exact ((((Below.refl _ _).alloc (Nat.le_refl _) _).alloc (by simp) _).alloc (by simp; omega) _)
 have hs : w.heap.size + 2 < W.heap.size := by rw [hW]; simp
 have BL := Aside0.mk (show W.heap[w.heap.size]? = some (.cells #[.int .i64 a0] 3 (0, 0)) by rw [hW]; exact blk_below (blk_below (blk_new w _) ((Below.refl _ _).alloc (Nat.le_refl _) _)) ((Below.refl _ _).alloc (Nat.le_refl _) _))
 have BA := Aside0.mk (show W.heap[w.heap.size + 1]? = some (.cells #[.int .u64 a3_0, .int .u64 a3_1] 28 (0, 0)) by rw [hW]; exact blk_below (by have h_ := blk_new (w.alloc (.cells #[.int .i64 a0] 3)) (.cells #[.int .u64 a3_0, .int .u64 a3_1] 28); rw [World.size_alloc] at h_; exact h_) ((Below.refl _ _).alloc (Nat.le_refl _) _))
 have BR := Aside0.mk (show W.heap[w.heap.size + 2]? = some (.cells #[.int .u64 0, .int .u64 0] 28 (0, 0)) by rw [hW]; have h_ := blk_new ((w.alloc (.cells #[.int .i64 a0] 3)).alloc (.cells #[.int .u64 a3_0, .int .u64 a3_1] 28)) (.cells #[.int .u64 0, .int .u64 0] 28); rw [World.size_alloc, World.size_alloc] at h_; exact h_)
 have HW := Aside0.mk hW
 have HB := Aside0.mk hB
 have HS := Aside0.mk hs
 have H1 := Aside0.mk (Kd.C_below hr1 hB)
 have H2 := Aside0.mk (Kd.C_below hr2 hB)
 have H4 := Aside0.mk (Kd.C_below hr4 hB)
 have HK1 := Aside0.mk hc1
 have HK2 := Aside0.mk hc2
 have HK4 := Aside0.mk hc4
 have HE := Aside0.mk (zero_ask.calls k a0 A1 c1 l1 A2 c2 l2 e W H1.out hc1 H2.out hc2 he)
 clear hW hB hs hr1 hr2 hr4 he hc1 hc2 hc4
 have hu28 := Try.underlying28
 obtain ⟨gl, hgl⟩ : ∃ g, g = w.heap.size := ⟨_, rfl⟩
 obtain ⟨ga, hga⟩ : ∃ g, g = w.heap.size + 1 := ⟨_, rfl⟩
 obtain ⟨gr, hgr⟩ : ∃ g, g = w.heap.size + 2 := ⟨_, rfl⟩
 have hgr1 : w.heap.size + 1 + 1 = gr := by omega
 rw [← hgl] at BL
 rw [← hga] at BA
 rw [← hgr] at BR
 have bl : w.heap.size ≤ gr := by omega
 have BLE := Aside0.mk bl
 have HGL := Aside0.mk hgl
 have HGA := Aside0.mk hga
 have HGR := Aside0.mk hgr1
 clear hgl hga hgr hgr1 bl
 have lc := blk_cell BL.out 0
 have ac0 := blk_cell BA.out 0
 have ac1 := blk_cell BA.out 1
 by_cases he1 : ¬ e = 0
 ·have he0 := he1
  clear he1
  rw [if_neg he0] at h
  obtain ⟨rfl, rfl, rfl⟩ : 0 = r1 ∧ 0 = r2 ∧ e = r3 := by simpa using h
  have hb1 : (e != 0) = true := bne_iff_ne.mpr he0
  clear h he0
  go_enter Try.func33, Try.ntmps33
  go_wp2_with fail
  rw [← HW.out, HGR.out, ← HGA.out, ← HGL.out]
  clear HW
  go_wp2_with fail
  refine HE.out.mono ?_
  rintro e1 w1 ⟨rfl, hbb⟩
  clear HE
  have BR1 := Aside0.mk (blk_below BR.out hbb)
  have HB1 := Aside0.mk (below_step HB.out hbb)
  clear hbb
  have fr0 := blk_frozen BR1.out 0
  have fr1 := blk_frozen BR1.out 1
  have ce0 := (blk_cell BR1.out 0).trans (show _ = some (Value.int .u64 0) from rfl)
  have ce1 := (blk_cell BR1.out 1).trans (show _ = some (Value.int .u64 0) from rfl)
  go_wp2
  refine bodyPost_ret (results_ct rfl _ _ gr 28 #[.int .u64 0, .int .u64 0] (0, 0) _ rfl (blk_put (blk_put (cs := #[.int .u64 0, .int .u64 0]) BR1.out 0 _ rfl) 1 _ rfl) Try.underlying28 rfl (by kernel_rfl)) rfl ?_
  exact ⟨rfl, (HB1.out.setCell (p := ⟨gr, 0, none⟩) BLE.out _).setCell (p := ⟨gr, 1, none⟩) BLE.out _⟩
 obtain rfl : e = 0 := Decidable.byContradiction he1
 clear he1
 rw [if_pos rfl] at h
 obtain ⟨⟨ml, me⟩, hmx, h⟩ := Option.bind_eq_some_iff.mp h
 have HM := Aside0.mk (fun W1 (hb1 : Below W.heap.size W W1) => zero_Mix.calls k a0 (l2.length : Int) A1 c1 l1 a3_0 a3_1 ml me W1 (Kd.C_below H1.out hb1) HK1.out hmx)
 clear hmx
 by_cases hm1 : ¬ me = 0
 ·have he0 := hm1
  clear hm1
  rw [if_neg he0] at h
  obtain ⟨rfl, rfl, rfl⟩ : 0 = r1 ∧ 0 = r2 ∧ me = r3 := by simpa using h
  have hb1 : (me != 0) = true := bne_iff_ne.mpr he0
  clear h he0
  go_enter Try.func33, Try.ntmps33
  go_wp2_with fail
  rw [← HW.out, HGR.out, ← HGA.out, ← HGL.out]
  clear HW
  go_wp2_with fail
  refine HE.out.mono ?_
  rintro e1 w1 ⟨rfl, hbb⟩
  clear HE
  have BL1 := Aside0.mk (blk_below BL.out hbb)
  have BA1 := Aside0.mk (blk_below BA.out hbb)
  have BR1 := Aside0.mk (blk_below BR.out hbb)
  have HB1 := Aside0.mk (below_step HB.out hbb)
  have HBB := Aside0.mk hbb
  clear hbb lc ac0 ac1
  have lc := blk_cell BL1.out 0
  have ac0 := blk_cell BA1.out 0
  have ac1 := blk_cell BA1.out 1
  go_wp2_with fail
  refine (HM.out _ HBB.out).mono ?_
  rintro e2 w2 ⟨v2, rfl, hR2, hb2⟩
  clear HM lc ac0 ac1
  have BR2 := Aside0.mk (blk_below BR1.out hb2)
  have HB2 := Aside0.mk (below_step HB1.out hb2)
  clear hb2 hR2
  have fr0 := blk_frozen BR2.out 0
  have fr1 := blk_frozen BR2.out 1
  have ce0 := (blk_cell BR2.out 0).trans (show _ = some (Value.int .u64 0) from rfl)
  have ce1 := (blk_cell BR2.out 1).trans (show _ = some (Value.int .u64 0) from rfl)
  go_wp2
  refine bodyPost_ret (results_ct rfl _ _ gr 28 #[.int .u64 0, .int .u64 0] (0, 0) _ rfl (blk_put (blk_put (cs := #[.int .u64 0, .int .u64 0]) BR2.out 0 _ rfl) 1 _ rfl) Try.underlying28 rfl (by kernel_rfl)) rfl ?_
  exact ⟨rfl, (HB2.out.setCell (p := ⟨gr, 0, none⟩) BLE.out _).setCell (p := ⟨gr, 1, none⟩) BLE.out _⟩
 obtain rfl : me = 0 := Decidable.byContradiction hm1
 clear hm1
 rw [if_pos rfl] at h
 by_cases hl : ¬ 0 < l2.length
 ·rw [if_neg hl] at h; cases h
 have hl1 : 0 < l2.length := by omega
 clear hl
 rw [if_pos hl1] at h
 have HL := Aside0.mk hl1
 clear hl1
 obtain ⟨n, hn, h⟩ := Option.bind_eq_some_iff.mp h
 have HN := Aside0.mk (fun W1 => cube_Log.calls k ((rdR l2 0).length : Int) n W1 hn)
 clear hn
 obtain ⟨ad, A0, c0, e, hx0, hlc, _⟩ := at_rows H2.out 0 (by omega) (by have := HL.out; omega)
 cases e
 have hx1 : W.cell? ad = some (.slice A0 (rdR l2 0).length c0) := hx0
 clear hx0
 have q0 : (0 : Int) < (l2.length : Int) := by have := HL.out; omega
 have q1 := eq_true q0
 go_enter Try.func33, Try.ntmps33
 go_wp2_with fail
 rw [← HW.out, HGR.out, ← HGA.out, ← HGL.out]
 clear HW
 go_wp2_with fail
 refine HE.out.mono ?_
 rintro e1 w1 ⟨rfl, hbb⟩
 clear HE
 have BL1 := Aside0.mk (blk_below BL.out hbb)
 have BA1 := Aside0.mk (blk_below BA.out hbb)
 have BR1 := Aside0.mk (blk_below BR.out hbb)
 have HB1 := Aside0.mk (below_step HB.out hbb)
 have HBB := Aside0.mk hbb
 have HX1 := Aside0.mk ((hbb.cell (World.block_lt_of_cell? W _ hx1)).trans hx1)
 clear hbb lc ac0 ac1 hx1
 have lc := blk_cell BL1.out 0
 have ac0 := blk_cell BA1.out 0
 have ac1 := blk_cell BA1.out 1
 go_wp2_with fail
 refine (HM.out _ HBB.out).mono ?_
 rintro e2 w2 ⟨v2, rfl, hR2, hb2⟩
 clear HM lc ac0 ac1
 have BL2 := Aside0.mk (blk_below BL1.out hb2)
 have BR2 := Aside0.mk (blk_below BR1.out hb2)
 have HB2 := Aside0.mk (below_step HB1.out hb2)
 have HBC := Aside0.mk (below_step HBB.out hb2)
 have RM := Aside0.mk hR2
 have hx2 := (hb2.cell (World.block_lt_of_cell? w1 _ HX1.out)).trans HX1.out
 clear hb2 hR2 BL1 BA1 BR1 HB1 HBB HX1
 go_wp2_with fail
 refine (HN.out _).mono ?_
 rintro e3 w3 ⟨rfl, hd3⟩
 clear HN hx2
 have BL3 := Aside0.mk (blk_below BL2.out hd3.below)
 have BR3 := Aside0.mk (blk_below BR2.out hd3.below)
 have HB3 := Aside0.mk (below_step HB2.out hd3.below)
 have HBD := Aside0.mk (below_step HBC.out hd3.below)
 have RM3 := Aside0.mk (Kd.R_below RM.out hd3.below)
 clear hd3 BL2 BR2 HB2 HBC RM
 by_cases hn1 : ¬ (l4.length : Int) = n
 ·have hn0 := hn1
  clear hn1
  rw [if_neg hn0] at h
  obtain ⟨rfl, rfl, rfl⟩ : 0 = r1 ∧ 0 = r2 ∧ (6 : Int) = r3 := by simpa using h
  have hb1 : ((l4.length : Int) != n) = true := bne_iff_ne.mpr hn0
  clear h hn0
  have fr0 := blk_frozen BR3.out 0
  have fr1 := blk_frozen BR3.out 1
  have ce0 := (blk_cell BR3.out 0).trans (show _ = some (Value.int .u64 0) from rfl)
  have ce1 := (blk_cell BR3.out 1).trans (show _ = some (Value.int .u64 0) from rfl)
  go_wp2
  refine bodyPost_ret (results_ct rfl _ _ gr 28 #[.int .u64 0, .int .u64 0] (0, 0) _ rfl (blk_put (blk_put (cs := #[.int .u64 0, .int .u64 0]) BR3.out 0 _ rfl) 1 _ rfl) Try.underlying28 rfl (by kernel_rfl)) rfl ?_
  exact ⟨rfl, (HB3.out.setCell (p := ⟨gr, 0, none⟩) BLE.out _).setCell (p := ⟨gr, 1, none⟩) BLE.out _⟩
 have hn0 : (l4.length : Int) = n := Decidable.byContradiction hn1
 clear hn1
 rw [if_pos hn0] at h
 have hb1 : ((l4.length : Int) != n) = false := by rw [hn0]; simp
 clear hn0
 have HC := Aside0.mk (has_Elem (fun x => !ofB a0 x.f0 x.f1) 80 #[.pointer (some ⟨gl, 0, none⟩)] A4 c4 l4 w3 (Kd.C_below H4.out HBD.out) (fun args w => by kernel_rfl)
  (fun W2 x hb2 => (zero_Sum.lit a0 x.f0 x.f1 gl W2 (blk_lt (blk_below BL3.out hb2)) (blk_cell (blk_below BL3.out hb2) 0)).mono fun e w' ⟨he, hb'⟩ => ⟨he, hb2.trans (hb'.mono hb2.size)⟩))
 obtain ⟨q, hq⟩ : ∃ q, (l4.any fun x => !ofB a0 x.f0 x.f1) = q := ⟨_, rfl⟩
 rw [hq] at h HC
 clear hq
 cases q with
 | true =>
  rw [if_pos rfl] at h
  obtain ⟨rfl, rfl, rfl⟩ : 0 = r1 ∧ 0 = r2 ∧ (5 : Int) = r3 := by simpa using h
  clear h
  go_wp2_with fail
  refine HC.out.mono ?_
  rintro e4 w4 ⟨rfl, hb4⟩
  clear HC
  have BR4 := Aside0.mk (blk_below BR3.out hb4)
  have HB4 := Aside0.mk (below_step HB3.out hb4)
  clear hb4
  have fr0 := blk_frozen BR4.out 0
  have fr1 := blk_frozen BR4.out 1
  have ce0 := (blk_cell BR4.out 0).trans (show _ = some (Value.int .u64 0) from rfl)
  have ce1 := (blk_cell BR4.out 1).trans (show _ = some (Value.int .u64 0) from rfl)
  go_wp2
  refine bodyPost_ret (results_ct rfl _ _ gr 28 #[.int .u64 0, .int .u64 0] (0, 0) _ rfl (blk_put (blk_put (cs := #[.int .u64 0, .int .u64 0]) BR4.out 0 _ rfl) 1 _ rfl) Try.underlying28 rfl (by kernel_rfl)) rfl ?_
  exact ⟨rfl, (HB4.out.setCell (p := ⟨gr, 0, none⟩) BLE.out _).setCell (p := ⟨gr, 1, none⟩) BLE.out _⟩
 | false =>
  rw [if_neg (by simp)] at h
  obtain ⟨ws, hws, h⟩ := Option.bind_eq_some_iff.mp h
  by_cases hz : ¬ (l2.length + 1) * 24 ≤ 140737488355328
  ·rw [if_neg hz] at h; cases h
  have hz1 : (l2.length + 1) * 24 ≤ 140737488355328 := by omega
  clear hz
  rw [if_pos hz1] at h
  have HZ := Aside0.mk hz1
  have HH := Aside0.mk h
  have HWT := Aside0.mk (fun W1 (hb1 : Below W.heap.size W W1) => cube_Weights.calls k a0 A4 c4 l4 ws W1 (Kd.C_below H4.out hb1) HK4.out hws)
  have HCL := Aside0.mk (fun W1 (hb1 : Below W.heap.size W W1) => clone_rows W (some ad) c2 l2 W1 hb1 H2.out (by omega))
  clear hz1 h hws
  go_wp2_with fail
  refine HC.out.mono ?_
  rintro e4 w4 ⟨rfl, hb4⟩
  clear HC
  have BL4 := Aside0.mk (blk_below BL3.out hb4)
  have BR4 := Aside0.mk (blk_below BR3.out hb4)
  have HB4 := Aside0.mk (below_step HB3.out hb4)
  have HBD4 := Aside0.mk (below_step HBD.out hb4)
  have RM4 := Aside0.mk (Kd.R_below RM3.out hb4)
  clear hb4 BL3 BR3 HB3 HBD RM3
  have lc := blk_cell BL4.out 0
  have hs1 := blk_lt BL4.out
  have HBW := Aside0.mk HB4.out.size
  go_wp2_with fail
  go_region_held3 (fun w' => w'.cell? ⟨gl, 0, none⟩ = some (.int .i64 a0))
   (first | go_keep | (exact (hbd.cell (p := ⟨gl, 0, none⟩) (by first | exact hs1 | exact hs2 | exact hs3)).trans (by assumption)))
   (first
    | ((go_at_call 82; refine (HCL.out _ ?_).mono ?_; exact below_drew HBD4.out; rintro e5 w5 ⟨v5, rfl, hR5, hbd⟩; have HR5 := Aside0.mk hR5; have HB5 := Aside0.mk hbd; have hs2 : gl < w5.heap.size := Nat.lt_of_lt_of_le hs1 hbd.size; clear hR5))
    | ((go_at_call 83; refine (HWT.out _ ?_).mono ?_; exact below_step (below_drew HBD4.out) HB5.out; rintro e6 w6 ⟨v6, rfl, hR6, hbd⟩; obtain ⟨A6, c6, rfl⟩ := Kd.R_slice hR6; have HR6 := Aside0.mk (Kd.R_lower (Kd.R_new' hR6 (Kd.R_lt HR5.out)) HB5.out.size); have HR5b := Aside0.mk (Kd.R_below HR5.out hbd); have HB6 := Aside0.mk (below_step HB5.out hbd); have hs3 : gl < w6.heap.size := Nat.lt_of_lt_of_le hs2 hbd.size; clear hR6))
    | ((refine Kd.R_append_step (Kd.mix 28 k28 k28 W) (w0 := w4.drew) w4.drew.heap.size (by rfl) (.tmp 53) (.tmp 57) 42 53 (.slice none 0 0) 24 rfl Try.underlying42 info53 rfl (show 0 < 1 from by decide) (by omega) v5 l2 ws [.slice A6 ws.length c6] (fun _ => True) (fun k => True ∧ some k ≠ v5.ownBlock) rfl rfl (Kd.mix_made HR6.out) (fun _ hk => hk) (fun _ _ => trivial) HR5b.out HB6.out HB6.out.size HZ.out ?_; intro v7 w7 ho7 hbd hg7 hat7; have HR7 := Aside0.mk ho7; have HB7 := Aside0.mk hbd; clear ho7 hg7 hat7)))
  have BL7 := Aside0.mk (blk_below (blk_drew BL4.out) HB7.out)
  have BR7 := Aside0.mk (blk_below (blk_drew BR4.out) HB7.out)
  have HBF := Aside0.mk (below_step (below_drew HB4.out) HB7.out)
  have HBD7 := Aside0.mk (below_step (below_drew HBD4.out) HB7.out)
  obtain ⟨A2', c2', rfl, hlm, hCm⟩ := Kd.R_reads (Kd.R_below (Kd.R_drew RM4.out) HB7.out)
  obtain ⟨L, hL⟩ : ∃ L, L = l2 ++ [ws] := ⟨_, rfl⟩
  rw [← hL] at HR7 HH
  obtain ⟨A7, c7, rfl, hl7, hC7⟩ := Kd.R_reads HR7.out
  clear hL
  have hC8 : Kd.C (Kd.slice 28 k28) w7 A7 L.length L := Kd.C_read (d := Kd.slice 28 k28) (dm := Kd.mix 28 k28 k28 W) rfl (fun x cs h => Kd.mix_read rfl (fun _ _ h => h) HBD7.out h) hC7
  have HS := Aside0.mk (sumcheck_Sum.calls k a0 A2' c2' ml A7 c7 L r1 r2 r3 w7 hCm hlm hC8 hl7 HH.out)
  clear hbd hs1 hs2 hs3 hCm hlm hC8 hl7 hC7 HR7 HR6 HR5 HR5b HB6 HB5 HH HCL HWT HB7 lc
  have lc := blk_cell BL7.out 0
  go_wp2_with fail
  refine HS.out.mono ?_
  rintro e8 w8 ⟨rfl, hb8⟩
  clear HS
  have BR8 := Aside0.mk (blk_below BR7.out hb8)
  have HB8 := Aside0.mk (below_step HBF.out hb8)
  clear hb8
  have fr0 := blk_frozen BR8.out 0
  have fr1 := blk_frozen BR8.out 1
  have ce0 := (blk_cell BR8.out 0).trans (show _ = some (Value.int .u64 0) from rfl)
  have ce1 := (blk_cell BR8.out 1).trans (show _ = some (Value.int .u64 0) from rfl)
  go_wp2
  refine bodyPost_ret (results_ct rfl _ _ gr 28 #[.int .u64 r1, .int .u64 r2] (0, 0) _ rfl (blk_put (blk_put (cs := #[.int .u64 0, .int .u64 0]) BR8.out 0 _ rfl) 1 _ rfl) Try.underlying28 rfl (by kernel_rfl)) rfl ?_
  exact ⟨rfl, (HB8.out.setCell (p := ⟨gr, 0, none⟩) BLE.out _).setCell (p := ⟨gr, 1, none⟩) BLE.out _⟩
end Go.Proofs.Ytoaepfgfbfgcdaa.Q
