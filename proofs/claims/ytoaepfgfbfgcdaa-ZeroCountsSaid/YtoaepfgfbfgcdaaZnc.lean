/- Part 3 of the claim's own texts: the words and the printed functions that the proof reaches. No conditions. -/
import Derived.Test.YtoaepfgfbfgcdaaZnb
namespace Go.Proofs.Ytoaepfgfbfgcdaa.Q
open Go.RowKit Go.Proofs.YtoaepfgfbfgcdaaW.PrintWords Go.Proofs.YtoaepfgfbfgcdaaW.PrintLast Go.Proofs.YtoaepfgfbfgcdaaW.PrintMore
attribute [local go_sem] max2_int min2_int max_two min_two max_three min_three max_four min_four
set_option linter.unusedVariables false
set_option linter.unusedSimpArgs false
mutual
def expr_Eval.l0 : Nat → Int → List (S149) → List (S28) → List (S28) → Int → Int → Option (Int × Int × Int)
 | 0, _, _, _, _, _, _ => none
 | k + 1, x0, x1, x2, x24, x25, x26 => if x26 < x25 then (if 0 ≤ x26 then (if x26 < (x24.length : Int) then ((octet_Of.f x0 ((rd_T28 x24 x26).f0) ((rd_T28 x24 x26).f1)).bind fun t362 => (if t362 = true then (expr_Eval.l0 k x0 x1 x2 x24 x25 (wrap64 (x26 + 1))) else (some (0, 0, 5)))) else (none)) else (none)) else (expr_Eval.l1 k x0 x2 ([] : List (S28)) x1 (x1.length : Int) 0)
def expr_Eval.l1 : Nat → Int → List (S28) → List (S28) → List (S149) → Int → Int → Option (Int × Int × Int)
 | 0, _, _, _, _, _, _ => none
 | k + 1, x0, x2, x11, x36, x37, x38 => if x38 < x37 then (if 0 ≤ x38 then (if x38 < (x36.length : Int) then (if ((rd_T149 x36 x38).f0) = 1 then (if x11.length < 8796093022208 then (expr_Eval.l1 k x0 x2 (x11 ++ [(⟨(rd_T149 x36 x38).f3.f0, (rd_T149 x36 x38).f3.f1⟩ : S28)]) x36 x37 (wrap64 (x38 + 1))) else (none)) else (if ((rd_T149 x36 x38).f0) = 2 then (if 0 ≤ ((rd_T149 x36 x38).f1) then (if ((rd_T149 x36 x38).f1) < (x2.length : Int) then (if x11.length < 8796093022208 then (expr_Eval.l1 k x0 x2 (x11 ++ [(⟨(rd_T28 x2 ((rd_T149 x36 x38).f1)).f0, (rd_T28 x2 ((rd_T149 x36 x38).f1)).f1⟩ : S28)]) x36 x37 (wrap64 (x38 + 1))) else (none)) else (none)) else (none)) else (if ((rd_T149 x36 x38).f0) = 3 then (if 0 ≤ ((rd_T149 x36 x38).f1) then (if ((rd_T149 x36 x38).f1) < (x11.length : Int) then (if 0 ≤ ((rd_T149 x36 x38).f2) then (if ((rd_T149 x36 x38).f2) < (x11.length : Int) then ((tower_Add.f ((rd_T28 x11 ((rd_T149 x36 x38).f1)).f0) ((rd_T28 x11 ((rd_T149 x36 x38).f1)).f1) ((rd_T28 x11 ((rd_T149 x36 x38).f2)).f0) ((rd_T28 x11 ((rd_T149 x36 x38).f2)).f1)).bind fun bt376 => (if x11.length < 8796093022208 then (expr_Eval.l1 k x0 x2 (x11 ++ [(⟨bt376.1, bt376.2⟩ : S28)]) x36 x37 (wrap64 (x38 + 1))) else (none))) else (none)) else (none)) else (none)) else (none)) else (if ((rd_T149 x36 x38).f0) = 4 then (if 0 ≤ ((rd_T149 x36 x38).f1) then (if ((rd_T149 x36 x38).f1) < (x11.length : Int) then (if 0 ≤ ((rd_T149 x36 x38).f2) then (if ((rd_T149 x36 x38).f2) < (x11.length : Int) then ((tower_Mul.f k x0 ((rd_T28 x11 ((rd_T149 x36 x38).f1)).f0) ((rd_T28 x11 ((rd_T149 x36 x38).f1)).f1) ((rd_T28 x11 ((rd_T149 x36 x38).f2)).f0) ((rd_T28 x11 ((rd_T149 x36 x38).f2)).f1)).bind fun bt383 => (if x11.length < 8796093022208 then (expr_Eval.l1 k x0 x2 (x11 ++ [(⟨bt383.1, bt383.2⟩ : S28)]) x36 x37 (wrap64 (x38 + 1))) else (none))) else (none)) else (none)) else (none)) else (none)) else (if x11.length < 8796093022208 then (expr_Eval.l1 k x0 x2 (x11 ++ [(⟨0, 0⟩ : S28)]) x36 x37 (wrap64 (x38 + 1))) else (none)))))) else (none)) else (none)) else (if 0 ≤ (wrap64 ((x11.length : Int) - 1)) then (if (wrap64 ((x11.length : Int) - 1)) < (x11.length : Int) then (some ((rd_T28 x11 (wrap64 ((x11.length : Int) - 1))).f0, (rd_T28 x11 (wrap64 ((x11.length : Int) - 1))).f1, 0)) else (none)) else (none))
end
def expr_Eval.f (k : Nat) (a0 : Int) (l1 : List (S149)) (l2 : List (S28)) : Option (Int × Int × Int) := (expr_Check.f k a0 (l2.length : Int) l1).bind fun t359 => (if t359 = 0 then (expr_Eval.l0 k a0 l1 l2 l2 (l2.length : Int) 0) else (some (0, 0, t359)))
def expr_Eval.T21 : Bool × List (List Nat × List Nat) := (true, [([], []), ([], []), ([1], [1]), ([0, 2], [0, 2]), ([3], [3]), ([], []), ([], []), ([6], [6]), ([5, 7], [5, 7]), ([8], [8]), ([4, 9], [4, 9]), ([10, 10, 0, 1, 2, 3, 4, 5, 6, 7, 8, 9, 10], [10])])
def expr_Eval.B21 : List Nat := [0, 0, 2, 7, 15, 0, 0, 64, 224, 480, 1023, 2047]
theorem expr_Eval.tab21 : rtab .any (opsOf Try.f65 21) = expr_Eval.T21 := by kernel_rfl
theorem expr_Eval.bits21 : waitsOk expr_Eval.T21.2 expr_Eval.B21 = true := by kernel_rfl
def expr_Eval.T23 : Bool × List (List Nat × List Nat) := (true, [([], []), ([], []), ([], []), ([2], [2]), ([1, 3], [1, 3]), ([4], [4]), ([], []), ([], []), ([7], [7]), ([6, 8], [6, 8]), ([9], [9]), ([0, 5, 10], [0, 5, 10]), ([11, 11, 0, 1, 2, 3, 4, 5, 6, 7, 8, 9, 10, 11], [11])])
def expr_Eval.B23 : List Nat := [0, 0, 0, 4, 14, 30, 0, 0, 128, 448, 960, 2047, 4095]
theorem expr_Eval.tab23 : rtab .any (opsOf Try.f65 23) = expr_Eval.T23 := by kernel_rfl
theorem expr_Eval.bits23 : waitsOk expr_Eval.T23.2 expr_Eval.B23 = true := by kernel_rfl
set_option maxHeartbeats 8000000 in
set_option maxRecDepth 100000 in
theorem expr_Eval.calls (k : Nat) (a0 : Int) (A1 : Option Addr) (c1 : Nat) (l1 : List (S149)) (A2 : Option Addr) (c2 : Nat) (l2 : List (S28)) (r1 : Int) (r2 : Int) (r3 : Int) (w : World) (hr1 : Kd.C k149 w A1 l1.length l1) (hc1 : l1.length ≤ c1) (hr2 : Kd.C k28 w A2 l2.length l2) (hc2 : l2.length ≤ c2) (h : expr_Eval.f k a0 l1 l2 = some (r1, r2, r3)) :
  Calls Try.prog 65 #[.int .i64 a0, .slice A1 l1.length c1, .slice A2 l2.length c2] w fun e w' => e = .returned (.tuple #[.agg #[.int .u64 r1, .int .u64 r2], .int .i64 r3]) ∧ Below w.heap.size w w' := by
 have hu28 := Try.underlying28
 have hu149 := Try.underlying149
 have HR1 := Aside0.mk hr1
 have HC1 := Aside0.mk hc1
 clear hr1 hc1
 have HR2 := Aside0.mk hr2
 have HC2 := Aside0.mk hc2
 clear hr2 hc2
 have HB := Aside0.mk (Below.refl w.heap.size w)
 have H : ((expr_Check.f k a0 (l2.length : Int) l1).bind fun t359 => (if t359 = 0 then (expr_Eval.l0 k a0 l1 l2 l2 (l2.length : Int) 0) else (some (0, 0, t359)))) = some (r1, r2, r3) := h
 clear h
 replace H := Option.bind_eq_some_iff.mp H
 obtain ⟨t359, A40, H⟩ := H
 replace H : (if t359 = 0 then (expr_Eval.l0 k a0 l1 l2 l2 (l2.length : Int) 0) else (some (0, 0, t359))) = some (r1, r2, r3) := H
 have A4 := Aside0.mk A40
 clear A40
 by_cases c5 : t359 = 0
 ·rw [if_pos c5] at H
  have c5b0 : (t359 == 0) = true := beq_iff_eq.mpr c5
  have c5b1 : (t359 != 0) = false := bne_eq_false_iff_eq.mpr c5
  clear c5
  have H' := Aside0.mk H
  clear H
  go_enter Try.func65, Try.ntmps65
  go_wp2_with (first | ((with_reducible refine gate_dst (N := 6) rfl ?_); refine box_event ?hg (N := 6) ?hd (cs := #[.int .u64 0, .int .u64 0]) (t := 28) ?hr ?_; (case hd => rfl); (case hg => rfl); (case hr => first | (go_simp; done) | (go_simp; rfl)); intro gb358 hg w6 hbox hb; have n0_ := Aside0.mk (below_step (by exact lF HB.out) hb); have n1_ := Aside0.mk (hbox); have n2_ := Aside0.mk ((by rw [hg]; exact (below_size (by exact lF HB.out)) : w.heap.size ≤ gb358)); have n3_ := Aside0.mk ((by rw [hg]; exact (below_size (by exact lF HB.out)) : w.heap.size ≤ gb358)); clear HB; have HB := n0_; have BK358 := n1_; have GW358 := n2_; have GE358 := n3_; clear n0_ n1_ n2_ n3_; clear hb hbox hg) | ((with_reducible refine gate_callee (f := 91) rfl ?_); refine goesL_ (some 19) rfl rfl Try.func91 (by kernel_rfl) rfl #[.int .i64 a0, .int .i64 (l2.length : Int), .slice A1 l1.length c1] rfl (by (try simp only [List.map_toArray, List.map_cons, List.map_nil]); first | done | rfl | (simp only [List.length_drop, List.length_take]; rfl)) ?_; (with_reducible refine (expr_Check.calls k a0 (l2.length : Int) _ _ l1 t359 _ ?side1 ?side2 A4.out).mono ?_); (case side1 => repeat (first | exact (Kd.C_below HR1.out HB.out) | (with_reducible refine Kd.C_alloc ?_ _) | (with_reducible refine Kd.C_drewN ?_ _) | (with_reducible refine Kd.C_drew ?_))); (case side2 => exact HC1.out); rintro e w7 ⟨rfl, hb⟩; refine ⟨_, rfl, ?_⟩; have n0_ := Aside0.mk (blk_below (g := gb358) (o := .cells #[.int .u64 0, .int .u64 0] 28 (0, 0)) (by exact bF BK358.out) hb); have n1_ := Aside0.mk (below_step (by repeat (first | (with_reducible first | exact HB.out | apply bA | apply bN | apply bD | refine bS ?_ GE358.out) | exact HB.out)) hb); clear BK358; clear HB; have BK358 := n0_; have HB := n1_; clear n0_ n1_; (try clear hb); (try clear hb2); (try clear hk); (try clear hi)))
  go_loopg [26] k (fun kq v26 w' => ∃ (x26_1 : Int) (x359000_1 : Int) (x359001_1 : Int), v26 = .int .i64 x26_1 ∧ Aside0 (expr_Eval.l0 kq a0 l1 l2 l2 (l2.length : Int) x26_1 = some (r1, r2, r3)) ∧ Aside0 (kq ≤ k) ∧ Aside0 (w'.heap[gb358]? = some (.cells #[.int .u64 x359000_1, .int .u64 x359001_1] 28 (0, 0))) ∧ Aside0 (Below w.heap.size w w'))
  case atStart => exact ⟨(0), (0), (0), (by first | rfl | (simp; done) | (simp [*]; done)), H', ⟨Nat.le_refl _⟩, ⟨by exact bF BK358.out⟩, ⟨by repeat (first | (with_reducible first | exact HB.out | apply bA | apply bN | apply bD | refine bS ?_ GE358.out) | exact HB.out)⟩⟩
  case round =>
   clear H'
   try clear c1
   try clear c2
   try clear p2
   try clear c5
   try clear c5b0
   try clear c5b1
   try clear c6
   obtain ⟨x26_1, x359000_1, x359001_1, rfl, HA, HK1, BK358, HB⟩ := hrel
   cases gk with
   | zero => exact absurd HA.out (by simp [expr_Eval.l0])
   | succ k1 =>
    have H := HA.out
    clear HA
    simp only [expr_Eval.l0] at H
    by_cases c8 : x26_1 < (l2.length : Int)
    ·rw [if_pos c8] at H
     have c8b0 : decide (x26_1 < (l2.length : Int)) = true := decide_eq_true c8
     clear c8
     by_cases c9 : 0 ≤ x26_1
     ·rw [if_pos c9] at H
      have c9b0 : decide (0 ≤ x26_1) = true := decide_eq_true c9
      clear c9
      by_cases c10 : x26_1 < (l2.length : Int)
      ·rw [if_pos c10] at H
       have c10b0 : decide (x26_1 < (l2.length : Int)) = true := decide_eq_true c10
       clear c10
       replace H := Option.bind_eq_some_iff.mp H
       obtain ⟨t362, A110, H⟩ := H
       replace H : (if t362 = true then (expr_Eval.l0 k1 a0 l1 l2 l2 (l2.length : Int) (wrap64 (x26_1 + 1))) else (some (0, 0, 5))) = some (r1, r2, r3) := H
       have A11 := Aside0.mk A110
       clear A110
       by_cases c12 : t362 = true
       ·subst c12
        have H1 : (expr_Eval.l0 k1 a0 l1 l2 l2 (l2.length : Int) (wrap64 (x26_1 + 1))) = some (r1, r2, r3) := by rw [if_pos rfl] at H; exact H
        clear H
        have H := H1
        clear H1
        have H' := Aside0.mk H
        clear H
        have p360 : 0 ≤ (x26_1 : Int) := of_decide_eq_true (by first | (with_reducible assumption) | assumption)
        have q360 : x26_1 < (l2.length : Int) := of_decide_eq_true (by first | (with_reducible assumption) | assumption)
        obtain ⟨ad360, e360, hx360_0, hx360_1⟩ := at_T28 HR2.out x26_1 p360 q360
        cases e360
        replace hx360_0 := (HB.out.cell (World.block_lt_of_cell? w _ hx360_0)).trans hx360_0
        replace hx360_1 := (HB.out.cell (World.block_lt_of_cell? w _ hx360_1)).trans hx360_1
        replace p360 := eq_true p360
        replace q360 := eq_true q360
        go_wp2_with (first | ((with_reducible refine gate_dst (N := 10) rfl ?_); refine box_event ?hg (N := 10) ?hd (cs := #[.int .u64 0, .int .u64 0]) (t := 28) ?hr ?_; (case hd => rfl); (case hg => rfl); (case hr => first | (go_simp; done) | (go_simp; rfl)); intro gb361 hg w13 hbox hb; have n0_ := Aside0.mk (blk_below (g := gb358) (o := .cells #[.int .u64 x359000_1, .int .u64 x359001_1] 28 (0, 0)) (by exact bF BK358.out) hb); have n1_ := Aside0.mk (below_step (by repeat (first | (with_reducible first | exact HB.out | apply bA | apply bN | apply bD | refine bS ?_ GE358.out) | exact HB.out)) hb); have n2_ := Aside0.mk (hbox); have n3_ := Aside0.mk ((by rw [hg]; exact (below_size (by repeat (first | (with_reducible first | exact HB.out | apply bA | apply bN | apply bD | refine bS ?_ GE358.out) | exact HB.out))) : w.heap.size ≤ gb361)); have n4_ := Aside0.mk ((by rw [hg]; exact (below_size (by repeat (first | (with_reducible first | exact HB.out | apply bA | apply bN | apply bD | refine bS ?_ GE358.out) | exact HB.out))) : w.heap.size ≤ gb361)); have n5_ := Aside0.mk ((by rw [hg]; exact Nat.ne_of_lt (blk_lt (g := gb358) (o := .cells #[.int .u64 x359000_1, .int .u64 x359001_1] 28 (0, 0)) (by exact bF BK358.out)) : gb358 ≠ gb361)); have n6_ := Aside0.mk ((by rw [hg]; exact Nat.ne_of_gt (blk_lt (g := gb358) (o := .cells #[.int .u64 x359000_1, .int .u64 x359001_1] 28 (0, 0)) (by exact bF BK358.out)) : gb361 ≠ gb358)); clear BK358; clear HB; have BK358 := n0_; have HB := n1_; have BK361 := n2_; have GW361 := n3_; have GE361 := n4_; have NB358_361 := n5_; have NB361_358 := n6_; clear n0_ n1_ n2_ n3_ n4_ n5_ n6_; clear hb hbox hg; have hnb14 := NB361_358.out; have hnc14 := NB358_361.out; have hcz15_0 : w13.cell? ⟨gb361, 0, none⟩ = some (.int .u64 0) := (blk_cell BK361.out 0).trans rfl; have hcz15_1 : w13.cell? ⟨gb361, 1, none⟩ = some (.int .u64 0) := (blk_cell BK361.out 1).trans rfl; have hfz15_0 := blk_frozen BK361.out 0; have hfz15_1 := blk_frozen BK361.out 1) | ((with_reducible refine gate_callee (f := 81) rfl ?_); refine goesL_ (some 32) rfl rfl Try.func81 (by kernel_rfl) rfl #[.int .i64 a0, .agg #[.int .u64 ((rd_T28 l2 x26_1).f0), .int .u64 ((rd_T28 l2 x26_1).f1)]] rfl (by (try simp only [List.map_toArray, List.map_cons, List.map_nil]); first | done | rfl | (simp only [List.length_drop, List.length_take]; rfl)) ?_; (with_reducible refine (octet_Of.calls a0 ((rd_T28 l2 x26_1).f0) ((rd_T28 l2 x26_1).f1) true _ A11.out).mono ?_); rintro e w16 ⟨rfl, hb⟩; refine ⟨_, rfl, ?_⟩; have n0_ := Aside0.mk (blk_below (g := gb358) (o := .cells #[.int .u64 x359000_1, .int .u64 x359001_1] 28 (0, 0)) (by (with_reducible repeat (first | refine blk_drewN ?_ _ | refine blk_drew ?_ | refine blk_alloc ?_ _)); refine blk_far ?_ NB358_361.out _; (with_reducible repeat (first | refine blk_drewN ?_ _ | refine blk_drew ?_ | refine blk_alloc ?_ _)); refine blk_far ?_ NB358_361.out _; exact bF BK358.out) hb); have n1_ := Aside0.mk (blk_below (g := gb361) (o := .cells #[.int .u64 ((rd_T28 l2 x26_1).f0), .int .u64 ((rd_T28 l2 x26_1).f1)] 28 (0, 0)) (by (with_reducible repeat (first | refine blk_drewN ?_ _ | refine blk_drew ?_ | refine blk_alloc ?_ _)); refine blk_put (cs := #[.int .u64 ((rd_T28 l2 x26_1).f0), .int .u64 0]) ?_ 1 _ rfl; (with_reducible repeat (first | refine blk_drewN ?_ _ | refine blk_drew ?_ | refine blk_alloc ?_ _)); refine blk_put (cs := #[.int .u64 0, .int .u64 0]) ?_ 0 _ rfl; exact bF BK361.out) hb); have n2_ := Aside0.mk (below_step (by repeat (first | (with_reducible first | exact HB.out | apply bA | apply bN | apply bD | refine bS ?_ GE358.out | refine bS ?_ GE361.out) | exact HB.out)) hb); clear BK358; clear BK361; clear HB; have BK358 := n0_; have BK361 := n1_; have HB := n2_; clear n0_ n1_ n2_; (try clear hb); (try clear hb2); (try clear hk); (try clear hi)))
        go_roundg k1
        case measure => have := HK1.out; omega
        case rel => exact ⟨(wrap64 (x26_1 + 1)), (x359000_1), (x359001_1), (by first | rfl | (simp; done) | (simp [*]; done)), H', ⟨by have := HK1.out; omega⟩, ⟨by exact bF BK358.out⟩, ⟨by repeat (first | (with_reducible first | exact HB.out | apply bA | apply bN | apply bD | refine bS ?_ GE358.out | refine bS ?_ GE361.out) | exact HB.out)⟩⟩
       ·replace c12 := Bool.eq_false_iff.mpr c12
        subst c12
        have H1 : (some (0, 0, 5)) = some (r1, r2, r3) := by rw [if_neg (show ¬ (false = true) by decide)] at H; exact H
        clear H
        have H := H1
        clear H1
        simp only [Option.some.injEq, Prod.mk.injEq] at H
        obtain ⟨rfl, rfl, rfl⟩ := H
        have p360 : 0 ≤ (x26_1 : Int) := of_decide_eq_true (by first | (with_reducible assumption) | assumption)
        have q360 : x26_1 < (l2.length : Int) := of_decide_eq_true (by first | (with_reducible assumption) | assumption)
        obtain ⟨ad360, e360, hx360_0, hx360_1⟩ := at_T28 HR2.out x26_1 p360 q360
        cases e360
        replace hx360_0 := (HB.out.cell (World.block_lt_of_cell? w _ hx360_0)).trans hx360_0
        replace hx360_1 := (HB.out.cell (World.block_lt_of_cell? w _ hx360_1)).trans hx360_1
        replace p360 := eq_true p360
        replace q360 := eq_true q360
        go_wp2_with (first | ((with_reducible refine gate_dst (N := 10) rfl ?_); refine box_event ?hg (N := 10) ?hd (cs := #[.int .u64 0, .int .u64 0]) (t := 28) ?hr ?_; (case hd => rfl); (case hg => rfl); (case hr => first | (go_simp; done) | (go_simp; rfl)); intro gb361 hg w17 hbox hb; have n0_ := Aside0.mk (blk_below (g := gb358) (o := .cells #[.int .u64 x359000_1, .int .u64 x359001_1] 28 (0, 0)) (by exact bF BK358.out) hb); have n1_ := Aside0.mk (below_step (by repeat (first | (with_reducible first | exact HB.out | apply bA | apply bN | apply bD | refine bS ?_ GE358.out) | exact HB.out)) hb); have n2_ := Aside0.mk (hbox); have n3_ := Aside0.mk ((by rw [hg]; exact (below_size (by repeat (first | (with_reducible first | exact HB.out | apply bA | apply bN | apply bD | refine bS ?_ GE358.out) | exact HB.out))) : w.heap.size ≤ gb361)); have n4_ := Aside0.mk ((by rw [hg]; exact (below_size (by repeat (first | (with_reducible first | exact HB.out | apply bA | apply bN | apply bD | refine bS ?_ GE358.out) | exact HB.out))) : w.heap.size ≤ gb361)); have n5_ := Aside0.mk ((by rw [hg]; exact Nat.ne_of_lt (blk_lt (g := gb358) (o := .cells #[.int .u64 x359000_1, .int .u64 x359001_1] 28 (0, 0)) (by exact bF BK358.out)) : gb358 ≠ gb361)); have n6_ := Aside0.mk ((by rw [hg]; exact Nat.ne_of_gt (blk_lt (g := gb358) (o := .cells #[.int .u64 x359000_1, .int .u64 x359001_1] 28 (0, 0)) (by exact bF BK358.out)) : gb361 ≠ gb358)); clear BK358; clear HB; have BK358 := n0_; have HB := n1_; have BK361 := n2_; have GW361 := n3_; have GE361 := n4_; have NB358_361 := n5_; have NB361_358 := n6_; clear n0_ n1_ n2_ n3_ n4_ n5_ n6_; clear hb hbox hg; have hnb18 := NB361_358.out; have hnc18 := NB358_361.out; have hcz19_0 : w17.cell? ⟨gb361, 0, none⟩ = some (.int .u64 0) := (blk_cell BK361.out 0).trans rfl; have hcz19_1 : w17.cell? ⟨gb361, 1, none⟩ = some (.int .u64 0) := (blk_cell BK361.out 1).trans rfl; have hfz19_0 := blk_frozen BK361.out 0; have hfz19_1 := blk_frozen BK361.out 1) | ((with_reducible refine gate_callee (f := 81) rfl ?_); refine goesL_ (some 32) rfl rfl Try.func81 (by kernel_rfl) rfl #[.int .i64 a0, .agg #[.int .u64 ((rd_T28 l2 x26_1).f0), .int .u64 ((rd_T28 l2 x26_1).f1)]] rfl (by (try simp only [List.map_toArray, List.map_cons, List.map_nil]); first | done | rfl | (simp only [List.length_drop, List.length_take]; rfl)) ?_; (with_reducible refine (octet_Of.calls a0 ((rd_T28 l2 x26_1).f0) ((rd_T28 l2 x26_1).f1) false _ A11.out).mono ?_); rintro e w20 ⟨rfl, hb⟩; refine ⟨_, rfl, ?_⟩; have n0_ := Aside0.mk (blk_below (g := gb358) (o := .cells #[.int .u64 x359000_1, .int .u64 x359001_1] 28 (0, 0)) (by (with_reducible repeat (first | refine blk_drewN ?_ _ | refine blk_drew ?_ | refine blk_alloc ?_ _)); refine blk_far ?_ NB358_361.out _; (with_reducible repeat (first | refine blk_drewN ?_ _ | refine blk_drew ?_ | refine blk_alloc ?_ _)); refine blk_far ?_ NB358_361.out _; exact bF BK358.out) hb); have n1_ := Aside0.mk (blk_below (g := gb361) (o := .cells #[.int .u64 ((rd_T28 l2 x26_1).f0), .int .u64 ((rd_T28 l2 x26_1).f1)] 28 (0, 0)) (by (with_reducible repeat (first | refine blk_drewN ?_ _ | refine blk_drew ?_ | refine blk_alloc ?_ _)); refine blk_put (cs := #[.int .u64 ((rd_T28 l2 x26_1).f0), .int .u64 0]) ?_ 1 _ rfl; (with_reducible repeat (first | refine blk_drewN ?_ _ | refine blk_drew ?_ | refine blk_alloc ?_ _)); refine blk_put (cs := #[.int .u64 0, .int .u64 0]) ?_ 0 _ rfl; exact bF BK361.out) hb); have n2_ := Aside0.mk (below_step (by repeat (first | (with_reducible first | exact HB.out | apply bA | apply bN | apply bD | refine bS ?_ GE358.out | refine bS ?_ GE361.out) | exact HB.out)) hb); clear BK358; clear BK361; clear HB; have BK358 := n0_; have BK361 := n1_; have HB := n2_; clear n0_ n1_ n2_; (try clear hb); (try clear hb2); (try clear hk); (try clear hi); have hcz21_0 : w20.cell? ⟨gb358, 0, none⟩ = some (.int .u64 x359000_1) := (blk_cell BK358.out 0).trans rfl; have hcz21_1 : w20.cell? ⟨gb358, 1, none⟩ = some (.int .u64 x359001_1) := (blk_cell BK358.out 1).trans rfl; have hfz21_0 := blk_frozen BK358.out 0; have hfz21_1 := blk_frozen BK358.out 1))
        refine bodyPost_ret (results_ct rfl _ _ gb358 28 #[.int .u64 0, .int .u64 0] (0, 0) _ rfl (by (with_reducible repeat (first | refine blk_drewN ?_ _ | refine blk_drew ?_ | refine blk_alloc ?_ _)); refine blk_put (cs := #[.int .u64 0, .int .u64 x359001_1]) ?_ 1 _ rfl; (with_reducible repeat (first | refine blk_drewN ?_ _ | refine blk_drew ?_ | refine blk_alloc ?_ _)); refine blk_put (cs := #[.int .u64 x359000_1, .int .u64 x359001_1]) ?_ 0 _ rfl; exact bF BK358.out) Try.underlying28 rfl (by kernel_rfl)) rfl ?_
        exact ⟨by first | rfl | (simp [errW_none, errW_some] <;> rfl) | (simp [*, errW_none, errW_some] <;> rfl), by repeat (first | (with_reducible first | exact HB.out | apply bA | apply bN | apply bD | refine bS ?_ GE358.out | refine bS ?_ GE361.out) | exact HB.out)⟩
      ·rw [if_neg c10] at H
       exact absurd H (by simp)
     ·rw [if_neg c9] at H
      exact absurd H (by simp)
    ·rw [if_neg c8] at H
     have c8b0 : decide (x26_1 < (l2.length : Int)) = false := decide_eq_false c8
     clear c8
     have H' := Aside0.mk H
     clear H
     go_wp2
     go_loopg [11, 38] k1 (fun kq v11 v38 w' => ∃ (x11_2 : List (S28)) (x38_2 : Int), v38 = .int .i64 x38_2 ∧ Aside0 (expr_Eval.l1 kq a0 l2 x11_2 l1 (l1.length : Int) x38_2 = some (r1, r2, r3)) ∧ Aside0 (kq ≤ k1) ∧ Aside0 (Kd.R k28 28 w' w.heap.size (fun k_ => k_ ≠ gb358) v11 x11_2) ∧ Aside0 (w'.heap[gb358]? = some (.cells #[.int .u64 x359000_1, .int .u64 x359001_1] 28 (0, 0))) ∧ Aside0 (Below w.heap.size w w'))
     case atStart => exact ⟨(([] : List (S28))), (0), (by first | rfl | (simp; done) | (simp [*]; done)), H', ⟨Nat.le_refl _⟩, ⟨by first | exact Kd.R_nil _ _ _ _ _ | exact Kd.N_nil _ _ _ _ _ | exact Kd.V_nil _ _ _ _ _ | exact Kd.Q_nil _ _ _ _ _ | exact Kd.S_nil _ _ _ _ _⟩, ⟨by exact bF BK358.out⟩, ⟨by repeat (first | (with_reducible first | exact HB.out | apply bA | apply bN | apply bD | refine bS ?_ GE358.out) | exact HB.out)⟩⟩
     case round =>
      clear H'
      try clear c1
      try clear c2
      try clear p2
      try clear p3
      try clear q3
      try clear hx3
      try clear c5
      try clear c5b0
      try clear c5b1
      try clear c6
      try clear p6
      try clear c8
      try clear c8b0
      try clear c9
      try clear c9b0
      try clear c10
      try clear c10b0
      try clear c12
      try clear c14
      try clear c18
      try clear hcz15_0
      try clear hcz15_1
      try clear hcz19_0
      try clear hcz19_1
      try clear hcz21_0
      try clear hcz21_1
      try clear hfz15_0
      try clear hfz15_1
      try clear hfz19_0
      try clear hfz19_1
      try clear hfz21_0
      try clear hfz21_1
      try clear hx360_0
      try clear hx360_1
      try clear p2
      try clear p360
      try clear q360
      obtain ⟨x11_2, x38_2, rfl, HA, HK2, HO_11, BK358, HB⟩ := hrel
      cases gk with
      | zero => exact absurd HA.out (by simp [expr_Eval.l1])
      | succ k2 =>
       have H := HA.out
       clear HA
       simp only [expr_Eval.l1] at H
       by_cases c22 : x38_2 < (l1.length : Int)
       ·rw [if_pos c22] at H
        have c22b0 : decide (x38_2 < (l1.length : Int)) = true := decide_eq_true c22
        clear c22
        by_cases c23 : 0 ≤ x38_2
        ·rw [if_pos c23] at H
         have c23b0 : decide (0 ≤ x38_2) = true := decide_eq_true c23
         clear c23
         by_cases c24 : x38_2 < (l1.length : Int)
         ·rw [if_pos c24] at H
          have c24b0 : decide (x38_2 < (l1.length : Int)) = true := decide_eq_true c24
          clear c24
          by_cases c25 : ((rd_T149 l1 x38_2).f0) = 1
          ·rw [if_pos c25] at H
           have c25b0 : (((rd_T149 l1 x38_2).f0) == 1) = true := beq_iff_eq.mpr c25
           have c25b1 : (((rd_T149 l1 x38_2).f0) != 1) = false := bne_eq_false_iff_eq.mpr c25
           clear c25
           by_cases c26 : x11_2.length < 8796093022208
           ·rw [if_pos c26] at H
            have LMc26 := Aside0.mk c26
            clear c26
            obtain ⟨y367, hy367⟩ : ∃ y_ : List (S28), y_ = (x11_2 ++ [(⟨(rd_T149 l1 x38_2).f3.f0, (rd_T149 l1 x38_2).f3.f1⟩ : S28)]) := ⟨_, rfl⟩
            replace H : (expr_Eval.l1 k2 a0 l2 y367 l1 (l1.length : Int) (wrap64 (x38_2 + 1))) = some (r1, r2, r3) := by first | (rw [hy367]; with_reducible exact H) | (have H2_ := (Option.bind_some _ _).symm.trans H; rw [hy367]; with_reducible exact H2_) | (have H2_ := (Option.bind_some _ _).symm.trans H; with_reducible exact H2_) | with_reducible exact H | (rw [hy367]; exact H) | exact H
            have Ny367 := Aside0.mk hy367
            clear hy367
            have H' := Aside0.mk H
            clear H
            have p364 : 0 ≤ (x38_2 : Int) := of_decide_eq_true (by first | (with_reducible assumption) | assumption)
            have q364 : x38_2 < (l1.length : Int) := of_decide_eq_true (by first | (with_reducible assumption) | assumption)
            obtain ⟨ad364, e364, hx364_0, hx364_1, hx364_2, hx364_3, hx364_4⟩ := at_T149 HR1.out x38_2 p364 q364
            cases e364
            replace hx364_0 := (HB.out.cell (World.block_lt_of_cell? w _ hx364_0)).trans hx364_0
            replace hx364_1 := (HB.out.cell (World.block_lt_of_cell? w _ hx364_1)).trans hx364_1
            replace hx364_2 := (HB.out.cell (World.block_lt_of_cell? w _ hx364_2)).trans hx364_2
            replace hx364_3 := (HB.out.cell (World.block_lt_of_cell? w _ hx364_3)).trans hx364_3
            replace hx364_4 := (HB.out.cell (World.block_lt_of_cell? w _ hx364_4)).trans hx364_4
            replace p364 := eq_true p364
            replace q364 := eq_true q364
            go_wp2_with (first | ((with_reducible refine gate_dst (N := 13) rfl ?_); refine box_event ?hg (N := 13) ?hd (cs := #[.int .i64 0, .int .i64 0, .int .i64 0, .int .u64 0, .int .u64 0]) (t := 149) ?hr ?_; (case hd => rfl); (case hg => rfl); (case hr => first | (go_simp; done) | (go_simp; rfl)); intro gb365 hg w27 hbox hb; have n0_ := Aside0.mk (Kd.R_below (by exact rF HO_11.out) hb); have n1_ := Aside0.mk (blk_below (g := gb358) (o := .cells #[.int .u64 x359000_1, .int .u64 x359001_1] 28 (0, 0)) (by exact bF BK358.out) hb); have n2_ := Aside0.mk (below_step (by repeat (first | (with_reducible first | exact HB.out | apply bA | apply bN | apply bD | refine bS ?_ GE358.out) | exact HB.out)) hb); have n3_ := Aside0.mk (hbox); have n4_ := Aside0.mk ((by rw [hg]; exact (below_size (by repeat (first | (with_reducible first | exact HB.out | apply bA | apply bN | apply bD | refine bS ?_ GE358.out) | exact HB.out))) : w.heap.size ≤ gb365)); have n5_ := Aside0.mk ((by rw [hg]; exact (below_size (by repeat (first | (with_reducible first | exact HB.out | apply bA | apply bN | apply bD | refine bS ?_ GE358.out) | exact HB.out))) : w.heap.size ≤ gb365)); have n6_ := Aside0.mk ((by rw [hg]; exact Nat.ne_of_lt (blk_lt (g := gb358) (o := .cells #[.int .u64 x359000_1, .int .u64 x359001_1] 28 (0, 0)) (by exact bF BK358.out)) : gb358 ≠ gb365)); have n7_ := Aside0.mk ((by rw [hg]; exact Nat.ne_of_gt (blk_lt (g := gb358) (o := .cells #[.int .u64 x359000_1, .int .u64 x359001_1] 28 (0, 0)) (by exact bF BK358.out)) : gb365 ≠ gb358)); clear HO_11; clear BK358; clear HB; have HO_11 := n0_; have BK358 := n1_; have HB := n2_; have BK365 := n3_; have GW365 := n4_; have GE365 := n5_; have NB358_365 := n6_; have NB365_358 := n7_; clear n0_ n1_ n2_ n3_ n4_ n5_ n6_ n7_; clear hb hbox hg; have hnb28 := NB365_358.out; have hnc28 := NB358_365.out; have hcz29_0 : w27.cell? ⟨gb365, 0, none⟩ = some (.int .i64 0) := (blk_cell BK365.out 0).trans rfl; have hcz29_1 : w27.cell? ⟨gb365, 1, none⟩ = some (.int .i64 0) := (blk_cell BK365.out 1).trans rfl; have hcz29_2 : w27.cell? ⟨gb365, 2, none⟩ = some (.int .i64 0) := (blk_cell BK365.out 2).trans rfl; have hcz29_3 : w27.cell? ⟨gb365, 3, none⟩ = some (.int .u64 0) := (blk_cell BK365.out 3).trans rfl; have hcz29_4 : w27.cell? ⟨gb365, 4, none⟩ = some (.int .u64 0) := (blk_cell BK365.out 4).trans rfl; have hfz29_0 := blk_frozen BK365.out 0; have hfz29_1 := blk_frozen BK365.out 1; have hfz29_2 := blk_frozen BK365.out 2; have hfz29_3 := blk_frozen BK365.out 3; have hfz29_4 := blk_frozen BK365.out 4) | ((with_reducible refine gate_dst (N := 14) rfl ?_); refine box_event ?hg (N := 14) ?hd (cs := #[.int .u64 0, .int .u64 0]) (t := 28) ?hr ?_; (case hd => rfl); (case hg => rfl); (case hr => first | (go_simp; done) | (go_simp; rfl)); intro gb366 hg w30 hbox hb; have n0_ := Aside0.mk (Kd.R_below (Kd.R_elderB (by (with_reducible repeat (first | apply Kd.R_alloc | apply Kd.R_drewN | apply Kd.R_drew)); exact (Kd.R_mono (Kd.R_far (p := ⟨gb365, 4, none⟩) (Kd.R_far (p := ⟨gb365, 3, none⟩) (Kd.R_far (p := ⟨gb365, 2, none⟩) (Kd.R_far (p := ⟨gb365, 1, none⟩) (Kd.R_far (p := ⟨gb365, 0, none⟩) (Kd.R_types HO_11.out BK365.out (by decide)) (fun _ hk => hk.2) (.int .i64 ((rd_T149 l1 x38_2).f0))) (fun _ hk => hk.2) (.int .i64 ((rd_T149 l1 x38_2).f1))) (fun _ hk => hk.2) (.int .i64 ((rd_T149 l1 x38_2).f2))) (fun _ hk => hk.2) (.int .u64 ((rd_T149 l1 x38_2).f3.f0))) (fun _ hk => hk.2) (.int .u64 ((rd_T149 l1 x38_2).f3.f1))) (fun _ h_ => h_.1))) gb366 (Nat.le_of_eq hg.symm)) hb); have n1_ := Aside0.mk (blk_below (g := gb358) (o := .cells #[.int .u64 x359000_1, .int .u64 x359001_1] 28 (0, 0)) (by (with_reducible repeat (first | refine blk_drewN ?_ _ | refine blk_drew ?_ | refine blk_alloc ?_ _)); refine blk_far ?_ NB358_365.out _; (with_reducible repeat (first | refine blk_drewN ?_ _ | refine blk_drew ?_ | refine blk_alloc ?_ _)); refine blk_far ?_ NB358_365.out _; (with_reducible repeat (first | refine blk_drewN ?_ _ | refine blk_drew ?_ | refine blk_alloc ?_ _)); refine blk_far ?_ NB358_365.out _; (with_reducible repeat (first | refine blk_drewN ?_ _ | refine blk_drew ?_ | refine blk_alloc ?_ _)); refine blk_far ?_ NB358_365.out _; (with_reducible repeat (first | refine blk_drewN ?_ _ | refine blk_drew ?_ | refine blk_alloc ?_ _)); refine blk_far ?_ NB358_365.out _; exact bF BK358.out) hb); have n2_ := Aside0.mk (blk_below (g := gb365) (o := .cells #[.int .i64 ((rd_T149 l1 x38_2).f0), .int .i64 ((rd_T149 l1 x38_2).f1), .int .i64 ((rd_T149 l1 x38_2).f2), .int .u64 ((rd_T149 l1 x38_2).f3.f0), .int .u64 ((rd_T149 l1 x38_2).f3.f1)] 149 (0, 0)) (by (with_reducible repeat (first | refine blk_drewN ?_ _ | refine blk_drew ?_ | refine blk_alloc ?_ _)); refine blk_put (cs := #[.int .i64 ((rd_T149 l1 x38_2).f0), .int .i64 ((rd_T149 l1 x38_2).f1), .int .i64 ((rd_T149 l1 x38_2).f2), .int .u64 ((rd_T149 l1 x38_2).f3.f0), .int .u64 0]) ?_ 4 _ rfl; (with_reducible repeat (first | refine blk_drewN ?_ _ | refine blk_drew ?_ | refine blk_alloc ?_ _)); refine blk_put (cs := #[.int .i64 ((rd_T149 l1 x38_2).f0), .int .i64 ((rd_T149 l1 x38_2).f1), .int .i64 ((rd_T149 l1 x38_2).f2), .int .u64 0, .int .u64 0]) ?_ 3 _ rfl; (with_reducible repeat (first | refine blk_drewN ?_ _ | refine blk_drew ?_ | refine blk_alloc ?_ _)); refine blk_put (cs := #[.int .i64 ((rd_T149 l1 x38_2).f0), .int .i64 ((rd_T149 l1 x38_2).f1), .int .i64 0, .int .u64 0, .int .u64 0]) ?_ 2 _ rfl; (with_reducible repeat (first | refine blk_drewN ?_ _ | refine blk_drew ?_ | refine blk_alloc ?_ _)); refine blk_put (cs := #[.int .i64 ((rd_T149 l1 x38_2).f0), .int .i64 0, .int .i64 0, .int .u64 0, .int .u64 0]) ?_ 1 _ rfl; (with_reducible repeat (first | refine blk_drewN ?_ _ | refine blk_drew ?_ | refine blk_alloc ?_ _)); refine blk_put (cs := #[.int .i64 0, .int .i64 0, .int .i64 0, .int .u64 0, .int .u64 0]) ?_ 0 _ rfl; exact bF BK365.out) hb); have n3_ := Aside0.mk (below_step (by repeat (first | (with_reducible first | exact HB.out | apply bA | apply bN | apply bD | refine bS ?_ GE358.out | refine bS ?_ GE365.out) | exact HB.out)) hb); have n4_ := Aside0.mk (hbox); have n5_ := Aside0.mk ((by rw [hg]; exact (below_size (by repeat (first | (with_reducible first | exact HB.out | apply bA | apply bN | apply bD | refine bS ?_ GE358.out | refine bS ?_ GE365.out) | exact HB.out))) : w.heap.size ≤ gb366)); have n6_ := Aside0.mk ((by rw [hg]; exact (below_size (by repeat (first | (with_reducible first | exact HB.out | apply bA | apply bN | apply bD | refine bS ?_ GE358.out | refine bS ?_ GE365.out) | exact HB.out))) : w.heap.size ≤ gb366)); have n7_ := Aside0.mk ((by rw [hg]; exact Nat.ne_of_lt (blk_lt (g := gb358) (o := .cells #[.int .u64 x359000_1, .int .u64 x359001_1] 28 (0, 0)) (by (with_reducible repeat (first | refine blk_drewN ?_ _ | refine blk_drew ?_ | refine blk_alloc ?_ _)); refine blk_far ?_ NB358_365.out _; (with_reducible repeat (first | refine blk_drewN ?_ _ | refine blk_drew ?_ | refine blk_alloc ?_ _)); refine blk_far ?_ NB358_365.out _; (with_reducible repeat (first | refine blk_drewN ?_ _ | refine blk_drew ?_ | refine blk_alloc ?_ _)); refine blk_far ?_ NB358_365.out _; (with_reducible repeat (first | refine blk_drewN ?_ _ | refine blk_drew ?_ | refine blk_alloc ?_ _)); refine blk_far ?_ NB358_365.out _; (with_reducible repeat (first | refine blk_drewN ?_ _ | refine blk_drew ?_ | refine blk_alloc ?_ _)); refine blk_far ?_ NB358_365.out _; exact bF BK358.out)) : gb358 ≠ gb366)); have n8_ := Aside0.mk ((by rw [hg]; exact Nat.ne_of_gt (blk_lt (g := gb358) (o := .cells #[.int .u64 x359000_1, .int .u64 x359001_1] 28 (0, 0)) (by (with_reducible repeat (first | refine blk_drewN ?_ _ | refine blk_drew ?_ | refine blk_alloc ?_ _)); refine blk_far ?_ NB358_365.out _; (with_reducible repeat (first | refine blk_drewN ?_ _ | refine blk_drew ?_ | refine blk_alloc ?_ _)); refine blk_far ?_ NB358_365.out _; (with_reducible repeat (first | refine blk_drewN ?_ _ | refine blk_drew ?_ | refine blk_alloc ?_ _)); refine blk_far ?_ NB358_365.out _; (with_reducible repeat (first | refine blk_drewN ?_ _ | refine blk_drew ?_ | refine blk_alloc ?_ _)); refine blk_far ?_ NB358_365.out _; (with_reducible repeat (first | refine blk_drewN ?_ _ | refine blk_drew ?_ | refine blk_alloc ?_ _)); refine blk_far ?_ NB358_365.out _; exact bF BK358.out)) : gb366 ≠ gb358)); have n9_ := Aside0.mk ((by rw [hg]; exact Nat.ne_of_lt (blk_lt (g := gb365) (o := .cells #[.int .i64 ((rd_T149 l1 x38_2).f0), .int .i64 ((rd_T149 l1 x38_2).f1), .int .i64 ((rd_T149 l1 x38_2).f2), .int .u64 ((rd_T149 l1 x38_2).f3.f0), .int .u64 ((rd_T149 l1 x38_2).f3.f1)] 149 (0, 0)) (by (with_reducible repeat (first | refine blk_drewN ?_ _ | refine blk_drew ?_ | refine blk_alloc ?_ _)); refine blk_put (cs := #[.int .i64 ((rd_T149 l1 x38_2).f0), .int .i64 ((rd_T149 l1 x38_2).f1), .int .i64 ((rd_T149 l1 x38_2).f2), .int .u64 ((rd_T149 l1 x38_2).f3.f0), .int .u64 0]) ?_ 4 _ rfl; (with_reducible repeat (first | refine blk_drewN ?_ _ | refine blk_drew ?_ | refine blk_alloc ?_ _)); refine blk_put (cs := #[.int .i64 ((rd_T149 l1 x38_2).f0), .int .i64 ((rd_T149 l1 x38_2).f1), .int .i64 ((rd_T149 l1 x38_2).f2), .int .u64 0, .int .u64 0]) ?_ 3 _ rfl; (with_reducible repeat (first | refine blk_drewN ?_ _ | refine blk_drew ?_ | refine blk_alloc ?_ _)); refine blk_put (cs := #[.int .i64 ((rd_T149 l1 x38_2).f0), .int .i64 ((rd_T149 l1 x38_2).f1), .int .i64 0, .int .u64 0, .int .u64 0]) ?_ 2 _ rfl; (with_reducible repeat (first | refine blk_drewN ?_ _ | refine blk_drew ?_ | refine blk_alloc ?_ _)); refine blk_put (cs := #[.int .i64 ((rd_T149 l1 x38_2).f0), .int .i64 0, .int .i64 0, .int .u64 0, .int .u64 0]) ?_ 1 _ rfl; (with_reducible repeat (first | refine blk_drewN ?_ _ | refine blk_drew ?_ | refine blk_alloc ?_ _)); refine blk_put (cs := #[.int .i64 0, .int .i64 0, .int .i64 0, .int .u64 0, .int .u64 0]) ?_ 0 _ rfl; exact bF BK365.out)) : gb365 ≠ gb366)); have n10_ := Aside0.mk ((by rw [hg]; exact Nat.ne_of_gt (blk_lt (g := gb365) (o := .cells #[.int .i64 ((rd_T149 l1 x38_2).f0), .int .i64 ((rd_T149 l1 x38_2).f1), .int .i64 ((rd_T149 l1 x38_2).f2), .int .u64 ((rd_T149 l1 x38_2).f3.f0), .int .u64 ((rd_T149 l1 x38_2).f3.f1)] 149 (0, 0)) (by (with_reducible repeat (first | refine blk_drewN ?_ _ | refine blk_drew ?_ | refine blk_alloc ?_ _)); refine blk_put (cs := #[.int .i64 ((rd_T149 l1 x38_2).f0), .int .i64 ((rd_T149 l1 x38_2).f1), .int .i64 ((rd_T149 l1 x38_2).f2), .int .u64 ((rd_T149 l1 x38_2).f3.f0), .int .u64 0]) ?_ 4 _ rfl; (with_reducible repeat (first | refine blk_drewN ?_ _ | refine blk_drew ?_ | refine blk_alloc ?_ _)); refine blk_put (cs := #[.int .i64 ((rd_T149 l1 x38_2).f0), .int .i64 ((rd_T149 l1 x38_2).f1), .int .i64 ((rd_T149 l1 x38_2).f2), .int .u64 0, .int .u64 0]) ?_ 3 _ rfl; (with_reducible repeat (first | refine blk_drewN ?_ _ | refine blk_drew ?_ | refine blk_alloc ?_ _)); refine blk_put (cs := #[.int .i64 ((rd_T149 l1 x38_2).f0), .int .i64 ((rd_T149 l1 x38_2).f1), .int .i64 0, .int .u64 0, .int .u64 0]) ?_ 2 _ rfl; (with_reducible repeat (first | refine blk_drewN ?_ _ | refine blk_drew ?_ | refine blk_alloc ?_ _)); refine blk_put (cs := #[.int .i64 ((rd_T149 l1 x38_2).f0), .int .i64 0, .int .i64 0, .int .u64 0, .int .u64 0]) ?_ 1 _ rfl; (with_reducible repeat (first | refine blk_drewN ?_ _ | refine blk_drew ?_ | refine blk_alloc ?_ _)); refine blk_put (cs := #[.int .i64 0, .int .i64 0, .int .i64 0, .int .u64 0, .int .u64 0]) ?_ 0 _ rfl; exact bF BK365.out)) : gb366 ≠ gb365)); clear HO_11; clear BK358; clear BK365; clear HB; have HO_11 := n0_; have BK358 := n1_; have BK365 := n2_; have HB := n3_; have BK366 := n4_; have GW366 := n5_; have GE366 := n6_; have NB358_366 := n7_; have NB366_358 := n8_; have NB365_366 := n9_; have NB366_365 := n10_; clear n0_ n1_ n2_ n3_ n4_ n5_ n6_ n7_ n8_ n9_ n10_; clear hb hbox hg; have hnb31 := NB365_366.out; have hnc31 := NB366_365.out; have hcz32_0 : w30.cell? ⟨gb365, 0, none⟩ = some (.int .i64 ((rd_T149 l1 x38_2).f0)) := (blk_cell BK365.out 0).trans rfl; have hcz32_1 : w30.cell? ⟨gb365, 1, none⟩ = some (.int .i64 ((rd_T149 l1 x38_2).f1)) := (blk_cell BK365.out 1).trans rfl; have hcz32_2 : w30.cell? ⟨gb365, 2, none⟩ = some (.int .i64 ((rd_T149 l1 x38_2).f2)) := (blk_cell BK365.out 2).trans rfl; have hcz32_3 : w30.cell? ⟨gb365, 3, none⟩ = some (.int .u64 ((rd_T149 l1 x38_2).f3.f0)) := (blk_cell BK365.out 3).trans rfl; have hcz32_4 : w30.cell? ⟨gb365, 4, none⟩ = some (.int .u64 ((rd_T149 l1 x38_2).f3.f1)) := (blk_cell BK365.out 4).trans rfl; have hfz32_0 := blk_frozen BK365.out 0; have hfz32_1 := blk_frozen BK365.out 1; have hfz32_2 := blk_frozen BK365.out 2; have hfz32_3 := blk_frozen BK365.out 3; have hfz32_4 := blk_frozen BK365.out 4; have hnb33 := NB366_358.out; have hnc33 := NB358_366.out; have hcz34_0 : w30.cell? ⟨gb366, 0, none⟩ = some (.int .u64 0) := (blk_cell BK366.out 0).trans rfl; have hcz34_1 : w30.cell? ⟨gb366, 1, none⟩ = some (.int .u64 0) := (blk_cell BK366.out 1).trans rfl; have hfz34_0 := blk_frozen BK366.out 0; have hfz34_1 := blk_frozen BK366.out 1) | ((with_reducible refine gate_builtin (b := .append) (xs := #[.tmp 82, .tmp 84]) rfl ?_); at_builtin; refine Kd.R_append k28 (w0 := w) w.heap.size rfl (.tmp 82) (.tmp 84) 53 28 (.agg #[(.int .u64 0), (.int .u64 0)]) 16 rfl Try.underlying53 info28 rfl (by decide) (by omega) u11 x11_2 (⟨(rd_T149 l1 x38_2).f3.f0, (rd_T149 l1 x38_2).f3.f1⟩ : S28) [.int .u64 ((rd_T149 l1 x38_2).f3.f0), .int .u64 ((rd_T149 l1 x38_2).f3.f1)] (fun k_ => k_ ≠ gb358 ∧ k_ ≠ gb366) (fun _ => False) rfl (by first | (go_simp; done) | (go_simp; rfl)) ?aP (fun _ hk => hk.elim) ?aF ?aO ?aB ?aS ?aL ?_; (case aP => exact k28_mkM _ _ _ (⟨(rd_T149 l1 x38_2).f3.f0, (rd_T149 l1 x38_2).f3.f1⟩ : S28)); (case aB => exact (by repeat (first | (with_reducible first | exact HB.out | apply bA | apply bN | apply bD | refine bS ?_ GE358.out | refine bS ?_ GE365.out | refine bS ?_ GE366.out) | exact HB.out))); (case aF => exact (fun k_ hk => ⟨Kd.freshB (g := gb358) (o := .cells #[.int .u64 x359000_1, .int .u64 x359001_1] 28 (0, 0)) (by (with_reducible repeat (first | refine blk_drewN ?_ _ | refine blk_drew ?_ | refine blk_alloc ?_ _)); refine blk_far ?_ NB358_366.out _; (with_reducible repeat (first | refine blk_drewN ?_ _ | refine blk_drew ?_ | refine blk_alloc ?_ _)); refine blk_far ?_ NB358_366.out _; exact bF BK358.out) k_ hk, Kd.freshB (g := gb366) (o := .cells #[.int .u64 ((rd_T149 l1 x38_2).f3.f0), .int .u64 ((rd_T149 l1 x38_2).f3.f1)] 28 (0, 0)) (by (with_reducible repeat (first | refine blk_drewN ?_ _ | refine blk_drew ?_ | refine blk_alloc ?_ _)); refine blk_put (cs := #[.int .u64 ((rd_T149 l1 x38_2).f3.f0), .int .u64 0]) ?_ 1 _ rfl; (with_reducible repeat (first | refine blk_drewN ?_ _ | refine blk_drew ?_ | refine blk_alloc ?_ _)); refine blk_put (cs := #[.int .u64 0, .int .u64 0]) ?_ 0 _ rfl; exact bF BK366.out) k_ hk⟩)); (case aO => exact (by (with_reducible repeat (first | apply Kd.R_alloc | apply Kd.R_drewN | apply Kd.R_drew)); exact Kd.R_mono (Kd.R_far (p := ⟨gb366, 1, none⟩) (Kd.R_far (p := ⟨gb366, 0, none⟩) (Kd.R_mono HO_11.out (fun k_ hk => (⟨hk, hk.2⟩ : _ ∧ k_ ≠ gb366))) (fun _ hk => hk.2) (.int .u64 ((rd_T149 l1 x38_2).f3.f0))) (fun _ hk => hk.2) (.int .u64 ((rd_T149 l1 x38_2).f3.f1))) (fun _ hk => ⟨hk.1.1, hk.1.2⟩))); (case aS => exact (below_size (by repeat (first | (with_reducible first | exact HB.out | apply bA | apply bN | apply bD | refine bS ?_ GE358.out | refine bS ?_ GE365.out | refine bS ?_ GE366.out) | exact HB.out)))); (case aL => have := LMc26.out; omega); intro v368 w35 ho hb hg hat; rw [← Ny367.out] at ho; have n0_ := Aside0.mk (blk_grown (g := gb358) (o := .cells #[.int .u64 x359000_1, .int .u64 x359001_1] 28 (0, 0)) (by (with_reducible repeat (first | refine blk_drewN ?_ _ | refine blk_drew ?_ | refine blk_alloc ?_ _)); refine blk_far ?_ NB358_366.out _; (with_reducible repeat (first | refine blk_drewN ?_ _ | refine blk_drew ?_ | refine blk_alloc ?_ _)); refine blk_far ?_ NB358_366.out _; exact bF BK358.out) hg (Kd.R_away HO_11.out (fun _ hk => hk.1))); have n1_ := Aside0.mk (blk_grown (g := gb365) (o := .cells #[.int .i64 ((rd_T149 l1 x38_2).f0), .int .i64 ((rd_T149 l1 x38_2).f1), .int .i64 ((rd_T149 l1 x38_2).f2), .int .u64 ((rd_T149 l1 x38_2).f3.f0), .int .u64 ((rd_T149 l1 x38_2).f3.f1)] 149 (0, 0)) (by (with_reducible repeat (first | refine blk_drewN ?_ _ | refine blk_drew ?_ | refine blk_alloc ?_ _)); refine blk_far ?_ NB365_366.out _; (with_reducible repeat (first | refine blk_drewN ?_ _ | refine blk_drew ?_ | refine blk_alloc ?_ _)); refine blk_far ?_ NB365_366.out _; exact bF BK365.out) hg (Kd.R_ne HO_11.out BK365.out (by decide))); have n2_ := Aside0.mk (blk_grown (g := gb366) (o := .cells #[.int .u64 ((rd_T149 l1 x38_2).f3.f0), .int .u64 ((rd_T149 l1 x38_2).f3.f1)] 28 (0, 0)) (by (with_reducible repeat (first | refine blk_drewN ?_ _ | refine blk_drew ?_ | refine blk_alloc ?_ _)); refine blk_put (cs := #[.int .u64 ((rd_T149 l1 x38_2).f3.f0), .int .u64 0]) ?_ 1 _ rfl; (with_reducible repeat (first | refine blk_drewN ?_ _ | refine blk_drew ?_ | refine blk_alloc ?_ _)); refine blk_put (cs := #[.int .u64 0, .int .u64 0]) ?_ 0 _ rfl; exact bF BK366.out) hg (Kd.R_away HO_11.out (fun _ hk => hk.2))); have n3_ := Aside0.mk (hb); have n4_ := Aside0.mk (ho); clear BK358; clear BK365; clear BK366; clear HB; clear HO_11; have BK358 := n0_; have BK365 := n1_; have BK366 := n2_; have HB := n3_; have HO369 := n4_; clear n0_ n1_ n2_ n3_ n4_; clear ho hb hg hat))
            go_roundg k2
            case measure => have := HK1.out; have := HK2.out; omega
            case rel => exact ⟨(y367), (wrap64 (x38_2 + 1)), (by first | rfl | (simp; done) | (simp [*]; done)), H', ⟨by have := HK1.out; have := HK2.out; omega⟩, ⟨by (with_reducible repeat (first | apply Kd.R_alloc | apply Kd.R_drewN | apply Kd.R_drew)); exact Kd.R_mono HO369.out (fun _ hk => hk.1)⟩, ⟨by exact bF BK358.out⟩, ⟨by repeat (first | (with_reducible first | exact HB.out | apply bA | apply bN | apply bD | refine bS ?_ GE358.out | refine bS ?_ GE365.out | refine bS ?_ GE366.out) | exact HB.out)⟩⟩
           ·rw [if_neg c26] at H
            exact absurd H (by simp)
          ·rw [if_neg c25] at H
           have c25b0 : (((rd_T149 l1 x38_2).f0) == 1) = false := beq_eq_false_iff_ne.mpr c25
           have c25b1 : (((rd_T149 l1 x38_2).f0) != 1) = true := bne_iff_ne.mpr c25
           by_cases c36 : ((rd_T149 l1 x38_2).f0) = 2
           ·rw [if_pos c36] at H
            have c36b0 : (((rd_T149 l1 x38_2).f0) == 2) = true := beq_iff_eq.mpr c36
            have c36b1 : (((rd_T149 l1 x38_2).f0) != 2) = false := bne_eq_false_iff_eq.mpr c36
            clear c36
            by_cases c37 : 0 ≤ ((rd_T149 l1 x38_2).f1)
            ·rw [if_pos c37] at H
             have c37b0 : decide (0 ≤ ((rd_T149 l1 x38_2).f1)) = true := decide_eq_true c37
             clear c37
             by_cases c38 : ((rd_T149 l1 x38_2).f1) < (l2.length : Int)
             ·rw [if_pos c38] at H
              have c38b0 : decide (((rd_T149 l1 x38_2).f1) < (l2.length : Int)) = true := decide_eq_true c38
              clear c38
              by_cases c39 : x11_2.length < 8796093022208
              ·rw [if_pos c39] at H
               have LMc39 := Aside0.mk c39
               clear c39
               obtain ⟨y371, hy371⟩ : ∃ y_ : List (S28), y_ = (x11_2 ++ [(⟨(rd_T28 l2 ((rd_T149 l1 x38_2).f1)).f0, (rd_T28 l2 ((rd_T149 l1 x38_2).f1)).f1⟩ : S28)]) := ⟨_, rfl⟩
               replace H : (expr_Eval.l1 k2 a0 l2 y371 l1 (l1.length : Int) (wrap64 (x38_2 + 1))) = some (r1, r2, r3) := by first | (rw [hy371]; with_reducible exact H) | (have H2_ := (Option.bind_some _ _).symm.trans H; rw [hy371]; with_reducible exact H2_) | (have H2_ := (Option.bind_some _ _).symm.trans H; with_reducible exact H2_) | with_reducible exact H | (rw [hy371]; exact H) | exact H
               have Ny371 := Aside0.mk hy371
               clear hy371
               have H' := Aside0.mk H
               clear H
               have p364 : 0 ≤ (x38_2 : Int) := of_decide_eq_true (by first | (with_reducible assumption) | assumption)
               have q364 : x38_2 < (l1.length : Int) := of_decide_eq_true (by first | (with_reducible assumption) | assumption)
               obtain ⟨ad364, e364, hx364_0, hx364_1, hx364_2, hx364_3, hx364_4⟩ := at_T149 HR1.out x38_2 p364 q364
               cases e364
               replace hx364_0 := (HB.out.cell (World.block_lt_of_cell? w _ hx364_0)).trans hx364_0
               replace hx364_1 := (HB.out.cell (World.block_lt_of_cell? w _ hx364_1)).trans hx364_1
               replace hx364_2 := (HB.out.cell (World.block_lt_of_cell? w _ hx364_2)).trans hx364_2
               replace hx364_3 := (HB.out.cell (World.block_lt_of_cell? w _ hx364_3)).trans hx364_3
               replace hx364_4 := (HB.out.cell (World.block_lt_of_cell? w _ hx364_4)).trans hx364_4
               replace p364 := eq_true p364
               replace q364 := eq_true q364
               go_wp2_with (first | ((with_reducible refine gate_dst (N := 13) rfl ?_); refine box_event ?hg (N := 13) ?hd (cs := #[.int .i64 0, .int .i64 0, .int .i64 0, .int .u64 0, .int .u64 0]) (t := 149) ?hr ?_; (case hd => rfl); (case hg => rfl); (case hr => first | (go_simp; done) | (go_simp; rfl)); intro gb365 hg w40 hbox hb; have n0_ := Aside0.mk (Kd.R_below (by exact rF HO_11.out) hb); have n1_ := Aside0.mk (blk_below (g := gb358) (o := .cells #[.int .u64 x359000_1, .int .u64 x359001_1] 28 (0, 0)) (by exact bF BK358.out) hb); have n2_ := Aside0.mk (below_step (by repeat (first | (with_reducible first | exact HB.out | apply bA | apply bN | apply bD | refine bS ?_ GE358.out) | exact HB.out)) hb); have n3_ := Aside0.mk (hbox); have n4_ := Aside0.mk ((by rw [hg]; exact (below_size (by repeat (first | (with_reducible first | exact HB.out | apply bA | apply bN | apply bD | refine bS ?_ GE358.out) | exact HB.out))) : w.heap.size ≤ gb365)); have n5_ := Aside0.mk ((by rw [hg]; exact (below_size (by repeat (first | (with_reducible first | exact HB.out | apply bA | apply bN | apply bD | refine bS ?_ GE358.out) | exact HB.out))) : w.heap.size ≤ gb365)); have n6_ := Aside0.mk ((by rw [hg]; exact Nat.ne_of_lt (blk_lt (g := gb358) (o := .cells #[.int .u64 x359000_1, .int .u64 x359001_1] 28 (0, 0)) (by exact bF BK358.out)) : gb358 ≠ gb365)); have n7_ := Aside0.mk ((by rw [hg]; exact Nat.ne_of_gt (blk_lt (g := gb358) (o := .cells #[.int .u64 x359000_1, .int .u64 x359001_1] 28 (0, 0)) (by exact bF BK358.out)) : gb365 ≠ gb358)); clear HO_11; clear BK358; clear HB; have HO_11 := n0_; have BK358 := n1_; have HB := n2_; have BK365 := n3_; have GW365 := n4_; have GE365 := n5_; have NB358_365 := n6_; have NB365_358 := n7_; clear n0_ n1_ n2_ n3_ n4_ n5_ n6_ n7_; clear hb hbox hg; have hnb41 := NB365_358.out; have hnc41 := NB358_365.out; have hcz42_0 : w40.cell? ⟨gb365, 0, none⟩ = some (.int .i64 0) := (blk_cell BK365.out 0).trans rfl; have hcz42_1 : w40.cell? ⟨gb365, 1, none⟩ = some (.int .i64 0) := (blk_cell BK365.out 1).trans rfl; have hcz42_2 : w40.cell? ⟨gb365, 2, none⟩ = some (.int .i64 0) := (blk_cell BK365.out 2).trans rfl; have hcz42_3 : w40.cell? ⟨gb365, 3, none⟩ = some (.int .u64 0) := (blk_cell BK365.out 3).trans rfl; have hcz42_4 : w40.cell? ⟨gb365, 4, none⟩ = some (.int .u64 0) := (blk_cell BK365.out 4).trans rfl; have hfz42_0 := blk_frozen BK365.out 0; have hfz42_1 := blk_frozen BK365.out 1; have hfz42_2 := blk_frozen BK365.out 2; have hfz42_3 := blk_frozen BK365.out 3; have hfz42_4 := blk_frozen BK365.out 4) | ((with_reducible refine gate_dst (N := 14) rfl ?_); refine box_event ?hg (N := 14) ?hd (cs := #[.int .u64 0, .int .u64 0]) (t := 28) ?hr ?_; (case hd => rfl); (case hg => rfl); (case hr => first | (go_simp; done) | (go_simp; rfl)); intro gb366 hg w43 hbox hb; have n0_ := Aside0.mk (Kd.R_below (Kd.R_elderB (by (with_reducible repeat (first | apply Kd.R_alloc | apply Kd.R_drewN | apply Kd.R_drew)); exact (Kd.R_mono (Kd.R_far (p := ⟨gb365, 4, none⟩) (Kd.R_far (p := ⟨gb365, 3, none⟩) (Kd.R_far (p := ⟨gb365, 2, none⟩) (Kd.R_far (p := ⟨gb365, 1, none⟩) (Kd.R_far (p := ⟨gb365, 0, none⟩) (Kd.R_types HO_11.out BK365.out (by decide)) (fun _ hk => hk.2) (.int .i64 ((rd_T149 l1 x38_2).f0))) (fun _ hk => hk.2) (.int .i64 ((rd_T149 l1 x38_2).f1))) (fun _ hk => hk.2) (.int .i64 ((rd_T149 l1 x38_2).f2))) (fun _ hk => hk.2) (.int .u64 ((rd_T149 l1 x38_2).f3.f0))) (fun _ hk => hk.2) (.int .u64 ((rd_T149 l1 x38_2).f3.f1))) (fun _ h_ => h_.1))) gb366 (Nat.le_of_eq hg.symm)) hb); have n1_ := Aside0.mk (blk_below (g := gb358) (o := .cells #[.int .u64 x359000_1, .int .u64 x359001_1] 28 (0, 0)) (by (with_reducible repeat (first | refine blk_drewN ?_ _ | refine blk_drew ?_ | refine blk_alloc ?_ _)); refine blk_far ?_ NB358_365.out _; (with_reducible repeat (first | refine blk_drewN ?_ _ | refine blk_drew ?_ | refine blk_alloc ?_ _)); refine blk_far ?_ NB358_365.out _; (with_reducible repeat (first | refine blk_drewN ?_ _ | refine blk_drew ?_ | refine blk_alloc ?_ _)); refine blk_far ?_ NB358_365.out _; (with_reducible repeat (first | refine blk_drewN ?_ _ | refine blk_drew ?_ | refine blk_alloc ?_ _)); refine blk_far ?_ NB358_365.out _; (with_reducible repeat (first | refine blk_drewN ?_ _ | refine blk_drew ?_ | refine blk_alloc ?_ _)); refine blk_far ?_ NB358_365.out _; exact bF BK358.out) hb); have n2_ := Aside0.mk (blk_below (g := gb365) (o := .cells #[.int .i64 ((rd_T149 l1 x38_2).f0), .int .i64 ((rd_T149 l1 x38_2).f1), .int .i64 ((rd_T149 l1 x38_2).f2), .int .u64 ((rd_T149 l1 x38_2).f3.f0), .int .u64 ((rd_T149 l1 x38_2).f3.f1)] 149 (0, 0)) (by (with_reducible repeat (first | refine blk_drewN ?_ _ | refine blk_drew ?_ | refine blk_alloc ?_ _)); refine blk_put (cs := #[.int .i64 ((rd_T149 l1 x38_2).f0), .int .i64 ((rd_T149 l1 x38_2).f1), .int .i64 ((rd_T149 l1 x38_2).f2), .int .u64 ((rd_T149 l1 x38_2).f3.f0), .int .u64 0]) ?_ 4 _ rfl; (with_reducible repeat (first | refine blk_drewN ?_ _ | refine blk_drew ?_ | refine blk_alloc ?_ _)); refine blk_put (cs := #[.int .i64 ((rd_T149 l1 x38_2).f0), .int .i64 ((rd_T149 l1 x38_2).f1), .int .i64 ((rd_T149 l1 x38_2).f2), .int .u64 0, .int .u64 0]) ?_ 3 _ rfl; (with_reducible repeat (first | refine blk_drewN ?_ _ | refine blk_drew ?_ | refine blk_alloc ?_ _)); refine blk_put (cs := #[.int .i64 ((rd_T149 l1 x38_2).f0), .int .i64 ((rd_T149 l1 x38_2).f1), .int .i64 0, .int .u64 0, .int .u64 0]) ?_ 2 _ rfl; (with_reducible repeat (first | refine blk_drewN ?_ _ | refine blk_drew ?_ | refine blk_alloc ?_ _)); refine blk_put (cs := #[.int .i64 ((rd_T149 l1 x38_2).f0), .int .i64 0, .int .i64 0, .int .u64 0, .int .u64 0]) ?_ 1 _ rfl; (with_reducible repeat (first | refine blk_drewN ?_ _ | refine blk_drew ?_ | refine blk_alloc ?_ _)); refine blk_put (cs := #[.int .i64 0, .int .i64 0, .int .i64 0, .int .u64 0, .int .u64 0]) ?_ 0 _ rfl; exact bF BK365.out) hb); have n3_ := Aside0.mk (below_step (by repeat (first | (with_reducible first | exact HB.out | apply bA | apply bN | apply bD | refine bS ?_ GE358.out | refine bS ?_ GE365.out) | exact HB.out)) hb); have n4_ := Aside0.mk (hbox); have n5_ := Aside0.mk ((by rw [hg]; exact (below_size (by repeat (first | (with_reducible first | exact HB.out | apply bA | apply bN | apply bD | refine bS ?_ GE358.out | refine bS ?_ GE365.out) | exact HB.out))) : w.heap.size ≤ gb366)); have n6_ := Aside0.mk ((by rw [hg]; exact (below_size (by repeat (first | (with_reducible first | exact HB.out | apply bA | apply bN | apply bD | refine bS ?_ GE358.out | refine bS ?_ GE365.out) | exact HB.out))) : w.heap.size ≤ gb366)); have n7_ := Aside0.mk ((by rw [hg]; exact Nat.ne_of_lt (blk_lt (g := gb358) (o := .cells #[.int .u64 x359000_1, .int .u64 x359001_1] 28 (0, 0)) (by (with_reducible repeat (first | refine blk_drewN ?_ _ | refine blk_drew ?_ | refine blk_alloc ?_ _)); refine blk_far ?_ NB358_365.out _; (with_reducible repeat (first | refine blk_drewN ?_ _ | refine blk_drew ?_ | refine blk_alloc ?_ _)); refine blk_far ?_ NB358_365.out _; (with_reducible repeat (first | refine blk_drewN ?_ _ | refine blk_drew ?_ | refine blk_alloc ?_ _)); refine blk_far ?_ NB358_365.out _; (with_reducible repeat (first | refine blk_drewN ?_ _ | refine blk_drew ?_ | refine blk_alloc ?_ _)); refine blk_far ?_ NB358_365.out _; (with_reducible repeat (first | refine blk_drewN ?_ _ | refine blk_drew ?_ | refine blk_alloc ?_ _)); refine blk_far ?_ NB358_365.out _; exact bF BK358.out)) : gb358 ≠ gb366)); have n8_ := Aside0.mk ((by rw [hg]; exact Nat.ne_of_gt (blk_lt (g := gb358) (o := .cells #[.int .u64 x359000_1, .int .u64 x359001_1] 28 (0, 0)) (by (with_reducible repeat (first | refine blk_drewN ?_ _ | refine blk_drew ?_ | refine blk_alloc ?_ _)); refine blk_far ?_ NB358_365.out _; (with_reducible repeat (first | refine blk_drewN ?_ _ | refine blk_drew ?_ | refine blk_alloc ?_ _)); refine blk_far ?_ NB358_365.out _; (with_reducible repeat (first | refine blk_drewN ?_ _ | refine blk_drew ?_ | refine blk_alloc ?_ _)); refine blk_far ?_ NB358_365.out _; (with_reducible repeat (first | refine blk_drewN ?_ _ | refine blk_drew ?_ | refine blk_alloc ?_ _)); refine blk_far ?_ NB358_365.out _; (with_reducible repeat (first | refine blk_drewN ?_ _ | refine blk_drew ?_ | refine blk_alloc ?_ _)); refine blk_far ?_ NB358_365.out _; exact bF BK358.out)) : gb366 ≠ gb358)); have n9_ := Aside0.mk ((by rw [hg]; exact Nat.ne_of_lt (blk_lt (g := gb365) (o := .cells #[.int .i64 ((rd_T149 l1 x38_2).f0), .int .i64 ((rd_T149 l1 x38_2).f1), .int .i64 ((rd_T149 l1 x38_2).f2), .int .u64 ((rd_T149 l1 x38_2).f3.f0), .int .u64 ((rd_T149 l1 x38_2).f3.f1)] 149 (0, 0)) (by (with_reducible repeat (first | refine blk_drewN ?_ _ | refine blk_drew ?_ | refine blk_alloc ?_ _)); refine blk_put (cs := #[.int .i64 ((rd_T149 l1 x38_2).f0), .int .i64 ((rd_T149 l1 x38_2).f1), .int .i64 ((rd_T149 l1 x38_2).f2), .int .u64 ((rd_T149 l1 x38_2).f3.f0), .int .u64 0]) ?_ 4 _ rfl; (with_reducible repeat (first | refine blk_drewN ?_ _ | refine blk_drew ?_ | refine blk_alloc ?_ _)); refine blk_put (cs := #[.int .i64 ((rd_T149 l1 x38_2).f0), .int .i64 ((rd_T149 l1 x38_2).f1), .int .i64 ((rd_T149 l1 x38_2).f2), .int .u64 0, .int .u64 0]) ?_ 3 _ rfl; (with_reducible repeat (first | refine blk_drewN ?_ _ | refine blk_drew ?_ | refine blk_alloc ?_ _)); refine blk_put (cs := #[.int .i64 ((rd_T149 l1 x38_2).f0), .int .i64 ((rd_T149 l1 x38_2).f1), .int .i64 0, .int .u64 0, .int .u64 0]) ?_ 2 _ rfl; (with_reducible repeat (first | refine blk_drewN ?_ _ | refine blk_drew ?_ | refine blk_alloc ?_ _)); refine blk_put (cs := #[.int .i64 ((rd_T149 l1 x38_2).f0), .int .i64 0, .int .i64 0, .int .u64 0, .int .u64 0]) ?_ 1 _ rfl; (with_reducible repeat (first | refine blk_drewN ?_ _ | refine blk_drew ?_ | refine blk_alloc ?_ _)); refine blk_put (cs := #[.int .i64 0, .int .i64 0, .int .i64 0, .int .u64 0, .int .u64 0]) ?_ 0 _ rfl; exact bF BK365.out)) : gb365 ≠ gb366)); have n10_ := Aside0.mk ((by rw [hg]; exact Nat.ne_of_gt (blk_lt (g := gb365) (o := .cells #[.int .i64 ((rd_T149 l1 x38_2).f0), .int .i64 ((rd_T149 l1 x38_2).f1), .int .i64 ((rd_T149 l1 x38_2).f2), .int .u64 ((rd_T149 l1 x38_2).f3.f0), .int .u64 ((rd_T149 l1 x38_2).f3.f1)] 149 (0, 0)) (by (with_reducible repeat (first | refine blk_drewN ?_ _ | refine blk_drew ?_ | refine blk_alloc ?_ _)); refine blk_put (cs := #[.int .i64 ((rd_T149 l1 x38_2).f0), .int .i64 ((rd_T149 l1 x38_2).f1), .int .i64 ((rd_T149 l1 x38_2).f2), .int .u64 ((rd_T149 l1 x38_2).f3.f0), .int .u64 0]) ?_ 4 _ rfl; (with_reducible repeat (first | refine blk_drewN ?_ _ | refine blk_drew ?_ | refine blk_alloc ?_ _)); refine blk_put (cs := #[.int .i64 ((rd_T149 l1 x38_2).f0), .int .i64 ((rd_T149 l1 x38_2).f1), .int .i64 ((rd_T149 l1 x38_2).f2), .int .u64 0, .int .u64 0]) ?_ 3 _ rfl; (with_reducible repeat (first | refine blk_drewN ?_ _ | refine blk_drew ?_ | refine blk_alloc ?_ _)); refine blk_put (cs := #[.int .i64 ((rd_T149 l1 x38_2).f0), .int .i64 ((rd_T149 l1 x38_2).f1), .int .i64 0, .int .u64 0, .int .u64 0]) ?_ 2 _ rfl; (with_reducible repeat (first | refine blk_drewN ?_ _ | refine blk_drew ?_ | refine blk_alloc ?_ _)); refine blk_put (cs := #[.int .i64 ((rd_T149 l1 x38_2).f0), .int .i64 0, .int .i64 0, .int .u64 0, .int .u64 0]) ?_ 1 _ rfl; (with_reducible repeat (first | refine blk_drewN ?_ _ | refine blk_drew ?_ | refine blk_alloc ?_ _)); refine blk_put (cs := #[.int .i64 0, .int .i64 0, .int .i64 0, .int .u64 0, .int .u64 0]) ?_ 0 _ rfl; exact bF BK365.out)) : gb366 ≠ gb365)); clear HO_11; clear BK358; clear BK365; clear HB; have HO_11 := n0_; have BK358 := n1_; have BK365 := n2_; have HB := n3_; have BK366 := n4_; have GW366 := n5_; have GE366 := n6_; have NB358_366 := n7_; have NB366_358 := n8_; have NB365_366 := n9_; have NB366_365 := n10_; clear n0_ n1_ n2_ n3_ n4_ n5_ n6_ n7_ n8_ n9_ n10_; clear hb hbox hg; have hnb44 := NB365_366.out; have hnc44 := NB366_365.out; have hcz45_0 : w43.cell? ⟨gb365, 0, none⟩ = some (.int .i64 ((rd_T149 l1 x38_2).f0)) := (blk_cell BK365.out 0).trans rfl; have hcz45_1 : w43.cell? ⟨gb365, 1, none⟩ = some (.int .i64 ((rd_T149 l1 x38_2).f1)) := (blk_cell BK365.out 1).trans rfl; have hcz45_2 : w43.cell? ⟨gb365, 2, none⟩ = some (.int .i64 ((rd_T149 l1 x38_2).f2)) := (blk_cell BK365.out 2).trans rfl; have hcz45_3 : w43.cell? ⟨gb365, 3, none⟩ = some (.int .u64 ((rd_T149 l1 x38_2).f3.f0)) := (blk_cell BK365.out 3).trans rfl; have hcz45_4 : w43.cell? ⟨gb365, 4, none⟩ = some (.int .u64 ((rd_T149 l1 x38_2).f3.f1)) := (blk_cell BK365.out 4).trans rfl; have hfz45_0 := blk_frozen BK365.out 0; have hfz45_1 := blk_frozen BK365.out 1; have hfz45_2 := blk_frozen BK365.out 2; have hfz45_3 := blk_frozen BK365.out 3; have hfz45_4 := blk_frozen BK365.out 4; have p370 : 0 ≤ (((rd_T149 l1 x38_2).f1) : Int) := of_decide_eq_true (by first | (with_reducible assumption) | assumption); have q370 : ((rd_T149 l1 x38_2).f1) < (l2.length : Int) := of_decide_eq_true (by first | (with_reducible assumption) | assumption); obtain ⟨ad370, e370, hx370_0, hx370_1⟩ := at_T28 HR2.out ((rd_T149 l1 x38_2).f1) p370 q370; cases e370; replace hx370_0 := (HB.out.cell (World.block_lt_of_cell? w _ hx370_0)).trans hx370_0; replace hx370_1 := (HB.out.cell (World.block_lt_of_cell? w _ hx370_1)).trans hx370_1; replace p370 := eq_true p370; replace q370 := eq_true q370; have hnb46 := NB366_358.out; have hnc46 := NB358_366.out; have hcz47_0 : w43.cell? ⟨gb366, 0, none⟩ = some (.int .u64 0) := (blk_cell BK366.out 0).trans rfl; have hcz47_1 : w43.cell? ⟨gb366, 1, none⟩ = some (.int .u64 0) := (blk_cell BK366.out 1).trans rfl; have hfz47_0 := blk_frozen BK366.out 0; have hfz47_1 := blk_frozen BK366.out 1) | ((with_reducible refine gate_builtin (b := .append) (xs := #[.tmp 82, .tmp 84]) rfl ?_); at_builtin; refine Kd.R_append k28 (w0 := w) w.heap.size rfl (.tmp 82) (.tmp 84) 53 28 (.agg #[(.int .u64 0), (.int .u64 0)]) 16 rfl Try.underlying53 info28 rfl (by decide) (by omega) u11 x11_2 (⟨(rd_T28 l2 ((rd_T149 l1 x38_2).f1)).f0, (rd_T28 l2 ((rd_T149 l1 x38_2).f1)).f1⟩ : S28) [.int .u64 ((rd_T28 l2 ((rd_T149 l1 x38_2).f1)).f0), .int .u64 ((rd_T28 l2 ((rd_T149 l1 x38_2).f1)).f1)] (fun k_ => k_ ≠ gb358 ∧ k_ ≠ gb366) (fun _ => False) rfl (by first | (go_simp; done) | (go_simp; rfl)) ?aP (fun _ hk => hk.elim) ?aF ?aO ?aB ?aS ?aL ?_; (case aP => exact k28_mkM _ _ _ (⟨(rd_T28 l2 ((rd_T149 l1 x38_2).f1)).f0, (rd_T28 l2 ((rd_T149 l1 x38_2).f1)).f1⟩ : S28)); (case aB => exact (by repeat (first | (with_reducible first | exact HB.out | apply bA | apply bN | apply bD | refine bS ?_ GE358.out | refine bS ?_ GE365.out | refine bS ?_ GE366.out) | exact HB.out))); (case aF => exact (fun k_ hk => ⟨Kd.freshB (g := gb358) (o := .cells #[.int .u64 x359000_1, .int .u64 x359001_1] 28 (0, 0)) (by (with_reducible repeat (first | refine blk_drewN ?_ _ | refine blk_drew ?_ | refine blk_alloc ?_ _)); refine blk_far ?_ NB358_366.out _; (with_reducible repeat (first | refine blk_drewN ?_ _ | refine blk_drew ?_ | refine blk_alloc ?_ _)); refine blk_far ?_ NB358_366.out _; exact bF BK358.out) k_ hk, Kd.freshB (g := gb366) (o := .cells #[.int .u64 ((rd_T28 l2 ((rd_T149 l1 x38_2).f1)).f0), .int .u64 ((rd_T28 l2 ((rd_T149 l1 x38_2).f1)).f1)] 28 (0, 0)) (by (with_reducible repeat (first | refine blk_drewN ?_ _ | refine blk_drew ?_ | refine blk_alloc ?_ _)); refine blk_put (cs := #[.int .u64 ((rd_T28 l2 ((rd_T149 l1 x38_2).f1)).f0), .int .u64 0]) ?_ 1 _ rfl; (with_reducible repeat (first | refine blk_drewN ?_ _ | refine blk_drew ?_ | refine blk_alloc ?_ _)); refine blk_put (cs := #[.int .u64 0, .int .u64 0]) ?_ 0 _ rfl; exact bF BK366.out) k_ hk⟩)); (case aO => exact (by (with_reducible repeat (first | apply Kd.R_alloc | apply Kd.R_drewN | apply Kd.R_drew)); exact Kd.R_mono (Kd.R_far (p := ⟨gb366, 1, none⟩) (Kd.R_far (p := ⟨gb366, 0, none⟩) (Kd.R_mono HO_11.out (fun k_ hk => (⟨hk, hk.2⟩ : _ ∧ k_ ≠ gb366))) (fun _ hk => hk.2) (.int .u64 ((rd_T28 l2 ((rd_T149 l1 x38_2).f1)).f0))) (fun _ hk => hk.2) (.int .u64 ((rd_T28 l2 ((rd_T149 l1 x38_2).f1)).f1))) (fun _ hk => ⟨hk.1.1, hk.1.2⟩))); (case aS => exact (below_size (by repeat (first | (with_reducible first | exact HB.out | apply bA | apply bN | apply bD | refine bS ?_ GE358.out | refine bS ?_ GE365.out | refine bS ?_ GE366.out) | exact HB.out)))); (case aL => have := LMc39.out; omega); intro v372 w48 ho hb hg hat; rw [← Ny371.out] at ho; have n0_ := Aside0.mk (blk_grown (g := gb358) (o := .cells #[.int .u64 x359000_1, .int .u64 x359001_1] 28 (0, 0)) (by (with_reducible repeat (first | refine blk_drewN ?_ _ | refine blk_drew ?_ | refine blk_alloc ?_ _)); refine blk_far ?_ NB358_366.out _; (with_reducible repeat (first | refine blk_drewN ?_ _ | refine blk_drew ?_ | refine blk_alloc ?_ _)); refine blk_far ?_ NB358_366.out _; exact bF BK358.out) hg (Kd.R_away HO_11.out (fun _ hk => hk.1))); have n1_ := Aside0.mk (blk_grown (g := gb365) (o := .cells #[.int .i64 ((rd_T149 l1 x38_2).f0), .int .i64 ((rd_T149 l1 x38_2).f1), .int .i64 ((rd_T149 l1 x38_2).f2), .int .u64 ((rd_T149 l1 x38_2).f3.f0), .int .u64 ((rd_T149 l1 x38_2).f3.f1)] 149 (0, 0)) (by (with_reducible repeat (first | refine blk_drewN ?_ _ | refine blk_drew ?_ | refine blk_alloc ?_ _)); refine blk_far ?_ NB365_366.out _; (with_reducible repeat (first | refine blk_drewN ?_ _ | refine blk_drew ?_ | refine blk_alloc ?_ _)); refine blk_far ?_ NB365_366.out _; exact bF BK365.out) hg (Kd.R_ne HO_11.out BK365.out (by decide))); have n2_ := Aside0.mk (blk_grown (g := gb366) (o := .cells #[.int .u64 ((rd_T28 l2 ((rd_T149 l1 x38_2).f1)).f0), .int .u64 ((rd_T28 l2 ((rd_T149 l1 x38_2).f1)).f1)] 28 (0, 0)) (by (with_reducible repeat (first | refine blk_drewN ?_ _ | refine blk_drew ?_ | refine blk_alloc ?_ _)); refine blk_put (cs := #[.int .u64 ((rd_T28 l2 ((rd_T149 l1 x38_2).f1)).f0), .int .u64 0]) ?_ 1 _ rfl; (with_reducible repeat (first | refine blk_drewN ?_ _ | refine blk_drew ?_ | refine blk_alloc ?_ _)); refine blk_put (cs := #[.int .u64 0, .int .u64 0]) ?_ 0 _ rfl; exact bF BK366.out) hg (Kd.R_away HO_11.out (fun _ hk => hk.2))); have n3_ := Aside0.mk (hb); have n4_ := Aside0.mk (ho); clear BK358; clear BK365; clear BK366; clear HB; clear HO_11; have BK358 := n0_; have BK365 := n1_; have BK366 := n2_; have HB := n3_; have HO373 := n4_; clear n0_ n1_ n2_ n3_ n4_; clear ho hb hg hat))
               go_roundg k2
               case measure => have := HK1.out; have := HK2.out; omega
               case rel => exact ⟨(y371), (wrap64 (x38_2 + 1)), (by first | rfl | (simp; done) | (simp [*]; done)), H', ⟨by have := HK1.out; have := HK2.out; omega⟩, ⟨by (with_reducible repeat (first | apply Kd.R_alloc | apply Kd.R_drewN | apply Kd.R_drew)); exact Kd.R_mono HO373.out (fun _ hk => hk.1)⟩, ⟨by exact bF BK358.out⟩, ⟨by repeat (first | (with_reducible first | exact HB.out | apply bA | apply bN | apply bD | refine bS ?_ GE358.out | refine bS ?_ GE365.out | refine bS ?_ GE366.out) | exact HB.out)⟩⟩
              ·rw [if_neg c39] at H
               exact absurd H (by simp)
             ·rw [if_neg c38] at H
              exact absurd H (by simp)
            ·rw [if_neg c37] at H
             exact absurd H (by simp)
           ·rw [if_neg c36] at H
            have c36b0 : (((rd_T149 l1 x38_2).f0) == 2) = false := beq_eq_false_iff_ne.mpr c36
            have c36b1 : (((rd_T149 l1 x38_2).f0) != 2) = true := bne_iff_ne.mpr c36
            by_cases c49 : ((rd_T149 l1 x38_2).f0) = 3
            ·rw [if_pos c49] at H
             have c49b0 : (((rd_T149 l1 x38_2).f0) == 3) = true := beq_iff_eq.mpr c49
             have c49b1 : (((rd_T149 l1 x38_2).f0) != 3) = false := bne_eq_false_iff_eq.mpr c49
             clear c49
             by_cases c50 : 0 ≤ ((rd_T149 l1 x38_2).f1)
             ·rw [if_pos c50] at H
              have c50b0 : decide (0 ≤ ((rd_T149 l1 x38_2).f1)) = true := decide_eq_true c50
              clear c50
              by_cases c51 : ((rd_T149 l1 x38_2).f1) < (x11_2.length : Int)
              ·rw [if_pos c51] at H
               have c51b0 : decide (((rd_T149 l1 x38_2).f1) < (x11_2.length : Int)) = true := decide_eq_true c51
               clear c51
               by_cases c52 : 0 ≤ ((rd_T149 l1 x38_2).f2)
               ·rw [if_pos c52] at H
                have c52b0 : decide (0 ≤ ((rd_T149 l1 x38_2).f2)) = true := decide_eq_true c52
                clear c52
                by_cases c53 : ((rd_T149 l1 x38_2).f2) < (x11_2.length : Int)
                ·rw [if_pos c53] at H
                 have c53b0 : decide (((rd_T149 l1 x38_2).f2) < (x11_2.length : Int)) = true := decide_eq_true c53
                 clear c53
                 replace H := Option.bind_eq_some_iff.mp H
                 obtain ⟨⟨t376, t377⟩, A540, H⟩ := H
                 replace H : (if x11_2.length < 8796093022208 then (expr_Eval.l1 k2 a0 l2 (x11_2 ++ [(⟨t376, t377⟩ : S28)]) l1 (l1.length : Int) (wrap64 (x38_2 + 1))) else (none)) = some (r1, r2, r3) := H
                 have A54 := Aside0.mk A540
                 clear A540
                 by_cases c55 : x11_2.length < 8796093022208
                 ·rw [if_pos c55] at H
                  have LMc55 := Aside0.mk c55
                  clear c55
                  obtain ⟨y378, hy378⟩ : ∃ y_ : List (S28), y_ = (x11_2 ++ [(⟨t376, t377⟩ : S28)]) := ⟨_, rfl⟩
                  replace H : (expr_Eval.l1 k2 a0 l2 y378 l1 (l1.length : Int) (wrap64 (x38_2 + 1))) = some (r1, r2, r3) := by first | (rw [hy378]; with_reducible exact H) | (have H2_ := (Option.bind_some _ _).symm.trans H; rw [hy378]; with_reducible exact H2_) | (have H2_ := (Option.bind_some _ _).symm.trans H; with_reducible exact H2_) | with_reducible exact H | (rw [hy378]; exact H) | exact H
                  have Ny378 := Aside0.mk hy378
                  clear hy378
                  have H' := Aside0.mk H
                  clear H
                  have p364 : 0 ≤ (x38_2 : Int) := of_decide_eq_true (by first | (with_reducible assumption) | assumption)
                  have q364 : x38_2 < (l1.length : Int) := of_decide_eq_true (by first | (with_reducible assumption) | assumption)
                  obtain ⟨ad364, e364, hx364_0, hx364_1, hx364_2, hx364_3, hx364_4⟩ := at_T149 HR1.out x38_2 p364 q364
                  cases e364
                  replace hx364_0 := (HB.out.cell (World.block_lt_of_cell? w _ hx364_0)).trans hx364_0
                  replace hx364_1 := (HB.out.cell (World.block_lt_of_cell? w _ hx364_1)).trans hx364_1
                  replace hx364_2 := (HB.out.cell (World.block_lt_of_cell? w _ hx364_2)).trans hx364_2
                  replace hx364_3 := (HB.out.cell (World.block_lt_of_cell? w _ hx364_3)).trans hx364_3
                  replace hx364_4 := (HB.out.cell (World.block_lt_of_cell? w _ hx364_4)).trans hx364_4
                  replace p364 := eq_true p364
                  replace q364 := eq_true q364
                  try go_wp2_with (first | ((with_reducible refine gate_dst (N := 13) rfl ?_); refine box_event ?hg (N := 13) ?hd (cs := #[.int .i64 0, .int .i64 0, .int .i64 0, .int .u64 0, .int .u64 0]) (t := 149) ?hr ?_; (case hd => rfl); (case hg => rfl); (case hr => first | (go_simp; done) | (go_simp; rfl)); intro gb365 hg w56 hbox hb; have n0_ := Aside0.mk (Kd.R_below (by exact rF HO_11.out) hb); have n1_ := Aside0.mk (blk_below (g := gb358) (o := .cells #[.int .u64 x359000_1, .int .u64 x359001_1] 28 (0, 0)) (by exact bF BK358.out) hb); have n2_ := Aside0.mk (below_step (by repeat (first | (with_reducible first | exact HB.out | apply bA | apply bN | apply bD | refine bS ?_ GE358.out) | exact HB.out)) hb); have n3_ := Aside0.mk (hbox); have n4_ := Aside0.mk ((by rw [hg]; exact (below_size (by repeat (first | (with_reducible first | exact HB.out | apply bA | apply bN | apply bD | refine bS ?_ GE358.out) | exact HB.out))) : w.heap.size ≤ gb365)); have n5_ := Aside0.mk ((by rw [hg]; exact (below_size (by repeat (first | (with_reducible first | exact HB.out | apply bA | apply bN | apply bD | refine bS ?_ GE358.out) | exact HB.out))) : w.heap.size ≤ gb365)); have n6_ := Aside0.mk ((by rw [hg]; exact Nat.ne_of_lt (blk_lt (g := gb358) (o := .cells #[.int .u64 x359000_1, .int .u64 x359001_1] 28 (0, 0)) (by exact bF BK358.out)) : gb358 ≠ gb365)); have n7_ := Aside0.mk ((by rw [hg]; exact Nat.ne_of_gt (blk_lt (g := gb358) (o := .cells #[.int .u64 x359000_1, .int .u64 x359001_1] 28 (0, 0)) (by exact bF BK358.out)) : gb365 ≠ gb358)); clear HO_11; clear BK358; clear HB; have HO_11 := n0_; have BK358 := n1_; have HB := n2_; have BK365 := n3_; have GW365 := n4_; have GE365 := n5_; have NB358_365 := n6_; have NB365_358 := n7_; clear n0_ n1_ n2_ n3_ n4_ n5_ n6_ n7_; clear hb hbox hg; have hnb57 := NB365_358.out; have hnc57 := NB358_365.out; have hcz58_0 : w56.cell? ⟨gb365, 0, none⟩ = some (.int .i64 0) := (blk_cell BK365.out 0).trans rfl; have hcz58_1 : w56.cell? ⟨gb365, 1, none⟩ = some (.int .i64 0) := (blk_cell BK365.out 1).trans rfl; have hcz58_2 : w56.cell? ⟨gb365, 2, none⟩ = some (.int .i64 0) := (blk_cell BK365.out 2).trans rfl; have hcz58_3 : w56.cell? ⟨gb365, 3, none⟩ = some (.int .u64 0) := (blk_cell BK365.out 3).trans rfl; have hcz58_4 : w56.cell? ⟨gb365, 4, none⟩ = some (.int .u64 0) := (blk_cell BK365.out 4).trans rfl; have hfz58_0 := blk_frozen BK365.out 0; have hfz58_1 := blk_frozen BK365.out 1; have hfz58_2 := blk_frozen BK365.out 2; have hfz58_3 := blk_frozen BK365.out 3; have hfz58_4 := blk_frozen BK365.out 4) | ((with_reducible refine gate_dst (N := 14) rfl ?_); refine box_event ?hg (N := 14) ?hd (cs := #[.int .u64 0, .int .u64 0]) (t := 28) ?hr ?_; (case hd => rfl); (case hg => rfl); (case hr => first | (go_simp; done) | (go_simp; rfl)); intro gb366 hg w59 hbox hb; have n0_ := Aside0.mk (Kd.R_below (Kd.R_elderB (by (with_reducible repeat (first | apply Kd.R_alloc | apply Kd.R_drewN | apply Kd.R_drew)); exact (Kd.R_mono (Kd.R_far (p := ⟨gb365, 4, none⟩) (Kd.R_far (p := ⟨gb365, 3, none⟩) (Kd.R_far (p := ⟨gb365, 2, none⟩) (Kd.R_far (p := ⟨gb365, 1, none⟩) (Kd.R_far (p := ⟨gb365, 0, none⟩) (Kd.R_types HO_11.out BK365.out (by decide)) (fun _ hk => hk.2) (.int .i64 ((rd_T149 l1 x38_2).f0))) (fun _ hk => hk.2) (.int .i64 ((rd_T149 l1 x38_2).f1))) (fun _ hk => hk.2) (.int .i64 ((rd_T149 l1 x38_2).f2))) (fun _ hk => hk.2) (.int .u64 ((rd_T149 l1 x38_2).f3.f0))) (fun _ hk => hk.2) (.int .u64 ((rd_T149 l1 x38_2).f3.f1))) (fun _ h_ => h_.1))) gb366 (Nat.le_of_eq hg.symm)) hb); have n1_ := Aside0.mk (blk_below (g := gb358) (o := .cells #[.int .u64 x359000_1, .int .u64 x359001_1] 28 (0, 0)) (by (with_reducible repeat (first | refine blk_drewN ?_ _ | refine blk_drew ?_ | refine blk_alloc ?_ _)); refine blk_far ?_ NB358_365.out _; (with_reducible repeat (first | refine blk_drewN ?_ _ | refine blk_drew ?_ | refine blk_alloc ?_ _)); refine blk_far ?_ NB358_365.out _; (with_reducible repeat (first | refine blk_drewN ?_ _ | refine blk_drew ?_ | refine blk_alloc ?_ _)); refine blk_far ?_ NB358_365.out _; (with_reducible repeat (first | refine blk_drewN ?_ _ | refine blk_drew ?_ | refine blk_alloc ?_ _)); refine blk_far ?_ NB358_365.out _; (with_reducible repeat (first | refine blk_drewN ?_ _ | refine blk_drew ?_ | refine blk_alloc ?_ _)); refine blk_far ?_ NB358_365.out _; exact bF BK358.out) hb); have n2_ := Aside0.mk (blk_below (g := gb365) (o := .cells #[.int .i64 ((rd_T149 l1 x38_2).f0), .int .i64 ((rd_T149 l1 x38_2).f1), .int .i64 ((rd_T149 l1 x38_2).f2), .int .u64 ((rd_T149 l1 x38_2).f3.f0), .int .u64 ((rd_T149 l1 x38_2).f3.f1)] 149 (0, 0)) (by (with_reducible repeat (first | refine blk_drewN ?_ _ | refine blk_drew ?_ | refine blk_alloc ?_ _)); refine blk_put (cs := #[.int .i64 ((rd_T149 l1 x38_2).f0), .int .i64 ((rd_T149 l1 x38_2).f1), .int .i64 ((rd_T149 l1 x38_2).f2), .int .u64 ((rd_T149 l1 x38_2).f3.f0), .int .u64 0]) ?_ 4 _ rfl; (with_reducible repeat (first | refine blk_drewN ?_ _ | refine blk_drew ?_ | refine blk_alloc ?_ _)); refine blk_put (cs := #[.int .i64 ((rd_T149 l1 x38_2).f0), .int .i64 ((rd_T149 l1 x38_2).f1), .int .i64 ((rd_T149 l1 x38_2).f2), .int .u64 0, .int .u64 0]) ?_ 3 _ rfl; (with_reducible repeat (first | refine blk_drewN ?_ _ | refine blk_drew ?_ | refine blk_alloc ?_ _)); refine blk_put (cs := #[.int .i64 ((rd_T149 l1 x38_2).f0), .int .i64 ((rd_T149 l1 x38_2).f1), .int .i64 0, .int .u64 0, .int .u64 0]) ?_ 2 _ rfl; (with_reducible repeat (first | refine blk_drewN ?_ _ | refine blk_drew ?_ | refine blk_alloc ?_ _)); refine blk_put (cs := #[.int .i64 ((rd_T149 l1 x38_2).f0), .int .i64 0, .int .i64 0, .int .u64 0, .int .u64 0]) ?_ 1 _ rfl; (with_reducible repeat (first | refine blk_drewN ?_ _ | refine blk_drew ?_ | refine blk_alloc ?_ _)); refine blk_put (cs := #[.int .i64 0, .int .i64 0, .int .i64 0, .int .u64 0, .int .u64 0]) ?_ 0 _ rfl; exact bF BK365.out) hb); have n3_ := Aside0.mk (below_step (by repeat (first | (with_reducible first | exact HB.out | apply bA | apply bN | apply bD | refine bS ?_ GE358.out | refine bS ?_ GE365.out) | exact HB.out)) hb); have n4_ := Aside0.mk (hbox); have n5_ := Aside0.mk ((by rw [hg]; exact (below_size (by repeat (first | (with_reducible first | exact HB.out | apply bA | apply bN | apply bD | refine bS ?_ GE358.out | refine bS ?_ GE365.out) | exact HB.out))) : w.heap.size ≤ gb366)); have n6_ := Aside0.mk ((by rw [hg]; exact (below_size (by repeat (first | (with_reducible first | exact HB.out | apply bA | apply bN | apply bD | refine bS ?_ GE358.out | refine bS ?_ GE365.out) | exact HB.out))) : w.heap.size ≤ gb366)); have n7_ := Aside0.mk ((by rw [hg]; exact Nat.ne_of_lt (blk_lt (g := gb358) (o := .cells #[.int .u64 x359000_1, .int .u64 x359001_1] 28 (0, 0)) (by (with_reducible repeat (first | refine blk_drewN ?_ _ | refine blk_drew ?_ | refine blk_alloc ?_ _)); refine blk_far ?_ NB358_365.out _; (with_reducible repeat (first | refine blk_drewN ?_ _ | refine blk_drew ?_ | refine blk_alloc ?_ _)); refine blk_far ?_ NB358_365.out _; (with_reducible repeat (first | refine blk_drewN ?_ _ | refine blk_drew ?_ | refine blk_alloc ?_ _)); refine blk_far ?_ NB358_365.out _; (with_reducible repeat (first | refine blk_drewN ?_ _ | refine blk_drew ?_ | refine blk_alloc ?_ _)); refine blk_far ?_ NB358_365.out _; (with_reducible repeat (first | refine blk_drewN ?_ _ | refine blk_drew ?_ | refine blk_alloc ?_ _)); refine blk_far ?_ NB358_365.out _; exact bF BK358.out)) : gb358 ≠ gb366)); have n8_ := Aside0.mk ((by rw [hg]; exact Nat.ne_of_gt (blk_lt (g := gb358) (o := .cells #[.int .u64 x359000_1, .int .u64 x359001_1] 28 (0, 0)) (by (with_reducible repeat (first | refine blk_drewN ?_ _ | refine blk_drew ?_ | refine blk_alloc ?_ _)); refine blk_far ?_ NB358_365.out _; (with_reducible repeat (first | refine blk_drewN ?_ _ | refine blk_drew ?_ | refine blk_alloc ?_ _)); refine blk_far ?_ NB358_365.out _; (with_reducible repeat (first | refine blk_drewN ?_ _ | refine blk_drew ?_ | refine blk_alloc ?_ _)); refine blk_far ?_ NB358_365.out _; (with_reducible repeat (first | refine blk_drewN ?_ _ | refine blk_drew ?_ | refine blk_alloc ?_ _)); refine blk_far ?_ NB358_365.out _; (with_reducible repeat (first | refine blk_drewN ?_ _ | refine blk_drew ?_ | refine blk_alloc ?_ _)); refine blk_far ?_ NB358_365.out _; exact bF BK358.out)) : gb366 ≠ gb358)); have n9_ := Aside0.mk ((by rw [hg]; exact Nat.ne_of_lt (blk_lt (g := gb365) (o := .cells #[.int .i64 ((rd_T149 l1 x38_2).f0), .int .i64 ((rd_T149 l1 x38_2).f1), .int .i64 ((rd_T149 l1 x38_2).f2), .int .u64 ((rd_T149 l1 x38_2).f3.f0), .int .u64 ((rd_T149 l1 x38_2).f3.f1)] 149 (0, 0)) (by (with_reducible repeat (first | refine blk_drewN ?_ _ | refine blk_drew ?_ | refine blk_alloc ?_ _)); refine blk_put (cs := #[.int .i64 ((rd_T149 l1 x38_2).f0), .int .i64 ((rd_T149 l1 x38_2).f1), .int .i64 ((rd_T149 l1 x38_2).f2), .int .u64 ((rd_T149 l1 x38_2).f3.f0), .int .u64 0]) ?_ 4 _ rfl; (with_reducible repeat (first | refine blk_drewN ?_ _ | refine blk_drew ?_ | refine blk_alloc ?_ _)); refine blk_put (cs := #[.int .i64 ((rd_T149 l1 x38_2).f0), .int .i64 ((rd_T149 l1 x38_2).f1), .int .i64 ((rd_T149 l1 x38_2).f2), .int .u64 0, .int .u64 0]) ?_ 3 _ rfl; (with_reducible repeat (first | refine blk_drewN ?_ _ | refine blk_drew ?_ | refine blk_alloc ?_ _)); refine blk_put (cs := #[.int .i64 ((rd_T149 l1 x38_2).f0), .int .i64 ((rd_T149 l1 x38_2).f1), .int .i64 0, .int .u64 0, .int .u64 0]) ?_ 2 _ rfl; (with_reducible repeat (first | refine blk_drewN ?_ _ | refine blk_drew ?_ | refine blk_alloc ?_ _)); refine blk_put (cs := #[.int .i64 ((rd_T149 l1 x38_2).f0), .int .i64 0, .int .i64 0, .int .u64 0, .int .u64 0]) ?_ 1 _ rfl; (with_reducible repeat (first | refine blk_drewN ?_ _ | refine blk_drew ?_ | refine blk_alloc ?_ _)); refine blk_put (cs := #[.int .i64 0, .int .i64 0, .int .i64 0, .int .u64 0, .int .u64 0]) ?_ 0 _ rfl; exact bF BK365.out)) : gb365 ≠ gb366)); have n10_ := Aside0.mk ((by rw [hg]; exact Nat.ne_of_gt (blk_lt (g := gb365) (o := .cells #[.int .i64 ((rd_T149 l1 x38_2).f0), .int .i64 ((rd_T149 l1 x38_2).f1), .int .i64 ((rd_T149 l1 x38_2).f2), .int .u64 ((rd_T149 l1 x38_2).f3.f0), .int .u64 ((rd_T149 l1 x38_2).f3.f1)] 149 (0, 0)) (by (with_reducible repeat (first | refine blk_drewN ?_ _ | refine blk_drew ?_ | refine blk_alloc ?_ _)); refine blk_put (cs := #[.int .i64 ((rd_T149 l1 x38_2).f0), .int .i64 ((rd_T149 l1 x38_2).f1), .int .i64 ((rd_T149 l1 x38_2).f2), .int .u64 ((rd_T149 l1 x38_2).f3.f0), .int .u64 0]) ?_ 4 _ rfl; (with_reducible repeat (first | refine blk_drewN ?_ _ | refine blk_drew ?_ | refine blk_alloc ?_ _)); refine blk_put (cs := #[.int .i64 ((rd_T149 l1 x38_2).f0), .int .i64 ((rd_T149 l1 x38_2).f1), .int .i64 ((rd_T149 l1 x38_2).f2), .int .u64 0, .int .u64 0]) ?_ 3 _ rfl; (with_reducible repeat (first | refine blk_drewN ?_ _ | refine blk_drew ?_ | refine blk_alloc ?_ _)); refine blk_put (cs := #[.int .i64 ((rd_T149 l1 x38_2).f0), .int .i64 ((rd_T149 l1 x38_2).f1), .int .i64 0, .int .u64 0, .int .u64 0]) ?_ 2 _ rfl; (with_reducible repeat (first | refine blk_drewN ?_ _ | refine blk_drew ?_ | refine blk_alloc ?_ _)); refine blk_put (cs := #[.int .i64 ((rd_T149 l1 x38_2).f0), .int .i64 0, .int .i64 0, .int .u64 0, .int .u64 0]) ?_ 1 _ rfl; (with_reducible repeat (first | refine blk_drewN ?_ _ | refine blk_drew ?_ | refine blk_alloc ?_ _)); refine blk_put (cs := #[.int .i64 0, .int .i64 0, .int .i64 0, .int .u64 0, .int .u64 0]) ?_ 0 _ rfl; exact bF BK365.out)) : gb366 ≠ gb365)); clear HO_11; clear BK358; clear BK365; clear HB; have HO_11 := n0_; have BK358 := n1_; have BK365 := n2_; have HB := n3_; have BK366 := n4_; have GW366 := n5_; have GE366 := n6_; have NB358_366 := n7_; have NB366_358 := n8_; have NB365_366 := n9_; have NB366_365 := n10_; clear n0_ n1_ n2_ n3_ n4_ n5_ n6_ n7_ n8_ n9_ n10_; clear hb hbox hg; have hnb60 := NB365_366.out; have hnc60 := NB366_365.out; have hcz61_0 : w59.cell? ⟨gb365, 0, none⟩ = some (.int .i64 ((rd_T149 l1 x38_2).f0)) := (blk_cell BK365.out 0).trans rfl; have hcz61_1 : w59.cell? ⟨gb365, 1, none⟩ = some (.int .i64 ((rd_T149 l1 x38_2).f1)) := (blk_cell BK365.out 1).trans rfl; have hcz61_2 : w59.cell? ⟨gb365, 2, none⟩ = some (.int .i64 ((rd_T149 l1 x38_2).f2)) := (blk_cell BK365.out 2).trans rfl; have hcz61_3 : w59.cell? ⟨gb365, 3, none⟩ = some (.int .u64 ((rd_T149 l1 x38_2).f3.f0)) := (blk_cell BK365.out 3).trans rfl; have hcz61_4 : w59.cell? ⟨gb365, 4, none⟩ = some (.int .u64 ((rd_T149 l1 x38_2).f3.f1)) := (blk_cell BK365.out 4).trans rfl; have hfz61_0 := blk_frozen BK365.out 0; have hfz61_1 := blk_frozen BK365.out 1; have hfz61_2 := blk_frozen BK365.out 2; have hfz61_3 := blk_frozen BK365.out 3; have hfz61_4 := blk_frozen BK365.out 4))
                  have n0_ := Aside0.mk (Kd.R_drew HO_11.out)
                  have n1_ := Aside0.mk (blk_drew BK358.out)
                  have n2_ := Aside0.mk (blk_drew BK365.out)
                  have n3_ := Aside0.mk (blk_drew BK366.out)
                  have n4_ := Aside0.mk (below_drew1 HB.out)
                  clear HO_11
                  clear BK358
                  clear BK365
                  clear BK366
                  clear HB
                  have HO_11 := n0_
                  have BK358 := n1_
                  have BK365 := n2_
                  have BK366 := n3_
                  have HB := n4_
                  clear n0_ n1_ n2_ n3_ n4_
                  obtain ⟨Ao63, co63, eo63⟩ := Kd.R_slice HO_11.out
                  (first | subst eo63 | (injection eo63 with f1_ f2_ f3_; have f4_ := f1_.symm; have f5_ := f3_.symm; clear f1_ f2_ f3_; subst f4_; subst f5_))
                  have p374 : 0 ≤ (((rd_T149 l1 x38_2).f1) : Int) := of_decide_eq_true (by first | (with_reducible assumption) | assumption)
                  have q374 : ((rd_T149 l1 x38_2).f1) < (x11_2.length : Int) := of_decide_eq_true (by first | (with_reducible assumption) | assumption)
                  obtain ⟨ad374, e374, hx374_0, hx374_1⟩ := at_T28 (Kd.R_reads' HO_11.out).2.2 ((rd_T149 l1 x38_2).f1) p374 q374
                  cases e374
                  replace p374 := eq_true p374
                  replace q374 := eq_true q374
                  have p375 : 0 ≤ (((rd_T149 l1 x38_2).f2) : Int) := of_decide_eq_true (by first | (with_reducible assumption) | assumption)
                  have q375 : ((rd_T149 l1 x38_2).f2) < (x11_2.length : Int) := of_decide_eq_true (by first | (with_reducible assumption) | assumption)
                  obtain ⟨ad375, e375, hx375_0, hx375_1⟩ := at_T28 (Kd.R_reads' HO_11.out).2.2 ((rd_T149 l1 x38_2).f2) p375 q375
                  obtain rfl : ad374 = ad375 := (by injection e375)
                  replace p375 := eq_true p375
                  replace q375 := eq_true q375
                  refine start_ (n := 12) (S := fun w' => w'.cell? ⟨gb365, 0, none⟩ = some (.int .i64 ((rd_T149 l1 x38_2).f0)) ∧ w'.cell? ⟨gb365, 1, none⟩ = some (.int .i64 ((rd_T149 l1 x38_2).f1)) ∧ w'.cell? ⟨gb365, 2, none⟩ = some (.int .i64 ((rd_T149 l1 x38_2).f2)) ∧ w'.cell? ⟨gb365, 3, none⟩ = some (.int .u64 ((rd_T149 l1 x38_2).f3.f0)) ∧ w'.cell? ⟨gb365, 4, none⟩ = some (.int .u64 ((rd_T149 l1 x38_2).f3.f1)) ∧ w'.cell? (ad374.add ((((rd_T149 l1 x38_2).f1)).toNat * 2)) = some (.int .u64 ((rd_T28 x11_2 ((rd_T149 l1 x38_2).f1)).f0)) ∧ w'.cell? ⟨(ad374.add ((((rd_T149 l1 x38_2).f1)).toNat * 2)).block, (ad374.add ((((rd_T149 l1 x38_2).f1)).toNat * 2)).off + 1, none⟩ = some (.int .u64 ((rd_T28 x11_2 ((rd_T149 l1 x38_2).f1)).f1)) ∧ w'.cell? (ad374.add ((((rd_T149 l1 x38_2).f2)).toNat * 2)) = some (.int .u64 ((rd_T28 x11_2 ((rd_T149 l1 x38_2).f2)).f0)) ∧ w'.cell? ⟨(ad374.add ((((rd_T149 l1 x38_2).f2)).toNat * 2)).block, (ad374.add ((((rd_T149 l1 x38_2).f2)).toNat * 2)).off + 1, none⟩ = some (.int .u64 ((rd_T28 x11_2 ((rd_T149 l1 x38_2).f2)).f1))) (ds := []) #[false, false, false, false, false, false, false, false, false, false, false, false] (by kernel_rfl) rfl rfl ⟨(blk_cell BK365.out 0).trans rfl, (blk_cell BK365.out 1).trans rfl, (blk_cell BK365.out 2).trans rfl, (blk_cell BK365.out 3).trans rfl, (blk_cell BK365.out 4).trans rfl, hx374_0, hx374_1, hx375_0, hx375_1⟩ (fun hHeld => ?_); refine with_tabW expr_Eval.tab21 expr_Eval.bits21 (fun HT_ HW_ => ?_)
                  generalize w59.drew = w62 at HO_11 BK358 BK365 BK366 HB hx374_0 hx374_1 hx375_0 hx375_1 hHeld ⊢
                  refine pure_ (i := 0) (N := some 57) (v := ?_) (a' := ?_) #[true, false, false, false, false, false, false, false, false, false, false, false] rfl rfl (any_of HT_.out (by kernel_rfl)) (fun _ _ _ h => h) (Or.inl ⟨by rfl, ?_⟩) ?_ ?_
                  rotate_left
                  ·intro w'
                   go_simp
                   with_reducible rfl
                  rotate_left
                  ·simp only [Act.put, List.setIfInBounds_toArray, List.set_cons_zero, List.set_cons_succ, i64_w, i32_w]
                   rfl
                  refine pure_ (i := 1) (N := some 58) (v := ?_) (a' := ?_) #[true, true, false, false, false, false, false, false, false, false, false, false] rfl rfl (any_of HT_.out (by kernel_rfl)) (fun _ _ _ h => h) (Or.inl ⟨by rfl, ?_⟩) ?_ ?_
                  rotate_left
                  ·intro w'
                   go_simp
                   with_reducible rfl
                  rotate_left
                  ·simp only [Act.put, List.setIfInBounds_toArray, List.set_cons_zero, List.set_cons_succ, i64_w, i32_w]
                   rfl
                  refine pure_ (i := 5) (N := some 62) (v := ?_) (a' := ?_) #[true, true, false, false, false, true, false, false, false, false, false, false] rfl rfl (any_of HT_.out (by kernel_rfl)) (fun _ _ _ h => h) (Or.inl ⟨by rfl, ?_⟩) ?_ ?_
                  rotate_left
                  ·intro w'
                   go_simp
                   with_reducible rfl
                  rotate_left
                  ·simp only [Act.put, List.setIfInBounds_toArray, List.set_cons_zero, List.set_cons_succ, i64_w, i32_w]
                   rfl
                  refine pure_ (i := 6) (N := some 63) (v := ?_) (a' := ?_) #[true, true, false, false, false, true, true, false, false, false, false, false] rfl rfl (any_of HT_.out (by kernel_rfl)) (fun _ _ _ h => h) (Or.inl ⟨by rfl, ?_⟩) ?_ ?_
                  rotate_left
                  ·intro w'
                   go_simp
                   with_reducible rfl
                  rotate_left
                  ·simp only [Act.put, List.setIfInBounds_toArray, List.set_cons_zero, List.set_cons_succ, i64_w, i32_w]
                   rfl
                  refine take_ (i := 2) (N := some 59) (v := ?_) (a' := ?_) #[true, true, true, false, false, true, true, false, false, false, false, false] rfl rfl (take_ofW HT_.out HW_.out (by kernel_rfl)) (fun _ _ _ h => h) (Or.inl ⟨by rfl, ?_⟩) hHeld ?_ ?_
                  rotate_left
                  ·rintro w' ⟨s0, s1, s2, s3, s4, s5, s6, s7, s8⟩
                   go_simp
                   with_reducible rfl
                  rotate_left
                  ·simp only [Act.put, List.setIfInBounds_toArray, List.set_cons_zero, List.set_cons_succ, i64_w, i32_w]
                   rfl
                  refine pure_ (i := 3) (N := some 60) (v := ?_) (a' := ?_) #[true, true, true, true, false, true, true, false, false, false, false, false] rfl rfl (any_of HT_.out (by kernel_rfl)) (fun _ _ _ h => h) (Or.inl ⟨by rfl, ?_⟩) ?_ ?_
                  rotate_left
                  ·intro w'
                   go_simp
                   with_reducible rfl
                  rotate_left
                  ·simp only [Act.put, List.setIfInBounds_toArray, List.set_cons_zero, List.set_cons_succ, i64_w, i32_w]
                   rfl
                  refine take_ (i := 4) (N := some 61) (v := ?_) (a' := ?_) #[true, true, true, true, true, true, true, false, false, false, false, false] rfl rfl (take_ofW HT_.out HW_.out (by kernel_rfl)) (fun _ _ _ h => h) (Or.inl ⟨by rfl, ?_⟩) hHeld ?_ ?_
                  rotate_left
                  ·rintro w' ⟨s0, s1, s2, s3, s4, s5, s6, s7, s8⟩
                   go_simp
                   with_reducible rfl
                  rotate_left
                  ·simp only [Act.put, List.setIfInBounds_toArray, List.set_cons_zero, List.set_cons_succ, i64_w, i32_w]
                   rfl
                  refine take_ (i := 7) (N := some 64) (v := ?_) (a' := ?_) #[true, true, true, true, true, true, true, true, false, false, false, false] rfl rfl (take_ofW HT_.out HW_.out (by kernel_rfl)) (fun _ _ _ h => h) (Or.inl ⟨by rfl, ?_⟩) hHeld ?_ ?_
                  rotate_left
                  ·rintro w' ⟨s0, s1, s2, s3, s4, s5, s6, s7, s8⟩
                   go_simp
                   with_reducible rfl
                  rotate_left
                  ·simp only [Act.put, List.setIfInBounds_toArray, List.set_cons_zero, List.set_cons_succ, i64_w, i32_w]
                   rfl
                  refine pure_ (i := 8) (N := some 65) (v := ?_) (a' := ?_) #[true, true, true, true, true, true, true, true, true, false, false, false] rfl rfl (any_of HT_.out (by kernel_rfl)) (fun _ _ _ h => h) (Or.inl ⟨by rfl, ?_⟩) ?_ ?_
                  rotate_left
                  ·intro w'
                   go_simp
                   with_reducible rfl
                  rotate_left
                  ·simp only [Act.put, List.setIfInBounds_toArray, List.set_cons_zero, List.set_cons_succ, i64_w, i32_w]
                   rfl
                  refine take_ (i := 9) (N := some 66) (v := ?_) (a' := ?_) #[true, true, true, true, true, true, true, true, true, true, false, false] rfl rfl (take_ofW HT_.out HW_.out (by kernel_rfl)) (fun _ _ _ h => h) (Or.inl ⟨by rfl, ?_⟩) hHeld ?_ ?_
                  rotate_left
                  ·rintro w' ⟨s0, s1, s2, s3, s4, s5, s6, s7, s8⟩
                   go_simp
                   with_reducible rfl
                  rotate_left
                  ·simp only [Act.put, List.setIfInBounds_toArray, List.set_cons_zero, List.set_cons_succ, i64_w, i32_w]
                   rfl
                  refine one_ (i := 10) (N := some 67) #[true, true, true, true, true, true, true, true, true, true, true, false] rfl rfl (one_of HT_.out (by kernel_rfl)) (by decide) (fun K hK => ?_)
                  refine goes_ Try.func60 (by kernel_rfl) rfl #[.agg #[.int .u64 ((rd_T28 x11_2 ((rd_T149 l1 x38_2).f1)).f0), .int .u64 ((rd_T28 x11_2 ((rd_T149 l1 x38_2).f1)).f1)], .agg #[.int .u64 ((rd_T28 x11_2 ((rd_T149 l1 x38_2).f2)).f0), .int .u64 ((rd_T28 x11_2 ((rd_T149 l1 x38_2).f2)).f1)]] (by rfl) rfl rfl (by (try simp only [List.map_toArray, List.map_cons, List.map_nil]); first | done | rfl | (simp only [List.length_drop, List.length_take]; rfl)) ?_
                  with_reducible refine (tower_Add.calls ((rd_T28 x11_2 ((rd_T149 l1 x38_2).f1)).f0) ((rd_T28 x11_2 ((rd_T149 l1 x38_2).f1)).f1) ((rd_T28 x11_2 ((rd_T149 l1 x38_2).f2)).f0) ((rd_T28 x11_2 ((rd_T149 l1 x38_2).f2)).f1) t376 t377 _ A54.out).mono ?_
                  rintro e w64 ⟨rfl, hb⟩
                  have HS5_ := (hb.cell (World.block_lt_of_cell? _ _ (hHeld.2.2.2.2.2.1))).trans (hHeld.2.2.2.2.2.1)
                  have HS6_ := (hb.cell (World.block_lt_of_cell? _ _ (hHeld.2.2.2.2.2.2.1))).trans (hHeld.2.2.2.2.2.2.1)
                  have HS7_ := (hb.cell (World.block_lt_of_cell? _ _ (hHeld.2.2.2.2.2.2.2.1))).trans (hHeld.2.2.2.2.2.2.2.1)
                  have HS8_ := (hb.cell (World.block_lt_of_cell? _ _ (hHeld.2.2.2.2.2.2.2.2))).trans (hHeld.2.2.2.2.2.2.2.2)
                  refine ⟨_, rfl, ?_⟩
                  have n0_ := Aside0.mk (Kd.R_below (by exact rF HO_11.out) hb)
                  have n1_ := Aside0.mk (blk_below (g := gb358) (o := .cells #[.int .u64 x359000_1, .int .u64 x359001_1] 28 (0, 0)) (by exact bF BK358.out) hb)
                  have n2_ := Aside0.mk (blk_below (g := gb365) (o := .cells #[.int .i64 ((rd_T149 l1 x38_2).f0), .int .i64 ((rd_T149 l1 x38_2).f1), .int .i64 ((rd_T149 l1 x38_2).f2), .int .u64 ((rd_T149 l1 x38_2).f3.f0), .int .u64 ((rd_T149 l1 x38_2).f3.f1)] 149 (0, 0)) (by exact bF BK365.out) hb)
                  have n3_ := Aside0.mk (blk_below (g := gb366) (o := .cells #[.int .u64 0, .int .u64 0] 28 (0, 0)) (by exact bF BK366.out) hb)
                  have n4_ := Aside0.mk (below_step (by repeat (first | (with_reducible first | exact HB.out | apply bA | apply bN | apply bD | refine bS ?_ GE358.out | refine bS ?_ GE365.out | refine bS ?_ GE366.out) | exact HB.out)) hb)
                  clear HO_11
                  clear BK358
                  clear BK365
                  clear BK366
                  clear HB
                  have HO_11 := n0_
                  have BK358 := n1_
                  have BK365 := n2_
                  have BK366 := n3_
                  have HB := n4_
                  clear n0_ n1_ n2_ n3_ n4_
                  (try clear hb)
                  (try clear hb2)
                  (try clear hk)
                  (try clear hi)
                  refine hK.out _ _ ⟨(blk_cell BK365.out 0).trans rfl, (blk_cell BK365.out 1).trans rfl, (blk_cell BK365.out 2).trans rfl, (blk_cell BK365.out 3).trans rfl, (blk_cell BK365.out 4).trans rfl, HS5_, HS6_, HS7_, HS8_⟩ (fun hHeld => ?_)
                  clear hK K
                  refine norm_ (a' := ?_) ?_ ?_
                  rotate_left
                  ·show Act.put _ (some 67) _ = _
                   simp only [Act.put, List.setIfInBounds_toArray, List.set_cons_zero, List.set_cons_succ, i64_w, i32_w]
                   rfl
                  refine one_ (i := 11) (N := none) #[true, true, true, true, true, true, true, true, true, true, true, true] rfl rfl (one_of HT_.out (by kernel_rfl)) (by decide) (fun K hK => ?_)
                  have hs65 : w64.cell? ⟨gb366, 0, none⟩ = some (.int .u64 0) := (blk_cell BK366.out 0).trans rfl
                  have hfs65 := blk_frozen BK366.out 0
                  have hns65_0 := NB358_366.out
                  have hns65_1 := NB365_366.out
                  have hms65_0 := NB366_358.out
                  have hms65_1 := NB366_365.out
                  have hs66 : w64.cell? ⟨gb366, 1, none⟩ = some (.int .u64 0) := (blk_cell BK366.out 1).trans rfl
                  have hfs66 := blk_frozen BK366.out 1
                  have hns66_0 := NB358_366.out
                  have hns66_1 := NB365_366.out
                  have hms66_0 := NB366_358.out
                  have hms66_1 := NB366_365.out
                  refine skip_ (w1 := ?_) (by rfl) rfl ?_ ?_
                  rotate_left
                  ·go_simp
                   rfl
                  refine hK.out _ _ ⟨((cell_far (p := ⟨gb366, _, none⟩) NB365_366.out _).trans (((cell_far (p := ⟨gb366, _, none⟩) NB365_366.out _).trans (hHeld.1)))), ((cell_far (p := ⟨gb366, _, none⟩) NB365_366.out _).trans (((cell_far (p := ⟨gb366, _, none⟩) NB365_366.out _).trans (hHeld.2.1)))), ((cell_far (p := ⟨gb366, _, none⟩) NB365_366.out _).trans (((cell_far (p := ⟨gb366, _, none⟩) NB365_366.out _).trans (hHeld.2.2.1)))), ((cell_far (p := ⟨gb366, _, none⟩) NB365_366.out _).trans (((cell_far (p := ⟨gb366, _, none⟩) NB365_366.out _).trans (hHeld.2.2.2.1)))), ((cell_far (p := ⟨gb366, _, none⟩) NB365_366.out _).trans (((cell_far (p := ⟨gb366, _, none⟩) NB365_366.out _).trans (hHeld.2.2.2.2.1)))), ((cell_far (p := ⟨gb366, _, none⟩) (by first | exact Kd.own_blk (Kd.R_away HO_11.out (fun _ hk => hk.2)) | (rw [add_block]; exact Kd.own_blk (Kd.R_away HO_11.out (fun _ hk => hk.2))) | (show (Addr.add _ _).block ≠ _; rw [add_block]; exact Kd.own_blk (Kd.R_away HO_11.out (fun _ hk => hk.2))) | (dsimp only; exact Kd.own_blk (Kd.R_away HO_11.out (fun _ hk => hk.2)))) _).trans (((cell_far (p := ⟨gb366, _, none⟩) (by first | exact Kd.own_blk (Kd.R_away HO_11.out (fun _ hk => hk.2)) | (rw [add_block]; exact Kd.own_blk (Kd.R_away HO_11.out (fun _ hk => hk.2))) | (show (Addr.add _ _).block ≠ _; rw [add_block]; exact Kd.own_blk (Kd.R_away HO_11.out (fun _ hk => hk.2))) | (dsimp only; exact Kd.own_blk (Kd.R_away HO_11.out (fun _ hk => hk.2)))) _).trans (hHeld.2.2.2.2.2.1)))), ((cell_far (p := ⟨gb366, _, none⟩) (by first | exact Kd.own_blk (Kd.R_away HO_11.out (fun _ hk => hk.2)) | (rw [add_block]; exact Kd.own_blk (Kd.R_away HO_11.out (fun _ hk => hk.2))) | (show (Addr.add _ _).block ≠ _; rw [add_block]; exact Kd.own_blk (Kd.R_away HO_11.out (fun _ hk => hk.2))) | (dsimp only; exact Kd.own_blk (Kd.R_away HO_11.out (fun _ hk => hk.2)))) _).trans (((cell_far (p := ⟨gb366, _, none⟩) (by first | exact Kd.own_blk (Kd.R_away HO_11.out (fun _ hk => hk.2)) | (rw [add_block]; exact Kd.own_blk (Kd.R_away HO_11.out (fun _ hk => hk.2))) | (show (Addr.add _ _).block ≠ _; rw [add_block]; exact Kd.own_blk (Kd.R_away HO_11.out (fun _ hk => hk.2))) | (dsimp only; exact Kd.own_blk (Kd.R_away HO_11.out (fun _ hk => hk.2)))) _).trans (hHeld.2.2.2.2.2.2.1)))), ((cell_far (p := ⟨gb366, _, none⟩) (by first | exact Kd.own_blk (Kd.R_away HO_11.out (fun _ hk => hk.2)) | (rw [add_block]; exact Kd.own_blk (Kd.R_away HO_11.out (fun _ hk => hk.2))) | (show (Addr.add _ _).block ≠ _; rw [add_block]; exact Kd.own_blk (Kd.R_away HO_11.out (fun _ hk => hk.2))) | (dsimp only; exact Kd.own_blk (Kd.R_away HO_11.out (fun _ hk => hk.2)))) _).trans (((cell_far (p := ⟨gb366, _, none⟩) (by first | exact Kd.own_blk (Kd.R_away HO_11.out (fun _ hk => hk.2)) | (rw [add_block]; exact Kd.own_blk (Kd.R_away HO_11.out (fun _ hk => hk.2))) | (show (Addr.add _ _).block ≠ _; rw [add_block]; exact Kd.own_blk (Kd.R_away HO_11.out (fun _ hk => hk.2))) | (dsimp only; exact Kd.own_blk (Kd.R_away HO_11.out (fun _ hk => hk.2)))) _).trans (hHeld.2.2.2.2.2.2.2.1)))), ((cell_far (p := ⟨gb366, _, none⟩) (by first | exact Kd.own_blk (Kd.R_away HO_11.out (fun _ hk => hk.2)) | (rw [add_block]; exact Kd.own_blk (Kd.R_away HO_11.out (fun _ hk => hk.2))) | (show (Addr.add _ _).block ≠ _; rw [add_block]; exact Kd.own_blk (Kd.R_away HO_11.out (fun _ hk => hk.2))) | (dsimp only; exact Kd.own_blk (Kd.R_away HO_11.out (fun _ hk => hk.2)))) _).trans (((cell_far (p := ⟨gb366, _, none⟩) (by first | exact Kd.own_blk (Kd.R_away HO_11.out (fun _ hk => hk.2)) | (rw [add_block]; exact Kd.own_blk (Kd.R_away HO_11.out (fun _ hk => hk.2))) | (show (Addr.add _ _).block ≠ _; rw [add_block]; exact Kd.own_blk (Kd.R_away HO_11.out (fun _ hk => hk.2))) | (dsimp only; exact Kd.own_blk (Kd.R_away HO_11.out (fun _ hk => hk.2)))) _).trans (hHeld.2.2.2.2.2.2.2.2))))⟩ (fun hHeld => ?_)
                  clear hK K
                  refine done_ (done_of HT_.out (by kernel_rfl)) ?_
                  have hnb67 := NB366_358.out
                  have hnc67 := NB358_366.out
                  have hcz68_0 : w64.cell? ⟨gb366, 0, none⟩ = some (.int .u64 0) := (blk_cell BK366.out 0).trans rfl
                  have hcz68_1 : w64.cell? ⟨gb366, 1, none⟩ = some (.int .u64 0) := (blk_cell BK366.out 1).trans rfl
                  have hfz68_0 := blk_frozen BK366.out 0
                  have hfz68_1 := blk_frozen BK366.out 1
                  try go_wp2_with (first | ((with_reducible refine gate_builtin (b := .append) (xs := #[.tmp 82, .tmp 84]) rfl ?_); at_builtin; refine Kd.R_append k28 (w0 := w) w.heap.size rfl (.tmp 82) (.tmp 84) 53 28 (.agg #[(.int .u64 0), (.int .u64 0)]) 16 rfl Try.underlying53 info28 rfl (by decide) (by omega) (.slice (some ad374) x11_2.length co63) x11_2 (⟨t376, t377⟩ : S28) [.int .u64 t376, .int .u64 t377] (fun k_ => k_ ≠ gb358 ∧ k_ ≠ gb366) (fun _ => False) rfl (by first | (go_simp; done) | (go_simp; rfl)) ?aP (fun _ hk => hk.elim) ?aF ?aO ?aB ?aS ?aL ?_; (case aP => exact k28_mkM _ _ _ (⟨t376, t377⟩ : S28)); (case aB => exact (by repeat (first | (with_reducible first | exact HB.out | apply bA | apply bN | apply bD | refine bS ?_ GE358.out | refine bS ?_ GE365.out | refine bS ?_ GE366.out) | exact HB.out))); (case aF => exact (fun k_ hk => ⟨Kd.freshB (g := gb358) (o := .cells #[.int .u64 x359000_1, .int .u64 x359001_1] 28 (0, 0)) (by (with_reducible repeat (first | refine blk_drewN ?_ _ | refine blk_drew ?_ | refine blk_alloc ?_ _)); refine blk_far ?_ NB358_366.out _; (with_reducible repeat (first | refine blk_drewN ?_ _ | refine blk_drew ?_ | refine blk_alloc ?_ _)); refine blk_far ?_ NB358_366.out _; exact bF BK358.out) k_ hk, Kd.freshB (g := gb366) (o := .cells #[.int .u64 t376, .int .u64 t377] 28 (0, 0)) (by (with_reducible repeat (first | refine blk_drewN ?_ _ | refine blk_drew ?_ | refine blk_alloc ?_ _)); refine blk_put (cs := #[.int .u64 t376, .int .u64 0]) ?_ 1 _ rfl; (with_reducible repeat (first | refine blk_drewN ?_ _ | refine blk_drew ?_ | refine blk_alloc ?_ _)); refine blk_put (cs := #[.int .u64 0, .int .u64 0]) ?_ 0 _ rfl; exact bF BK366.out) k_ hk⟩)); (case aO => exact (by (with_reducible repeat (first | apply Kd.R_alloc | apply Kd.R_drewN | apply Kd.R_drew)); exact Kd.R_mono (Kd.R_far (p := ⟨gb366, 1, none⟩) (Kd.R_far (p := ⟨gb366, 0, none⟩) (Kd.R_mono HO_11.out (fun k_ hk => (⟨hk, hk.2⟩ : _ ∧ k_ ≠ gb366))) (fun _ hk => hk.2) (.int .u64 t376)) (fun _ hk => hk.2) (.int .u64 t377)) (fun _ hk => ⟨hk.1.1, hk.1.2⟩))); (case aS => exact (below_size (by repeat (first | (with_reducible first | exact HB.out | apply bA | apply bN | apply bD | refine bS ?_ GE358.out | refine bS ?_ GE365.out | refine bS ?_ GE366.out) | exact HB.out)))); (case aL => have := LMc55.out; omega); intro v379 w69 ho hb hg hat; rw [← Ny378.out] at ho; have n0_ := Aside0.mk (blk_grown (g := gb358) (o := .cells #[.int .u64 x359000_1, .int .u64 x359001_1] 28 (0, 0)) (by (with_reducible repeat (first | refine blk_drewN ?_ _ | refine blk_drew ?_ | refine blk_alloc ?_ _)); refine blk_far ?_ NB358_366.out _; (with_reducible repeat (first | refine blk_drewN ?_ _ | refine blk_drew ?_ | refine blk_alloc ?_ _)); refine blk_far ?_ NB358_366.out _; exact bF BK358.out) hg (Kd.R_away HO_11.out (fun _ hk => hk.1))); have n1_ := Aside0.mk (blk_grown (g := gb365) (o := .cells #[.int .i64 ((rd_T149 l1 x38_2).f0), .int .i64 ((rd_T149 l1 x38_2).f1), .int .i64 ((rd_T149 l1 x38_2).f2), .int .u64 ((rd_T149 l1 x38_2).f3.f0), .int .u64 ((rd_T149 l1 x38_2).f3.f1)] 149 (0, 0)) (by (with_reducible repeat (first | refine blk_drewN ?_ _ | refine blk_drew ?_ | refine blk_alloc ?_ _)); refine blk_far ?_ NB365_366.out _; (with_reducible repeat (first | refine blk_drewN ?_ _ | refine blk_drew ?_ | refine blk_alloc ?_ _)); refine blk_far ?_ NB365_366.out _; exact bF BK365.out) hg (Kd.R_ne HO_11.out BK365.out (by decide))); have n2_ := Aside0.mk (blk_grown (g := gb366) (o := .cells #[.int .u64 t376, .int .u64 t377] 28 (0, 0)) (by (with_reducible repeat (first | refine blk_drewN ?_ _ | refine blk_drew ?_ | refine blk_alloc ?_ _)); refine blk_put (cs := #[.int .u64 t376, .int .u64 0]) ?_ 1 _ rfl; (with_reducible repeat (first | refine blk_drewN ?_ _ | refine blk_drew ?_ | refine blk_alloc ?_ _)); refine blk_put (cs := #[.int .u64 0, .int .u64 0]) ?_ 0 _ rfl; exact bF BK366.out) hg (Kd.R_away HO_11.out (fun _ hk => hk.2))); have n3_ := Aside0.mk (hb); have n4_ := Aside0.mk (ho); clear BK358; clear BK365; clear BK366; clear HB; clear HO_11; have BK358 := n0_; have BK365 := n1_; have BK366 := n2_; have HB := n3_; have HO380 := n4_; clear n0_ n1_ n2_ n3_ n4_; clear ho hb hg hat))
                  go_roundg k2
                  case measure => have := HK1.out; have := HK2.out; omega
                  case rel => exact ⟨(y378), (wrap64 (x38_2 + 1)), (by first | rfl | (simp; done) | (simp [*]; done)), H', ⟨by have := HK1.out; have := HK2.out; omega⟩, ⟨by (with_reducible repeat (first | apply Kd.R_alloc | apply Kd.R_drewN | apply Kd.R_drew)); exact Kd.R_mono HO380.out (fun _ hk => hk.1)⟩, ⟨by exact bF BK358.out⟩, ⟨by repeat (first | (with_reducible first | exact HB.out | apply bA | apply bN | apply bD | refine bS ?_ GE358.out | refine bS ?_ GE365.out | refine bS ?_ GE366.out) | exact HB.out)⟩⟩
                 ·rw [if_neg c55] at H
                  exact absurd H (by simp)
                ·rw [if_neg c53] at H
                 exact absurd H (by simp)
               ·rw [if_neg c52] at H
                exact absurd H (by simp)
              ·rw [if_neg c51] at H
               exact absurd H (by simp)
             ·rw [if_neg c50] at H
              exact absurd H (by simp)
            ·rw [if_neg c49] at H
             have c49b0 : (((rd_T149 l1 x38_2).f0) == 3) = false := beq_eq_false_iff_ne.mpr c49
             have c49b1 : (((rd_T149 l1 x38_2).f0) != 3) = true := bne_iff_ne.mpr c49
             by_cases c70 : ((rd_T149 l1 x38_2).f0) = 4
             ·rw [if_pos c70] at H
              have c70b0 : (((rd_T149 l1 x38_2).f0) == 4) = true := beq_iff_eq.mpr c70
              have c70b1 : (((rd_T149 l1 x38_2).f0) != 4) = false := bne_eq_false_iff_eq.mpr c70
              clear c70
              by_cases c71 : 0 ≤ ((rd_T149 l1 x38_2).f1)
              ·rw [if_pos c71] at H
               have c71b0 : decide (0 ≤ ((rd_T149 l1 x38_2).f1)) = true := decide_eq_true c71
               clear c71
               by_cases c72 : ((rd_T149 l1 x38_2).f1) < (x11_2.length : Int)
               ·rw [if_pos c72] at H
                have c72b0 : decide (((rd_T149 l1 x38_2).f1) < (x11_2.length : Int)) = true := decide_eq_true c72
                clear c72
                by_cases c73 : 0 ≤ ((rd_T149 l1 x38_2).f2)
                ·rw [if_pos c73] at H
                 have c73b0 : decide (0 ≤ ((rd_T149 l1 x38_2).f2)) = true := decide_eq_true c73
                 clear c73
                 by_cases c74 : ((rd_T149 l1 x38_2).f2) < (x11_2.length : Int)
                 ·rw [if_pos c74] at H
                  have c74b0 : decide (((rd_T149 l1 x38_2).f2) < (x11_2.length : Int)) = true := decide_eq_true c74
                  clear c74
                  replace H := Option.bind_eq_some_iff.mp H
                  obtain ⟨⟨t383, t384⟩, A750, H⟩ := H
                  replace H : (if x11_2.length < 8796093022208 then (expr_Eval.l1 k2 a0 l2 (x11_2 ++ [(⟨t383, t384⟩ : S28)]) l1 (l1.length : Int) (wrap64 (x38_2 + 1))) else (none)) = some (r1, r2, r3) := H
                  have A75 := Aside0.mk A750
                  clear A750
                  by_cases c76 : x11_2.length < 8796093022208
                  ·rw [if_pos c76] at H
                   have LMc76 := Aside0.mk c76
                   clear c76
                   obtain ⟨y385, hy385⟩ : ∃ y_ : List (S28), y_ = (x11_2 ++ [(⟨t383, t384⟩ : S28)]) := ⟨_, rfl⟩
                   replace H : (expr_Eval.l1 k2 a0 l2 y385 l1 (l1.length : Int) (wrap64 (x38_2 + 1))) = some (r1, r2, r3) := by first | (rw [hy385]; with_reducible exact H) | (have H2_ := (Option.bind_some _ _).symm.trans H; rw [hy385]; with_reducible exact H2_) | (have H2_ := (Option.bind_some _ _).symm.trans H; with_reducible exact H2_) | with_reducible exact H | (rw [hy385]; exact H) | exact H
                   have Ny385 := Aside0.mk hy385
                   clear hy385
                   have H' := Aside0.mk H
                   clear H
                   have p364 : 0 ≤ (x38_2 : Int) := of_decide_eq_true (by first | (with_reducible assumption) | assumption)
                   have q364 : x38_2 < (l1.length : Int) := of_decide_eq_true (by first | (with_reducible assumption) | assumption)
                   obtain ⟨ad364, e364, hx364_0, hx364_1, hx364_2, hx364_3, hx364_4⟩ := at_T149 HR1.out x38_2 p364 q364
                   cases e364
                   replace hx364_0 := (HB.out.cell (World.block_lt_of_cell? w _ hx364_0)).trans hx364_0
                   replace hx364_1 := (HB.out.cell (World.block_lt_of_cell? w _ hx364_1)).trans hx364_1
                   replace hx364_2 := (HB.out.cell (World.block_lt_of_cell? w _ hx364_2)).trans hx364_2
                   replace hx364_3 := (HB.out.cell (World.block_lt_of_cell? w _ hx364_3)).trans hx364_3
                   replace hx364_4 := (HB.out.cell (World.block_lt_of_cell? w _ hx364_4)).trans hx364_4
                   replace p364 := eq_true p364
                   replace q364 := eq_true q364
                   try go_wp2_with (first | ((with_reducible refine gate_dst (N := 13) rfl ?_); refine box_event ?hg (N := 13) ?hd (cs := #[.int .i64 0, .int .i64 0, .int .i64 0, .int .u64 0, .int .u64 0]) (t := 149) ?hr ?_; (case hd => rfl); (case hg => rfl); (case hr => first | (go_simp; done) | (go_simp; rfl)); intro gb365 hg w77 hbox hb; have n0_ := Aside0.mk (Kd.R_below (by exact rF HO_11.out) hb); have n1_ := Aside0.mk (blk_below (g := gb358) (o := .cells #[.int .u64 x359000_1, .int .u64 x359001_1] 28 (0, 0)) (by exact bF BK358.out) hb); have n2_ := Aside0.mk (below_step (by repeat (first | (with_reducible first | exact HB.out | apply bA | apply bN | apply bD | refine bS ?_ GE358.out) | exact HB.out)) hb); have n3_ := Aside0.mk (hbox); have n4_ := Aside0.mk ((by rw [hg]; exact (below_size (by repeat (first | (with_reducible first | exact HB.out | apply bA | apply bN | apply bD | refine bS ?_ GE358.out) | exact HB.out))) : w.heap.size ≤ gb365)); have n5_ := Aside0.mk ((by rw [hg]; exact (below_size (by repeat (first | (with_reducible first | exact HB.out | apply bA | apply bN | apply bD | refine bS ?_ GE358.out) | exact HB.out))) : w.heap.size ≤ gb365)); have n6_ := Aside0.mk ((by rw [hg]; exact Nat.ne_of_lt (blk_lt (g := gb358) (o := .cells #[.int .u64 x359000_1, .int .u64 x359001_1] 28 (0, 0)) (by exact bF BK358.out)) : gb358 ≠ gb365)); have n7_ := Aside0.mk ((by rw [hg]; exact Nat.ne_of_gt (blk_lt (g := gb358) (o := .cells #[.int .u64 x359000_1, .int .u64 x359001_1] 28 (0, 0)) (by exact bF BK358.out)) : gb365 ≠ gb358)); clear HO_11; clear BK358; clear HB; have HO_11 := n0_; have BK358 := n1_; have HB := n2_; have BK365 := n3_; have GW365 := n4_; have GE365 := n5_; have NB358_365 := n6_; have NB365_358 := n7_; clear n0_ n1_ n2_ n3_ n4_ n5_ n6_ n7_; clear hb hbox hg; have hnb78 := NB365_358.out; have hnc78 := NB358_365.out; have hcz79_0 : w77.cell? ⟨gb365, 0, none⟩ = some (.int .i64 0) := (blk_cell BK365.out 0).trans rfl; have hcz79_1 : w77.cell? ⟨gb365, 1, none⟩ = some (.int .i64 0) := (blk_cell BK365.out 1).trans rfl; have hcz79_2 : w77.cell? ⟨gb365, 2, none⟩ = some (.int .i64 0) := (blk_cell BK365.out 2).trans rfl; have hcz79_3 : w77.cell? ⟨gb365, 3, none⟩ = some (.int .u64 0) := (blk_cell BK365.out 3).trans rfl; have hcz79_4 : w77.cell? ⟨gb365, 4, none⟩ = some (.int .u64 0) := (blk_cell BK365.out 4).trans rfl; have hfz79_0 := blk_frozen BK365.out 0; have hfz79_1 := blk_frozen BK365.out 1; have hfz79_2 := blk_frozen BK365.out 2; have hfz79_3 := blk_frozen BK365.out 3; have hfz79_4 := blk_frozen BK365.out 4) | ((with_reducible refine gate_dst (N := 14) rfl ?_); refine box_event ?hg (N := 14) ?hd (cs := #[.int .u64 0, .int .u64 0]) (t := 28) ?hr ?_; (case hd => rfl); (case hg => rfl); (case hr => first | (go_simp; done) | (go_simp; rfl)); intro gb366 hg w80 hbox hb; have n0_ := Aside0.mk (Kd.R_below (Kd.R_elderB (by (with_reducible repeat (first | apply Kd.R_alloc | apply Kd.R_drewN | apply Kd.R_drew)); exact (Kd.R_mono (Kd.R_far (p := ⟨gb365, 4, none⟩) (Kd.R_far (p := ⟨gb365, 3, none⟩) (Kd.R_far (p := ⟨gb365, 2, none⟩) (Kd.R_far (p := ⟨gb365, 1, none⟩) (Kd.R_far (p := ⟨gb365, 0, none⟩) (Kd.R_types HO_11.out BK365.out (by decide)) (fun _ hk => hk.2) (.int .i64 ((rd_T149 l1 x38_2).f0))) (fun _ hk => hk.2) (.int .i64 ((rd_T149 l1 x38_2).f1))) (fun _ hk => hk.2) (.int .i64 ((rd_T149 l1 x38_2).f2))) (fun _ hk => hk.2) (.int .u64 ((rd_T149 l1 x38_2).f3.f0))) (fun _ hk => hk.2) (.int .u64 ((rd_T149 l1 x38_2).f3.f1))) (fun _ h_ => h_.1))) gb366 (Nat.le_of_eq hg.symm)) hb); have n1_ := Aside0.mk (blk_below (g := gb358) (o := .cells #[.int .u64 x359000_1, .int .u64 x359001_1] 28 (0, 0)) (by (with_reducible repeat (first | refine blk_drewN ?_ _ | refine blk_drew ?_ | refine blk_alloc ?_ _)); refine blk_far ?_ NB358_365.out _; (with_reducible repeat (first | refine blk_drewN ?_ _ | refine blk_drew ?_ | refine blk_alloc ?_ _)); refine blk_far ?_ NB358_365.out _; (with_reducible repeat (first | refine blk_drewN ?_ _ | refine blk_drew ?_ | refine blk_alloc ?_ _)); refine blk_far ?_ NB358_365.out _; (with_reducible repeat (first | refine blk_drewN ?_ _ | refine blk_drew ?_ | refine blk_alloc ?_ _)); refine blk_far ?_ NB358_365.out _; (with_reducible repeat (first | refine blk_drewN ?_ _ | refine blk_drew ?_ | refine blk_alloc ?_ _)); refine blk_far ?_ NB358_365.out _; exact bF BK358.out) hb); have n2_ := Aside0.mk (blk_below (g := gb365) (o := .cells #[.int .i64 ((rd_T149 l1 x38_2).f0), .int .i64 ((rd_T149 l1 x38_2).f1), .int .i64 ((rd_T149 l1 x38_2).f2), .int .u64 ((rd_T149 l1 x38_2).f3.f0), .int .u64 ((rd_T149 l1 x38_2).f3.f1)] 149 (0, 0)) (by (with_reducible repeat (first | refine blk_drewN ?_ _ | refine blk_drew ?_ | refine blk_alloc ?_ _)); refine blk_put (cs := #[.int .i64 ((rd_T149 l1 x38_2).f0), .int .i64 ((rd_T149 l1 x38_2).f1), .int .i64 ((rd_T149 l1 x38_2).f2), .int .u64 ((rd_T149 l1 x38_2).f3.f0), .int .u64 0]) ?_ 4 _ rfl; (with_reducible repeat (first | refine blk_drewN ?_ _ | refine blk_drew ?_ | refine blk_alloc ?_ _)); refine blk_put (cs := #[.int .i64 ((rd_T149 l1 x38_2).f0), .int .i64 ((rd_T149 l1 x38_2).f1), .int .i64 ((rd_T149 l1 x38_2).f2), .int .u64 0, .int .u64 0]) ?_ 3 _ rfl; (with_reducible repeat (first | refine blk_drewN ?_ _ | refine blk_drew ?_ | refine blk_alloc ?_ _)); refine blk_put (cs := #[.int .i64 ((rd_T149 l1 x38_2).f0), .int .i64 ((rd_T149 l1 x38_2).f1), .int .i64 0, .int .u64 0, .int .u64 0]) ?_ 2 _ rfl; (with_reducible repeat (first | refine blk_drewN ?_ _ | refine blk_drew ?_ | refine blk_alloc ?_ _)); refine blk_put (cs := #[.int .i64 ((rd_T149 l1 x38_2).f0), .int .i64 0, .int .i64 0, .int .u64 0, .int .u64 0]) ?_ 1 _ rfl; (with_reducible repeat (first | refine blk_drewN ?_ _ | refine blk_drew ?_ | refine blk_alloc ?_ _)); refine blk_put (cs := #[.int .i64 0, .int .i64 0, .int .i64 0, .int .u64 0, .int .u64 0]) ?_ 0 _ rfl; exact bF BK365.out) hb); have n3_ := Aside0.mk (below_step (by repeat (first | (with_reducible first | exact HB.out | apply bA | apply bN | apply bD | refine bS ?_ GE358.out | refine bS ?_ GE365.out) | exact HB.out)) hb); have n4_ := Aside0.mk (hbox); have n5_ := Aside0.mk ((by rw [hg]; exact (below_size (by repeat (first | (with_reducible first | exact HB.out | apply bA | apply bN | apply bD | refine bS ?_ GE358.out | refine bS ?_ GE365.out) | exact HB.out))) : w.heap.size ≤ gb366)); have n6_ := Aside0.mk ((by rw [hg]; exact (below_size (by repeat (first | (with_reducible first | exact HB.out | apply bA | apply bN | apply bD | refine bS ?_ GE358.out | refine bS ?_ GE365.out) | exact HB.out))) : w.heap.size ≤ gb366)); have n7_ := Aside0.mk ((by rw [hg]; exact Nat.ne_of_lt (blk_lt (g := gb358) (o := .cells #[.int .u64 x359000_1, .int .u64 x359001_1] 28 (0, 0)) (by (with_reducible repeat (first | refine blk_drewN ?_ _ | refine blk_drew ?_ | refine blk_alloc ?_ _)); refine blk_far ?_ NB358_365.out _; (with_reducible repeat (first | refine blk_drewN ?_ _ | refine blk_drew ?_ | refine blk_alloc ?_ _)); refine blk_far ?_ NB358_365.out _; (with_reducible repeat (first | refine blk_drewN ?_ _ | refine blk_drew ?_ | refine blk_alloc ?_ _)); refine blk_far ?_ NB358_365.out _; (with_reducible repeat (first | refine blk_drewN ?_ _ | refine blk_drew ?_ | refine blk_alloc ?_ _)); refine blk_far ?_ NB358_365.out _; (with_reducible repeat (first | refine blk_drewN ?_ _ | refine blk_drew ?_ | refine blk_alloc ?_ _)); refine blk_far ?_ NB358_365.out _; exact bF BK358.out)) : gb358 ≠ gb366)); have n8_ := Aside0.mk ((by rw [hg]; exact Nat.ne_of_gt (blk_lt (g := gb358) (o := .cells #[.int .u64 x359000_1, .int .u64 x359001_1] 28 (0, 0)) (by (with_reducible repeat (first | refine blk_drewN ?_ _ | refine blk_drew ?_ | refine blk_alloc ?_ _)); refine blk_far ?_ NB358_365.out _; (with_reducible repeat (first | refine blk_drewN ?_ _ | refine blk_drew ?_ | refine blk_alloc ?_ _)); refine blk_far ?_ NB358_365.out _; (with_reducible repeat (first | refine blk_drewN ?_ _ | refine blk_drew ?_ | refine blk_alloc ?_ _)); refine blk_far ?_ NB358_365.out _; (with_reducible repeat (first | refine blk_drewN ?_ _ | refine blk_drew ?_ | refine blk_alloc ?_ _)); refine blk_far ?_ NB358_365.out _; (with_reducible repeat (first | refine blk_drewN ?_ _ | refine blk_drew ?_ | refine blk_alloc ?_ _)); refine blk_far ?_ NB358_365.out _; exact bF BK358.out)) : gb366 ≠ gb358)); have n9_ := Aside0.mk ((by rw [hg]; exact Nat.ne_of_lt (blk_lt (g := gb365) (o := .cells #[.int .i64 ((rd_T149 l1 x38_2).f0), .int .i64 ((rd_T149 l1 x38_2).f1), .int .i64 ((rd_T149 l1 x38_2).f2), .int .u64 ((rd_T149 l1 x38_2).f3.f0), .int .u64 ((rd_T149 l1 x38_2).f3.f1)] 149 (0, 0)) (by (with_reducible repeat (first | refine blk_drewN ?_ _ | refine blk_drew ?_ | refine blk_alloc ?_ _)); refine blk_put (cs := #[.int .i64 ((rd_T149 l1 x38_2).f0), .int .i64 ((rd_T149 l1 x38_2).f1), .int .i64 ((rd_T149 l1 x38_2).f2), .int .u64 ((rd_T149 l1 x38_2).f3.f0), .int .u64 0]) ?_ 4 _ rfl; (with_reducible repeat (first | refine blk_drewN ?_ _ | refine blk_drew ?_ | refine blk_alloc ?_ _)); refine blk_put (cs := #[.int .i64 ((rd_T149 l1 x38_2).f0), .int .i64 ((rd_T149 l1 x38_2).f1), .int .i64 ((rd_T149 l1 x38_2).f2), .int .u64 0, .int .u64 0]) ?_ 3 _ rfl; (with_reducible repeat (first | refine blk_drewN ?_ _ | refine blk_drew ?_ | refine blk_alloc ?_ _)); refine blk_put (cs := #[.int .i64 ((rd_T149 l1 x38_2).f0), .int .i64 ((rd_T149 l1 x38_2).f1), .int .i64 0, .int .u64 0, .int .u64 0]) ?_ 2 _ rfl; (with_reducible repeat (first | refine blk_drewN ?_ _ | refine blk_drew ?_ | refine blk_alloc ?_ _)); refine blk_put (cs := #[.int .i64 ((rd_T149 l1 x38_2).f0), .int .i64 0, .int .i64 0, .int .u64 0, .int .u64 0]) ?_ 1 _ rfl; (with_reducible repeat (first | refine blk_drewN ?_ _ | refine blk_drew ?_ | refine blk_alloc ?_ _)); refine blk_put (cs := #[.int .i64 0, .int .i64 0, .int .i64 0, .int .u64 0, .int .u64 0]) ?_ 0 _ rfl; exact bF BK365.out)) : gb365 ≠ gb366)); have n10_ := Aside0.mk ((by rw [hg]; exact Nat.ne_of_gt (blk_lt (g := gb365) (o := .cells #[.int .i64 ((rd_T149 l1 x38_2).f0), .int .i64 ((rd_T149 l1 x38_2).f1), .int .i64 ((rd_T149 l1 x38_2).f2), .int .u64 ((rd_T149 l1 x38_2).f3.f0), .int .u64 ((rd_T149 l1 x38_2).f3.f1)] 149 (0, 0)) (by (with_reducible repeat (first | refine blk_drewN ?_ _ | refine blk_drew ?_ | refine blk_alloc ?_ _)); refine blk_put (cs := #[.int .i64 ((rd_T149 l1 x38_2).f0), .int .i64 ((rd_T149 l1 x38_2).f1), .int .i64 ((rd_T149 l1 x38_2).f2), .int .u64 ((rd_T149 l1 x38_2).f3.f0), .int .u64 0]) ?_ 4 _ rfl; (with_reducible repeat (first | refine blk_drewN ?_ _ | refine blk_drew ?_ | refine blk_alloc ?_ _)); refine blk_put (cs := #[.int .i64 ((rd_T149 l1 x38_2).f0), .int .i64 ((rd_T149 l1 x38_2).f1), .int .i64 ((rd_T149 l1 x38_2).f2), .int .u64 0, .int .u64 0]) ?_ 3 _ rfl; (with_reducible repeat (first | refine blk_drewN ?_ _ | refine blk_drew ?_ | refine blk_alloc ?_ _)); refine blk_put (cs := #[.int .i64 ((rd_T149 l1 x38_2).f0), .int .i64 ((rd_T149 l1 x38_2).f1), .int .i64 0, .int .u64 0, .int .u64 0]) ?_ 2 _ rfl; (with_reducible repeat (first | refine blk_drewN ?_ _ | refine blk_drew ?_ | refine blk_alloc ?_ _)); refine blk_put (cs := #[.int .i64 ((rd_T149 l1 x38_2).f0), .int .i64 0, .int .i64 0, .int .u64 0, .int .u64 0]) ?_ 1 _ rfl; (with_reducible repeat (first | refine blk_drewN ?_ _ | refine blk_drew ?_ | refine blk_alloc ?_ _)); refine blk_put (cs := #[.int .i64 0, .int .i64 0, .int .i64 0, .int .u64 0, .int .u64 0]) ?_ 0 _ rfl; exact bF BK365.out)) : gb366 ≠ gb365)); clear HO_11; clear BK358; clear BK365; clear HB; have HO_11 := n0_; have BK358 := n1_; have BK365 := n2_; have HB := n3_; have BK366 := n4_; have GW366 := n5_; have GE366 := n6_; have NB358_366 := n7_; have NB366_358 := n8_; have NB365_366 := n9_; have NB366_365 := n10_; clear n0_ n1_ n2_ n3_ n4_ n5_ n6_ n7_ n8_ n9_ n10_; clear hb hbox hg; have hnb81 := NB365_366.out; have hnc81 := NB366_365.out; have hcz82_0 : w80.cell? ⟨gb365, 0, none⟩ = some (.int .i64 ((rd_T149 l1 x38_2).f0)) := (blk_cell BK365.out 0).trans rfl; have hcz82_1 : w80.cell? ⟨gb365, 1, none⟩ = some (.int .i64 ((rd_T149 l1 x38_2).f1)) := (blk_cell BK365.out 1).trans rfl; have hcz82_2 : w80.cell? ⟨gb365, 2, none⟩ = some (.int .i64 ((rd_T149 l1 x38_2).f2)) := (blk_cell BK365.out 2).trans rfl; have hcz82_3 : w80.cell? ⟨gb365, 3, none⟩ = some (.int .u64 ((rd_T149 l1 x38_2).f3.f0)) := (blk_cell BK365.out 3).trans rfl; have hcz82_4 : w80.cell? ⟨gb365, 4, none⟩ = some (.int .u64 ((rd_T149 l1 x38_2).f3.f1)) := (blk_cell BK365.out 4).trans rfl; have hfz82_0 := blk_frozen BK365.out 0; have hfz82_1 := blk_frozen BK365.out 1; have hfz82_2 := blk_frozen BK365.out 2; have hfz82_3 := blk_frozen BK365.out 3; have hfz82_4 := blk_frozen BK365.out 4))
                   have n0_ := Aside0.mk (Kd.R_drew HO_11.out)
                   have n1_ := Aside0.mk (blk_drew BK358.out)
                   have n2_ := Aside0.mk (blk_drew BK365.out)
                   have n3_ := Aside0.mk (blk_drew BK366.out)
                   have n4_ := Aside0.mk (below_drew1 HB.out)
                   clear HO_11
                   clear BK358
                   clear BK365
                   clear BK366
                   clear HB
                   have HO_11 := n0_
                   have BK358 := n1_
                   have BK365 := n2_
                   have BK366 := n3_
                   have HB := n4_
                   clear n0_ n1_ n2_ n3_ n4_
                   obtain ⟨Ao84, co84, eo84⟩ := Kd.R_slice HO_11.out
                   (first | subst eo84 | (injection eo84 with f1_ f2_ f3_; have f4_ := f1_.symm; have f5_ := f3_.symm; clear f1_ f2_ f3_; subst f4_; subst f5_))
                   have p381 : 0 ≤ (((rd_T149 l1 x38_2).f1) : Int) := of_decide_eq_true (by first | (with_reducible assumption) | assumption)
                   have q381 : ((rd_T149 l1 x38_2).f1) < (x11_2.length : Int) := of_decide_eq_true (by first | (with_reducible assumption) | assumption)
                   obtain ⟨ad381, e381, hx381_0, hx381_1⟩ := at_T28 (Kd.R_reads' HO_11.out).2.2 ((rd_T149 l1 x38_2).f1) p381 q381
                   cases e381
                   replace p381 := eq_true p381
                   replace q381 := eq_true q381
                   have p382 : 0 ≤ (((rd_T149 l1 x38_2).f2) : Int) := of_decide_eq_true (by first | (with_reducible assumption) | assumption)
                   have q382 : ((rd_T149 l1 x38_2).f2) < (x11_2.length : Int) := of_decide_eq_true (by first | (with_reducible assumption) | assumption)
                   obtain ⟨ad382, e382, hx382_0, hx382_1⟩ := at_T28 (Kd.R_reads' HO_11.out).2.2 ((rd_T149 l1 x38_2).f2) p382 q382
                   obtain rfl : ad381 = ad382 := (by injection e382)
                   replace p382 := eq_true p382
                   replace q382 := eq_true q382
                   refine start_ (n := 13) (S := fun w' => w'.cell? ⟨gb365, 0, none⟩ = some (.int .i64 ((rd_T149 l1 x38_2).f0)) ∧ w'.cell? ⟨gb365, 1, none⟩ = some (.int .i64 ((rd_T149 l1 x38_2).f1)) ∧ w'.cell? ⟨gb365, 2, none⟩ = some (.int .i64 ((rd_T149 l1 x38_2).f2)) ∧ w'.cell? ⟨gb365, 3, none⟩ = some (.int .u64 ((rd_T149 l1 x38_2).f3.f0)) ∧ w'.cell? ⟨gb365, 4, none⟩ = some (.int .u64 ((rd_T149 l1 x38_2).f3.f1)) ∧ w'.cell? (ad381.add ((((rd_T149 l1 x38_2).f1)).toNat * 2)) = some (.int .u64 ((rd_T28 x11_2 ((rd_T149 l1 x38_2).f1)).f0)) ∧ w'.cell? ⟨(ad381.add ((((rd_T149 l1 x38_2).f1)).toNat * 2)).block, (ad381.add ((((rd_T149 l1 x38_2).f1)).toNat * 2)).off + 1, none⟩ = some (.int .u64 ((rd_T28 x11_2 ((rd_T149 l1 x38_2).f1)).f1)) ∧ w'.cell? (ad381.add ((((rd_T149 l1 x38_2).f2)).toNat * 2)) = some (.int .u64 ((rd_T28 x11_2 ((rd_T149 l1 x38_2).f2)).f0)) ∧ w'.cell? ⟨(ad381.add ((((rd_T149 l1 x38_2).f2)).toNat * 2)).block, (ad381.add ((((rd_T149 l1 x38_2).f2)).toNat * 2)).off + 1, none⟩ = some (.int .u64 ((rd_T28 x11_2 ((rd_T149 l1 x38_2).f2)).f1))) (ds := []) #[false, false, false, false, false, false, false, false, false, false, false, false, false] (by kernel_rfl) rfl rfl ⟨(blk_cell BK365.out 0).trans rfl, (blk_cell BK365.out 1).trans rfl, (blk_cell BK365.out 2).trans rfl, (blk_cell BK365.out 3).trans rfl, (blk_cell BK365.out 4).trans rfl, hx381_0, hx381_1, hx382_0, hx382_1⟩ (fun hHeld => ?_); refine with_tabW expr_Eval.tab23 expr_Eval.bits23 (fun HT_ HW_ => ?_)
                   generalize w80.drew = w83 at HO_11 BK358 BK365 BK366 HB hx381_0 hx381_1 hx382_0 hx382_1 hHeld ⊢
                   refine pure_ (i := 0) (N := some 70) (v := ?_) (a' := ?_) #[true, false, false, false, false, false, false, false, false, false, false, false, false] rfl rfl (any_of HT_.out (by kernel_rfl)) (fun _ _ _ h => h) (Or.inl ⟨by rfl, ?_⟩) ?_ ?_
                   rotate_left
                   ·intro w'
                    go_simp
                    with_reducible rfl
                   rotate_left
                   ·simp only [Act.put, List.setIfInBounds_toArray, List.set_cons_zero, List.set_cons_succ, i64_w, i32_w]
                    rfl
                   refine pure_ (i := 1) (N := some 71) (v := ?_) (a' := ?_) #[true, true, false, false, false, false, false, false, false, false, false, false, false] rfl rfl (any_of HT_.out (by kernel_rfl)) (fun _ _ _ h => h) (Or.inl ⟨by rfl, ?_⟩) ?_ ?_
                   rotate_left
                   ·intro w'
                    go_simp
                    with_reducible rfl
                   rotate_left
                   ·simp only [Act.put, List.setIfInBounds_toArray, List.set_cons_zero, List.set_cons_succ, i64_w, i32_w]
                    rfl
                   refine pure_ (i := 2) (N := some 72) (v := ?_) (a' := ?_) #[true, true, true, false, false, false, false, false, false, false, false, false, false] rfl rfl (any_of HT_.out (by kernel_rfl)) (fun _ _ _ h => h) (Or.inl ⟨by rfl, ?_⟩) ?_ ?_
                   rotate_left
                   ·intro w'
                    go_simp
                    with_reducible rfl
                   rotate_left
                   ·simp only [Act.put, List.setIfInBounds_toArray, List.set_cons_zero, List.set_cons_succ, i64_w, i32_w]
                    rfl
                   refine pure_ (i := 6) (N := some 76) (v := ?_) (a' := ?_) #[true, true, true, false, false, false, true, false, false, false, false, false, false] rfl rfl (any_of HT_.out (by kernel_rfl)) (fun _ _ _ h => h) (Or.inl ⟨by rfl, ?_⟩) ?_ ?_
                   rotate_left
                   ·intro w'
                    go_simp
                    with_reducible rfl
                   rotate_left
                   ·simp only [Act.put, List.setIfInBounds_toArray, List.set_cons_zero, List.set_cons_succ, i64_w, i32_w]
                    rfl
                   refine pure_ (i := 7) (N := some 77) (v := ?_) (a' := ?_) #[true, true, true, false, false, false, true, true, false, false, false, false, false] rfl rfl (any_of HT_.out (by kernel_rfl)) (fun _ _ _ h => h) (Or.inl ⟨by rfl, ?_⟩) ?_ ?_
                   rotate_left
                   ·intro w'
                    go_simp
                    with_reducible rfl
                   rotate_left
                   ·simp only [Act.put, List.setIfInBounds_toArray, List.set_cons_zero, List.set_cons_succ, i64_w, i32_w]
                    rfl
                   refine take_ (i := 3) (N := some 73) (v := ?_) (a' := ?_) #[true, true, true, true, false, false, true, true, false, false, false, false, false] rfl rfl (take_ofW HT_.out HW_.out (by kernel_rfl)) (fun _ _ _ h => h) (Or.inl ⟨by rfl, ?_⟩) hHeld ?_ ?_
                   rotate_left
                   ·rintro w' ⟨s0, s1, s2, s3, s4, s5, s6, s7, s8⟩
                    go_simp
                    with_reducible rfl
                   rotate_left
                   ·simp only [Act.put, List.setIfInBounds_toArray, List.set_cons_zero, List.set_cons_succ, i64_w, i32_w]
                    rfl
                   refine pure_ (i := 4) (N := some 74) (v := ?_) (a' := ?_) #[true, true, true, true, true, false, true, true, false, false, false, false, false] rfl rfl (any_of HT_.out (by kernel_rfl)) (fun _ _ _ h => h) (Or.inl ⟨by rfl, ?_⟩) ?_ ?_
                   rotate_left
                   ·intro w'
                    go_simp
                    with_reducible rfl
                   rotate_left
                   ·simp only [Act.put, List.setIfInBounds_toArray, List.set_cons_zero, List.set_cons_succ, i64_w, i32_w]
                    rfl
                   refine take_ (i := 5) (N := some 75) (v := ?_) (a' := ?_) #[true, true, true, true, true, true, true, true, false, false, false, false, false] rfl rfl (take_ofW HT_.out HW_.out (by kernel_rfl)) (fun _ _ _ h => h) (Or.inl ⟨by rfl, ?_⟩) hHeld ?_ ?_
                   rotate_left
                   ·rintro w' ⟨s0, s1, s2, s3, s4, s5, s6, s7, s8⟩
                    go_simp
                    with_reducible rfl
                   rotate_left
                   ·simp only [Act.put, List.setIfInBounds_toArray, List.set_cons_zero, List.set_cons_succ, i64_w, i32_w]
                    rfl
                   refine take_ (i := 8) (N := some 78) (v := ?_) (a' := ?_) #[true, true, true, true, true, true, true, true, true, false, false, false, false] rfl rfl (take_ofW HT_.out HW_.out (by kernel_rfl)) (fun _ _ _ h => h) (Or.inl ⟨by rfl, ?_⟩) hHeld ?_ ?_
                   rotate_left
                   ·rintro w' ⟨s0, s1, s2, s3, s4, s5, s6, s7, s8⟩
                    go_simp
                    with_reducible rfl
                   rotate_left
                   ·simp only [Act.put, List.setIfInBounds_toArray, List.set_cons_zero, List.set_cons_succ, i64_w, i32_w]
                    rfl
                   refine pure_ (i := 9) (N := some 79) (v := ?_) (a' := ?_) #[true, true, true, true, true, true, true, true, true, true, false, false, false] rfl rfl (any_of HT_.out (by kernel_rfl)) (fun _ _ _ h => h) (Or.inl ⟨by rfl, ?_⟩) ?_ ?_
                   rotate_left
                   ·intro w'
                    go_simp
                    with_reducible rfl
                   rotate_left
                   ·simp only [Act.put, List.setIfInBounds_toArray, List.set_cons_zero, List.set_cons_succ, i64_w, i32_w]
                    rfl
                   refine take_ (i := 10) (N := some 80) (v := ?_) (a' := ?_) #[true, true, true, true, true, true, true, true, true, true, true, false, false] rfl rfl (take_ofW HT_.out HW_.out (by kernel_rfl)) (fun _ _ _ h => h) (Or.inl ⟨by rfl, ?_⟩) hHeld ?_ ?_
                   rotate_left
                   ·rintro w' ⟨s0, s1, s2, s3, s4, s5, s6, s7, s8⟩
                    go_simp
                    with_reducible rfl
                   rotate_left
                   ·simp only [Act.put, List.setIfInBounds_toArray, List.set_cons_zero, List.set_cons_succ, i64_w, i32_w]
                    rfl
                   refine one_ (i := 11) (N := some 81) #[true, true, true, true, true, true, true, true, true, true, true, true, false] rfl rfl (one_of HT_.out (by kernel_rfl)) (by decide) (fun K hK => ?_)
                   refine goes_ Try.func114 (by kernel_rfl) rfl #[.int .i64 a0, .agg #[.int .u64 ((rd_T28 x11_2 ((rd_T149 l1 x38_2).f1)).f0), .int .u64 ((rd_T28 x11_2 ((rd_T149 l1 x38_2).f1)).f1)], .agg #[.int .u64 ((rd_T28 x11_2 ((rd_T149 l1 x38_2).f2)).f0), .int .u64 ((rd_T28 x11_2 ((rd_T149 l1 x38_2).f2)).f1)]] (by rfl) rfl rfl (by (try simp only [List.map_toArray, List.map_cons, List.map_nil]); first | done | rfl | (simp only [List.length_drop, List.length_take]; rfl)) ?_
                   with_reducible refine (tower_Mul.calls k2 a0 ((rd_T28 x11_2 ((rd_T149 l1 x38_2).f1)).f0) ((rd_T28 x11_2 ((rd_T149 l1 x38_2).f1)).f1) ((rd_T28 x11_2 ((rd_T149 l1 x38_2).f2)).f0) ((rd_T28 x11_2 ((rd_T149 l1 x38_2).f2)).f1) t383 t384 _ A75.out).mono ?_
                   rintro e w85 ⟨rfl, hb⟩
                   have HS5_ := (hb.cell (World.block_lt_of_cell? _ _ (hHeld.2.2.2.2.2.1))).trans (hHeld.2.2.2.2.2.1)
                   have HS6_ := (hb.cell (World.block_lt_of_cell? _ _ (hHeld.2.2.2.2.2.2.1))).trans (hHeld.2.2.2.2.2.2.1)
                   have HS7_ := (hb.cell (World.block_lt_of_cell? _ _ (hHeld.2.2.2.2.2.2.2.1))).trans (hHeld.2.2.2.2.2.2.2.1)
                   have HS8_ := (hb.cell (World.block_lt_of_cell? _ _ (hHeld.2.2.2.2.2.2.2.2))).trans (hHeld.2.2.2.2.2.2.2.2)
                   refine ⟨_, rfl, ?_⟩
                   have n0_ := Aside0.mk (Kd.R_below (by exact rF HO_11.out) hb)
                   have n1_ := Aside0.mk (blk_below (g := gb358) (o := .cells #[.int .u64 x359000_1, .int .u64 x359001_1] 28 (0, 0)) (by exact bF BK358.out) hb)
                   have n2_ := Aside0.mk (blk_below (g := gb365) (o := .cells #[.int .i64 ((rd_T149 l1 x38_2).f0), .int .i64 ((rd_T149 l1 x38_2).f1), .int .i64 ((rd_T149 l1 x38_2).f2), .int .u64 ((rd_T149 l1 x38_2).f3.f0), .int .u64 ((rd_T149 l1 x38_2).f3.f1)] 149 (0, 0)) (by exact bF BK365.out) hb)
                   have n3_ := Aside0.mk (blk_below (g := gb366) (o := .cells #[.int .u64 0, .int .u64 0] 28 (0, 0)) (by exact bF BK366.out) hb)
                   have n4_ := Aside0.mk (below_step (by repeat (first | (with_reducible first | exact HB.out | apply bA | apply bN | apply bD | refine bS ?_ GE358.out | refine bS ?_ GE365.out | refine bS ?_ GE366.out) | exact HB.out)) hb)
                   clear HO_11
                   clear BK358
                   clear BK365
                   clear BK366
                   clear HB
                   have HO_11 := n0_
                   have BK358 := n1_
                   have BK365 := n2_
                   have BK366 := n3_
                   have HB := n4_
                   clear n0_ n1_ n2_ n3_ n4_
                   (try clear hb)
                   (try clear hb2)
                   (try clear hk)
                   (try clear hi)
                   refine hK.out _ _ ⟨(blk_cell BK365.out 0).trans rfl, (blk_cell BK365.out 1).trans rfl, (blk_cell BK365.out 2).trans rfl, (blk_cell BK365.out 3).trans rfl, (blk_cell BK365.out 4).trans rfl, HS5_, HS6_, HS7_, HS8_⟩ (fun hHeld => ?_)
                   clear hK K
                   refine norm_ (a' := ?_) ?_ ?_
                   rotate_left
                   ·show Act.put _ (some 81) _ = _
                    simp only [Act.put, List.setIfInBounds_toArray, List.set_cons_zero, List.set_cons_succ, i64_w, i32_w]
                    rfl
                   refine one_ (i := 12) (N := none) #[true, true, true, true, true, true, true, true, true, true, true, true, true] rfl rfl (one_of HT_.out (by kernel_rfl)) (by decide) (fun K hK => ?_)
                   have hs86 : w85.cell? ⟨gb366, 0, none⟩ = some (.int .u64 0) := (blk_cell BK366.out 0).trans rfl
                   have hfs86 := blk_frozen BK366.out 0
                   have hns86_0 := NB358_366.out
                   have hns86_1 := NB365_366.out
                   have hms86_0 := NB366_358.out
                   have hms86_1 := NB366_365.out
                   have hs87 : w85.cell? ⟨gb366, 1, none⟩ = some (.int .u64 0) := (blk_cell BK366.out 1).trans rfl
                   have hfs87 := blk_frozen BK366.out 1
                   have hns87_0 := NB358_366.out
                   have hns87_1 := NB365_366.out
                   have hms87_0 := NB366_358.out
                   have hms87_1 := NB366_365.out
                   refine skip_ (w1 := ?_) (by rfl) rfl ?_ ?_
                   rotate_left
                   ·go_simp
                    rfl
                   refine hK.out _ _ ⟨((cell_far (p := ⟨gb366, _, none⟩) NB365_366.out _).trans (((cell_far (p := ⟨gb366, _, none⟩) NB365_366.out _).trans (hHeld.1)))), ((cell_far (p := ⟨gb366, _, none⟩) NB365_366.out _).trans (((cell_far (p := ⟨gb366, _, none⟩) NB365_366.out _).trans (hHeld.2.1)))), ((cell_far (p := ⟨gb366, _, none⟩) NB365_366.out _).trans (((cell_far (p := ⟨gb366, _, none⟩) NB365_366.out _).trans (hHeld.2.2.1)))), ((cell_far (p := ⟨gb366, _, none⟩) NB365_366.out _).trans (((cell_far (p := ⟨gb366, _, none⟩) NB365_366.out _).trans (hHeld.2.2.2.1)))), ((cell_far (p := ⟨gb366, _, none⟩) NB365_366.out _).trans (((cell_far (p := ⟨gb366, _, none⟩) NB365_366.out _).trans (hHeld.2.2.2.2.1)))), ((cell_far (p := ⟨gb366, _, none⟩) (by first | exact Kd.own_blk (Kd.R_away HO_11.out (fun _ hk => hk.2)) | (rw [add_block]; exact Kd.own_blk (Kd.R_away HO_11.out (fun _ hk => hk.2))) | (show (Addr.add _ _).block ≠ _; rw [add_block]; exact Kd.own_blk (Kd.R_away HO_11.out (fun _ hk => hk.2))) | (dsimp only; exact Kd.own_blk (Kd.R_away HO_11.out (fun _ hk => hk.2)))) _).trans (((cell_far (p := ⟨gb366, _, none⟩) (by first | exact Kd.own_blk (Kd.R_away HO_11.out (fun _ hk => hk.2)) | (rw [add_block]; exact Kd.own_blk (Kd.R_away HO_11.out (fun _ hk => hk.2))) | (show (Addr.add _ _).block ≠ _; rw [add_block]; exact Kd.own_blk (Kd.R_away HO_11.out (fun _ hk => hk.2))) | (dsimp only; exact Kd.own_blk (Kd.R_away HO_11.out (fun _ hk => hk.2)))) _).trans (hHeld.2.2.2.2.2.1)))), ((cell_far (p := ⟨gb366, _, none⟩) (by first | exact Kd.own_blk (Kd.R_away HO_11.out (fun _ hk => hk.2)) | (rw [add_block]; exact Kd.own_blk (Kd.R_away HO_11.out (fun _ hk => hk.2))) | (show (Addr.add _ _).block ≠ _; rw [add_block]; exact Kd.own_blk (Kd.R_away HO_11.out (fun _ hk => hk.2))) | (dsimp only; exact Kd.own_blk (Kd.R_away HO_11.out (fun _ hk => hk.2)))) _).trans (((cell_far (p := ⟨gb366, _, none⟩) (by first | exact Kd.own_blk (Kd.R_away HO_11.out (fun _ hk => hk.2)) | (rw [add_block]; exact Kd.own_blk (Kd.R_away HO_11.out (fun _ hk => hk.2))) | (show (Addr.add _ _).block ≠ _; rw [add_block]; exact Kd.own_blk (Kd.R_away HO_11.out (fun _ hk => hk.2))) | (dsimp only; exact Kd.own_blk (Kd.R_away HO_11.out (fun _ hk => hk.2)))) _).trans (hHeld.2.2.2.2.2.2.1)))), ((cell_far (p := ⟨gb366, _, none⟩) (by first | exact Kd.own_blk (Kd.R_away HO_11.out (fun _ hk => hk.2)) | (rw [add_block]; exact Kd.own_blk (Kd.R_away HO_11.out (fun _ hk => hk.2))) | (show (Addr.add _ _).block ≠ _; rw [add_block]; exact Kd.own_blk (Kd.R_away HO_11.out (fun _ hk => hk.2))) | (dsimp only; exact Kd.own_blk (Kd.R_away HO_11.out (fun _ hk => hk.2)))) _).trans (((cell_far (p := ⟨gb366, _, none⟩) (by first | exact Kd.own_blk (Kd.R_away HO_11.out (fun _ hk => hk.2)) | (rw [add_block]; exact Kd.own_blk (Kd.R_away HO_11.out (fun _ hk => hk.2))) | (show (Addr.add _ _).block ≠ _; rw [add_block]; exact Kd.own_blk (Kd.R_away HO_11.out (fun _ hk => hk.2))) | (dsimp only; exact Kd.own_blk (Kd.R_away HO_11.out (fun _ hk => hk.2)))) _).trans (hHeld.2.2.2.2.2.2.2.1)))), ((cell_far (p := ⟨gb366, _, none⟩) (by first | exact Kd.own_blk (Kd.R_away HO_11.out (fun _ hk => hk.2)) | (rw [add_block]; exact Kd.own_blk (Kd.R_away HO_11.out (fun _ hk => hk.2))) | (show (Addr.add _ _).block ≠ _; rw [add_block]; exact Kd.own_blk (Kd.R_away HO_11.out (fun _ hk => hk.2))) | (dsimp only; exact Kd.own_blk (Kd.R_away HO_11.out (fun _ hk => hk.2)))) _).trans (((cell_far (p := ⟨gb366, _, none⟩) (by first | exact Kd.own_blk (Kd.R_away HO_11.out (fun _ hk => hk.2)) | (rw [add_block]; exact Kd.own_blk (Kd.R_away HO_11.out (fun _ hk => hk.2))) | (show (Addr.add _ _).block ≠ _; rw [add_block]; exact Kd.own_blk (Kd.R_away HO_11.out (fun _ hk => hk.2))) | (dsimp only; exact Kd.own_blk (Kd.R_away HO_11.out (fun _ hk => hk.2)))) _).trans (hHeld.2.2.2.2.2.2.2.2))))⟩ (fun hHeld => ?_)
                   clear hK K
                   refine done_ (done_of HT_.out (by kernel_rfl)) ?_
                   have hnb88 := NB366_358.out
                   have hnc88 := NB358_366.out
                   have hcz89_0 : w85.cell? ⟨gb366, 0, none⟩ = some (.int .u64 0) := (blk_cell BK366.out 0).trans rfl
                   have hcz89_1 : w85.cell? ⟨gb366, 1, none⟩ = some (.int .u64 0) := (blk_cell BK366.out 1).trans rfl
                   have hfz89_0 := blk_frozen BK366.out 0
                   have hfz89_1 := blk_frozen BK366.out 1
                   try go_wp2_with (first | ((with_reducible refine gate_builtin (b := .append) (xs := #[.tmp 82, .tmp 84]) rfl ?_); at_builtin; refine Kd.R_append k28 (w0 := w) w.heap.size rfl (.tmp 82) (.tmp 84) 53 28 (.agg #[(.int .u64 0), (.int .u64 0)]) 16 rfl Try.underlying53 info28 rfl (by decide) (by omega) (.slice (some ad381) x11_2.length co84) x11_2 (⟨t383, t384⟩ : S28) [.int .u64 t383, .int .u64 t384] (fun k_ => k_ ≠ gb358 ∧ k_ ≠ gb366) (fun _ => False) rfl (by first | (go_simp; done) | (go_simp; rfl)) ?aP (fun _ hk => hk.elim) ?aF ?aO ?aB ?aS ?aL ?_; (case aP => exact k28_mkM _ _ _ (⟨t383, t384⟩ : S28)); (case aB => exact (by repeat (first | (with_reducible first | exact HB.out | apply bA | apply bN | apply bD | refine bS ?_ GE358.out | refine bS ?_ GE365.out | refine bS ?_ GE366.out) | exact HB.out))); (case aF => exact (fun k_ hk => ⟨Kd.freshB (g := gb358) (o := .cells #[.int .u64 x359000_1, .int .u64 x359001_1] 28 (0, 0)) (by (with_reducible repeat (first | refine blk_drewN ?_ _ | refine blk_drew ?_ | refine blk_alloc ?_ _)); refine blk_far ?_ NB358_366.out _; (with_reducible repeat (first | refine blk_drewN ?_ _ | refine blk_drew ?_ | refine blk_alloc ?_ _)); refine blk_far ?_ NB358_366.out _; exact bF BK358.out) k_ hk, Kd.freshB (g := gb366) (o := .cells #[.int .u64 t383, .int .u64 t384] 28 (0, 0)) (by (with_reducible repeat (first | refine blk_drewN ?_ _ | refine blk_drew ?_ | refine blk_alloc ?_ _)); refine blk_put (cs := #[.int .u64 t383, .int .u64 0]) ?_ 1 _ rfl; (with_reducible repeat (first | refine blk_drewN ?_ _ | refine blk_drew ?_ | refine blk_alloc ?_ _)); refine blk_put (cs := #[.int .u64 0, .int .u64 0]) ?_ 0 _ rfl; exact bF BK366.out) k_ hk⟩)); (case aO => exact (by (with_reducible repeat (first | apply Kd.R_alloc | apply Kd.R_drewN | apply Kd.R_drew)); exact Kd.R_mono (Kd.R_far (p := ⟨gb366, 1, none⟩) (Kd.R_far (p := ⟨gb366, 0, none⟩) (Kd.R_mono HO_11.out (fun k_ hk => (⟨hk, hk.2⟩ : _ ∧ k_ ≠ gb366))) (fun _ hk => hk.2) (.int .u64 t383)) (fun _ hk => hk.2) (.int .u64 t384)) (fun _ hk => ⟨hk.1.1, hk.1.2⟩))); (case aS => exact (below_size (by repeat (first | (with_reducible first | exact HB.out | apply bA | apply bN | apply bD | refine bS ?_ GE358.out | refine bS ?_ GE365.out | refine bS ?_ GE366.out) | exact HB.out)))); (case aL => have := LMc76.out; omega); intro v386 w90 ho hb hg hat; rw [← Ny385.out] at ho; have n0_ := Aside0.mk (blk_grown (g := gb358) (o := .cells #[.int .u64 x359000_1, .int .u64 x359001_1] 28 (0, 0)) (by (with_reducible repeat (first | refine blk_drewN ?_ _ | refine blk_drew ?_ | refine blk_alloc ?_ _)); refine blk_far ?_ NB358_366.out _; (with_reducible repeat (first | refine blk_drewN ?_ _ | refine blk_drew ?_ | refine blk_alloc ?_ _)); refine blk_far ?_ NB358_366.out _; exact bF BK358.out) hg (Kd.R_away HO_11.out (fun _ hk => hk.1))); have n1_ := Aside0.mk (blk_grown (g := gb365) (o := .cells #[.int .i64 ((rd_T149 l1 x38_2).f0), .int .i64 ((rd_T149 l1 x38_2).f1), .int .i64 ((rd_T149 l1 x38_2).f2), .int .u64 ((rd_T149 l1 x38_2).f3.f0), .int .u64 ((rd_T149 l1 x38_2).f3.f1)] 149 (0, 0)) (by (with_reducible repeat (first | refine blk_drewN ?_ _ | refine blk_drew ?_ | refine blk_alloc ?_ _)); refine blk_far ?_ NB365_366.out _; (with_reducible repeat (first | refine blk_drewN ?_ _ | refine blk_drew ?_ | refine blk_alloc ?_ _)); refine blk_far ?_ NB365_366.out _; exact bF BK365.out) hg (Kd.R_ne HO_11.out BK365.out (by decide))); have n2_ := Aside0.mk (blk_grown (g := gb366) (o := .cells #[.int .u64 t383, .int .u64 t384] 28 (0, 0)) (by (with_reducible repeat (first | refine blk_drewN ?_ _ | refine blk_drew ?_ | refine blk_alloc ?_ _)); refine blk_put (cs := #[.int .u64 t383, .int .u64 0]) ?_ 1 _ rfl; (with_reducible repeat (first | refine blk_drewN ?_ _ | refine blk_drew ?_ | refine blk_alloc ?_ _)); refine blk_put (cs := #[.int .u64 0, .int .u64 0]) ?_ 0 _ rfl; exact bF BK366.out) hg (Kd.R_away HO_11.out (fun _ hk => hk.2))); have n3_ := Aside0.mk (hb); have n4_ := Aside0.mk (ho); clear BK358; clear BK365; clear BK366; clear HB; clear HO_11; have BK358 := n0_; have BK365 := n1_; have BK366 := n2_; have HB := n3_; have HO387 := n4_; clear n0_ n1_ n2_ n3_ n4_; clear ho hb hg hat))
                   go_roundg k2
                   case measure => have := HK1.out; have := HK2.out; omega
                   case rel => exact ⟨(y385), (wrap64 (x38_2 + 1)), (by first | rfl | (simp; done) | (simp [*]; done)), H', ⟨by have := HK1.out; have := HK2.out; omega⟩, ⟨by (with_reducible repeat (first | apply Kd.R_alloc | apply Kd.R_drewN | apply Kd.R_drew)); exact Kd.R_mono HO387.out (fun _ hk => hk.1)⟩, ⟨by exact bF BK358.out⟩, ⟨by repeat (first | (with_reducible first | exact HB.out | apply bA | apply bN | apply bD | refine bS ?_ GE358.out | refine bS ?_ GE365.out | refine bS ?_ GE366.out) | exact HB.out)⟩⟩
                  ·rw [if_neg c76] at H
                   exact absurd H (by simp)
                 ·rw [if_neg c74] at H
                  exact absurd H (by simp)
                ·rw [if_neg c73] at H
                 exact absurd H (by simp)
               ·rw [if_neg c72] at H
                exact absurd H (by simp)
              ·rw [if_neg c71] at H
               exact absurd H (by simp)
             ·rw [if_neg c70] at H
              have c70b0 : (((rd_T149 l1 x38_2).f0) == 4) = false := beq_eq_false_iff_ne.mpr c70
              have c70b1 : (((rd_T149 l1 x38_2).f0) != 4) = true := bne_iff_ne.mpr c70
              by_cases c91 : x11_2.length < 8796093022208
              ·rw [if_pos c91] at H
               have LMc91 := Aside0.mk c91
               clear c91
               obtain ⟨y388, hy388⟩ : ∃ y_ : List (S28), y_ = (x11_2 ++ [(⟨0, 0⟩ : S28)]) := ⟨_, rfl⟩
               replace H : (expr_Eval.l1 k2 a0 l2 y388 l1 (l1.length : Int) (wrap64 (x38_2 + 1))) = some (r1, r2, r3) := by first | (rw [hy388]; with_reducible exact H) | (have H2_ := (Option.bind_some _ _).symm.trans H; rw [hy388]; with_reducible exact H2_) | (have H2_ := (Option.bind_some _ _).symm.trans H; with_reducible exact H2_) | with_reducible exact H | (rw [hy388]; exact H) | exact H
               have Ny388 := Aside0.mk hy388
               clear hy388
               have H' := Aside0.mk H
               clear H
               have p364 : 0 ≤ (x38_2 : Int) := of_decide_eq_true (by first | (with_reducible assumption) | assumption)
               have q364 : x38_2 < (l1.length : Int) := of_decide_eq_true (by first | (with_reducible assumption) | assumption)
               obtain ⟨ad364, e364, hx364_0, hx364_1, hx364_2, hx364_3, hx364_4⟩ := at_T149 HR1.out x38_2 p364 q364
               cases e364
               replace hx364_0 := (HB.out.cell (World.block_lt_of_cell? w _ hx364_0)).trans hx364_0
               replace hx364_1 := (HB.out.cell (World.block_lt_of_cell? w _ hx364_1)).trans hx364_1
               replace hx364_2 := (HB.out.cell (World.block_lt_of_cell? w _ hx364_2)).trans hx364_2
               replace hx364_3 := (HB.out.cell (World.block_lt_of_cell? w _ hx364_3)).trans hx364_3
               replace hx364_4 := (HB.out.cell (World.block_lt_of_cell? w _ hx364_4)).trans hx364_4
               replace p364 := eq_true p364
               replace q364 := eq_true q364
               go_wp2_with (first | ((with_reducible refine gate_dst (N := 13) rfl ?_); refine box_event ?hg (N := 13) ?hd (cs := #[.int .i64 0, .int .i64 0, .int .i64 0, .int .u64 0, .int .u64 0]) (t := 149) ?hr ?_; (case hd => rfl); (case hg => rfl); (case hr => first | (go_simp; done) | (go_simp; rfl)); intro gb365 hg w92 hbox hb; have n0_ := Aside0.mk (Kd.R_below (by exact rF HO_11.out) hb); have n1_ := Aside0.mk (blk_below (g := gb358) (o := .cells #[.int .u64 x359000_1, .int .u64 x359001_1] 28 (0, 0)) (by exact bF BK358.out) hb); have n2_ := Aside0.mk (below_step (by repeat (first | (with_reducible first | exact HB.out | apply bA | apply bN | apply bD | refine bS ?_ GE358.out) | exact HB.out)) hb); have n3_ := Aside0.mk (hbox); have n4_ := Aside0.mk ((by rw [hg]; exact (below_size (by repeat (first | (with_reducible first | exact HB.out | apply bA | apply bN | apply bD | refine bS ?_ GE358.out) | exact HB.out))) : w.heap.size ≤ gb365)); have n5_ := Aside0.mk ((by rw [hg]; exact (below_size (by repeat (first | (with_reducible first | exact HB.out | apply bA | apply bN | apply bD | refine bS ?_ GE358.out) | exact HB.out))) : w.heap.size ≤ gb365)); have n6_ := Aside0.mk ((by rw [hg]; exact Nat.ne_of_lt (blk_lt (g := gb358) (o := .cells #[.int .u64 x359000_1, .int .u64 x359001_1] 28 (0, 0)) (by exact bF BK358.out)) : gb358 ≠ gb365)); have n7_ := Aside0.mk ((by rw [hg]; exact Nat.ne_of_gt (blk_lt (g := gb358) (o := .cells #[.int .u64 x359000_1, .int .u64 x359001_1] 28 (0, 0)) (by exact bF BK358.out)) : gb365 ≠ gb358)); clear HO_11; clear BK358; clear HB; have HO_11 := n0_; have BK358 := n1_; have HB := n2_; have BK365 := n3_; have GW365 := n4_; have GE365 := n5_; have NB358_365 := n6_; have NB365_358 := n7_; clear n0_ n1_ n2_ n3_ n4_ n5_ n6_ n7_; clear hb hbox hg; have hnb93 := NB365_358.out; have hnc93 := NB358_365.out; have hcz94_0 : w92.cell? ⟨gb365, 0, none⟩ = some (.int .i64 0) := (blk_cell BK365.out 0).trans rfl; have hcz94_1 : w92.cell? ⟨gb365, 1, none⟩ = some (.int .i64 0) := (blk_cell BK365.out 1).trans rfl; have hcz94_2 : w92.cell? ⟨gb365, 2, none⟩ = some (.int .i64 0) := (blk_cell BK365.out 2).trans rfl; have hcz94_3 : w92.cell? ⟨gb365, 3, none⟩ = some (.int .u64 0) := (blk_cell BK365.out 3).trans rfl; have hcz94_4 : w92.cell? ⟨gb365, 4, none⟩ = some (.int .u64 0) := (blk_cell BK365.out 4).trans rfl; have hfz94_0 := blk_frozen BK365.out 0; have hfz94_1 := blk_frozen BK365.out 1; have hfz94_2 := blk_frozen BK365.out 2; have hfz94_3 := blk_frozen BK365.out 3; have hfz94_4 := blk_frozen BK365.out 4) | ((with_reducible refine gate_dst (N := 14) rfl ?_); refine box_event ?hg (N := 14) ?hd (cs := #[.int .u64 0, .int .u64 0]) (t := 28) ?hr ?_; (case hd => rfl); (case hg => rfl); (case hr => first | (go_simp; done) | (go_simp; rfl)); intro gb366 hg w95 hbox hb; have n0_ := Aside0.mk (Kd.R_below (Kd.R_elderB (by (with_reducible repeat (first | apply Kd.R_alloc | apply Kd.R_drewN | apply Kd.R_drew)); exact (Kd.R_mono (Kd.R_far (p := ⟨gb365, 4, none⟩) (Kd.R_far (p := ⟨gb365, 3, none⟩) (Kd.R_far (p := ⟨gb365, 2, none⟩) (Kd.R_far (p := ⟨gb365, 1, none⟩) (Kd.R_far (p := ⟨gb365, 0, none⟩) (Kd.R_types HO_11.out BK365.out (by decide)) (fun _ hk => hk.2) (.int .i64 ((rd_T149 l1 x38_2).f0))) (fun _ hk => hk.2) (.int .i64 ((rd_T149 l1 x38_2).f1))) (fun _ hk => hk.2) (.int .i64 ((rd_T149 l1 x38_2).f2))) (fun _ hk => hk.2) (.int .u64 ((rd_T149 l1 x38_2).f3.f0))) (fun _ hk => hk.2) (.int .u64 ((rd_T149 l1 x38_2).f3.f1))) (fun _ h_ => h_.1))) gb366 (Nat.le_of_eq hg.symm)) hb); have n1_ := Aside0.mk (blk_below (g := gb358) (o := .cells #[.int .u64 x359000_1, .int .u64 x359001_1] 28 (0, 0)) (by (with_reducible repeat (first | refine blk_drewN ?_ _ | refine blk_drew ?_ | refine blk_alloc ?_ _)); refine blk_far ?_ NB358_365.out _; (with_reducible repeat (first | refine blk_drewN ?_ _ | refine blk_drew ?_ | refine blk_alloc ?_ _)); refine blk_far ?_ NB358_365.out _; (with_reducible repeat (first | refine blk_drewN ?_ _ | refine blk_drew ?_ | refine blk_alloc ?_ _)); refine blk_far ?_ NB358_365.out _; (with_reducible repeat (first | refine blk_drewN ?_ _ | refine blk_drew ?_ | refine blk_alloc ?_ _)); refine blk_far ?_ NB358_365.out _; (with_reducible repeat (first | refine blk_drewN ?_ _ | refine blk_drew ?_ | refine blk_alloc ?_ _)); refine blk_far ?_ NB358_365.out _; exact bF BK358.out) hb); have n2_ := Aside0.mk (blk_below (g := gb365) (o := .cells #[.int .i64 ((rd_T149 l1 x38_2).f0), .int .i64 ((rd_T149 l1 x38_2).f1), .int .i64 ((rd_T149 l1 x38_2).f2), .int .u64 ((rd_T149 l1 x38_2).f3.f0), .int .u64 ((rd_T149 l1 x38_2).f3.f1)] 149 (0, 0)) (by (with_reducible repeat (first | refine blk_drewN ?_ _ | refine blk_drew ?_ | refine blk_alloc ?_ _)); refine blk_put (cs := #[.int .i64 ((rd_T149 l1 x38_2).f0), .int .i64 ((rd_T149 l1 x38_2).f1), .int .i64 ((rd_T149 l1 x38_2).f2), .int .u64 ((rd_T149 l1 x38_2).f3.f0), .int .u64 0]) ?_ 4 _ rfl; (with_reducible repeat (first | refine blk_drewN ?_ _ | refine blk_drew ?_ | refine blk_alloc ?_ _)); refine blk_put (cs := #[.int .i64 ((rd_T149 l1 x38_2).f0), .int .i64 ((rd_T149 l1 x38_2).f1), .int .i64 ((rd_T149 l1 x38_2).f2), .int .u64 0, .int .u64 0]) ?_ 3 _ rfl; (with_reducible repeat (first | refine blk_drewN ?_ _ | refine blk_drew ?_ | refine blk_alloc ?_ _)); refine blk_put (cs := #[.int .i64 ((rd_T149 l1 x38_2).f0), .int .i64 ((rd_T149 l1 x38_2).f1), .int .i64 0, .int .u64 0, .int .u64 0]) ?_ 2 _ rfl; (with_reducible repeat (first | refine blk_drewN ?_ _ | refine blk_drew ?_ | refine blk_alloc ?_ _)); refine blk_put (cs := #[.int .i64 ((rd_T149 l1 x38_2).f0), .int .i64 0, .int .i64 0, .int .u64 0, .int .u64 0]) ?_ 1 _ rfl; (with_reducible repeat (first | refine blk_drewN ?_ _ | refine blk_drew ?_ | refine blk_alloc ?_ _)); refine blk_put (cs := #[.int .i64 0, .int .i64 0, .int .i64 0, .int .u64 0, .int .u64 0]) ?_ 0 _ rfl; exact bF BK365.out) hb); have n3_ := Aside0.mk (below_step (by repeat (first | (with_reducible first | exact HB.out | apply bA | apply bN | apply bD | refine bS ?_ GE358.out | refine bS ?_ GE365.out) | exact HB.out)) hb); have n4_ := Aside0.mk (hbox); have n5_ := Aside0.mk ((by rw [hg]; exact (below_size (by repeat (first | (with_reducible first | exact HB.out | apply bA | apply bN | apply bD | refine bS ?_ GE358.out | refine bS ?_ GE365.out) | exact HB.out))) : w.heap.size ≤ gb366)); have n6_ := Aside0.mk ((by rw [hg]; exact (below_size (by repeat (first | (with_reducible first | exact HB.out | apply bA | apply bN | apply bD | refine bS ?_ GE358.out | refine bS ?_ GE365.out) | exact HB.out))) : w.heap.size ≤ gb366)); have n7_ := Aside0.mk ((by rw [hg]; exact Nat.ne_of_lt (blk_lt (g := gb358) (o := .cells #[.int .u64 x359000_1, .int .u64 x359001_1] 28 (0, 0)) (by (with_reducible repeat (first | refine blk_drewN ?_ _ | refine blk_drew ?_ | refine blk_alloc ?_ _)); refine blk_far ?_ NB358_365.out _; (with_reducible repeat (first | refine blk_drewN ?_ _ | refine blk_drew ?_ | refine blk_alloc ?_ _)); refine blk_far ?_ NB358_365.out _; (with_reducible repeat (first | refine blk_drewN ?_ _ | refine blk_drew ?_ | refine blk_alloc ?_ _)); refine blk_far ?_ NB358_365.out _; (with_reducible repeat (first | refine blk_drewN ?_ _ | refine blk_drew ?_ | refine blk_alloc ?_ _)); refine blk_far ?_ NB358_365.out _; (with_reducible repeat (first | refine blk_drewN ?_ _ | refine blk_drew ?_ | refine blk_alloc ?_ _)); refine blk_far ?_ NB358_365.out _; exact bF BK358.out)) : gb358 ≠ gb366)); have n8_ := Aside0.mk ((by rw [hg]; exact Nat.ne_of_gt (blk_lt (g := gb358) (o := .cells #[.int .u64 x359000_1, .int .u64 x359001_1] 28 (0, 0)) (by (with_reducible repeat (first | refine blk_drewN ?_ _ | refine blk_drew ?_ | refine blk_alloc ?_ _)); refine blk_far ?_ NB358_365.out _; (with_reducible repeat (first | refine blk_drewN ?_ _ | refine blk_drew ?_ | refine blk_alloc ?_ _)); refine blk_far ?_ NB358_365.out _; (with_reducible repeat (first | refine blk_drewN ?_ _ | refine blk_drew ?_ | refine blk_alloc ?_ _)); refine blk_far ?_ NB358_365.out _; (with_reducible repeat (first | refine blk_drewN ?_ _ | refine blk_drew ?_ | refine blk_alloc ?_ _)); refine blk_far ?_ NB358_365.out _; (with_reducible repeat (first | refine blk_drewN ?_ _ | refine blk_drew ?_ | refine blk_alloc ?_ _)); refine blk_far ?_ NB358_365.out _; exact bF BK358.out)) : gb366 ≠ gb358)); have n9_ := Aside0.mk ((by rw [hg]; exact Nat.ne_of_lt (blk_lt (g := gb365) (o := .cells #[.int .i64 ((rd_T149 l1 x38_2).f0), .int .i64 ((rd_T149 l1 x38_2).f1), .int .i64 ((rd_T149 l1 x38_2).f2), .int .u64 ((rd_T149 l1 x38_2).f3.f0), .int .u64 ((rd_T149 l1 x38_2).f3.f1)] 149 (0, 0)) (by (with_reducible repeat (first | refine blk_drewN ?_ _ | refine blk_drew ?_ | refine blk_alloc ?_ _)); refine blk_put (cs := #[.int .i64 ((rd_T149 l1 x38_2).f0), .int .i64 ((rd_T149 l1 x38_2).f1), .int .i64 ((rd_T149 l1 x38_2).f2), .int .u64 ((rd_T149 l1 x38_2).f3.f0), .int .u64 0]) ?_ 4 _ rfl; (with_reducible repeat (first | refine blk_drewN ?_ _ | refine blk_drew ?_ | refine blk_alloc ?_ _)); refine blk_put (cs := #[.int .i64 ((rd_T149 l1 x38_2).f0), .int .i64 ((rd_T149 l1 x38_2).f1), .int .i64 ((rd_T149 l1 x38_2).f2), .int .u64 0, .int .u64 0]) ?_ 3 _ rfl; (with_reducible repeat (first | refine blk_drewN ?_ _ | refine blk_drew ?_ | refine blk_alloc ?_ _)); refine blk_put (cs := #[.int .i64 ((rd_T149 l1 x38_2).f0), .int .i64 ((rd_T149 l1 x38_2).f1), .int .i64 0, .int .u64 0, .int .u64 0]) ?_ 2 _ rfl; (with_reducible repeat (first | refine blk_drewN ?_ _ | refine blk_drew ?_ | refine blk_alloc ?_ _)); refine blk_put (cs := #[.int .i64 ((rd_T149 l1 x38_2).f0), .int .i64 0, .int .i64 0, .int .u64 0, .int .u64 0]) ?_ 1 _ rfl; (with_reducible repeat (first | refine blk_drewN ?_ _ | refine blk_drew ?_ | refine blk_alloc ?_ _)); refine blk_put (cs := #[.int .i64 0, .int .i64 0, .int .i64 0, .int .u64 0, .int .u64 0]) ?_ 0 _ rfl; exact bF BK365.out)) : gb365 ≠ gb366)); have n10_ := Aside0.mk ((by rw [hg]; exact Nat.ne_of_gt (blk_lt (g := gb365) (o := .cells #[.int .i64 ((rd_T149 l1 x38_2).f0), .int .i64 ((rd_T149 l1 x38_2).f1), .int .i64 ((rd_T149 l1 x38_2).f2), .int .u64 ((rd_T149 l1 x38_2).f3.f0), .int .u64 ((rd_T149 l1 x38_2).f3.f1)] 149 (0, 0)) (by (with_reducible repeat (first | refine blk_drewN ?_ _ | refine blk_drew ?_ | refine blk_alloc ?_ _)); refine blk_put (cs := #[.int .i64 ((rd_T149 l1 x38_2).f0), .int .i64 ((rd_T149 l1 x38_2).f1), .int .i64 ((rd_T149 l1 x38_2).f2), .int .u64 ((rd_T149 l1 x38_2).f3.f0), .int .u64 0]) ?_ 4 _ rfl; (with_reducible repeat (first | refine blk_drewN ?_ _ | refine blk_drew ?_ | refine blk_alloc ?_ _)); refine blk_put (cs := #[.int .i64 ((rd_T149 l1 x38_2).f0), .int .i64 ((rd_T149 l1 x38_2).f1), .int .i64 ((rd_T149 l1 x38_2).f2), .int .u64 0, .int .u64 0]) ?_ 3 _ rfl; (with_reducible repeat (first | refine blk_drewN ?_ _ | refine blk_drew ?_ | refine blk_alloc ?_ _)); refine blk_put (cs := #[.int .i64 ((rd_T149 l1 x38_2).f0), .int .i64 ((rd_T149 l1 x38_2).f1), .int .i64 0, .int .u64 0, .int .u64 0]) ?_ 2 _ rfl; (with_reducible repeat (first | refine blk_drewN ?_ _ | refine blk_drew ?_ | refine blk_alloc ?_ _)); refine blk_put (cs := #[.int .i64 ((rd_T149 l1 x38_2).f0), .int .i64 0, .int .i64 0, .int .u64 0, .int .u64 0]) ?_ 1 _ rfl; (with_reducible repeat (first | refine blk_drewN ?_ _ | refine blk_drew ?_ | refine blk_alloc ?_ _)); refine blk_put (cs := #[.int .i64 0, .int .i64 0, .int .i64 0, .int .u64 0, .int .u64 0]) ?_ 0 _ rfl; exact bF BK365.out)) : gb366 ≠ gb365)); clear HO_11; clear BK358; clear BK365; clear HB; have HO_11 := n0_; have BK358 := n1_; have BK365 := n2_; have HB := n3_; have BK366 := n4_; have GW366 := n5_; have GE366 := n6_; have NB358_366 := n7_; have NB366_358 := n8_; have NB365_366 := n9_; have NB366_365 := n10_; clear n0_ n1_ n2_ n3_ n4_ n5_ n6_ n7_ n8_ n9_ n10_; clear hb hbox hg; have hnb96 := NB365_366.out; have hnc96 := NB366_365.out; have hcz97_0 : w95.cell? ⟨gb365, 0, none⟩ = some (.int .i64 ((rd_T149 l1 x38_2).f0)) := (blk_cell BK365.out 0).trans rfl; have hcz97_1 : w95.cell? ⟨gb365, 1, none⟩ = some (.int .i64 ((rd_T149 l1 x38_2).f1)) := (blk_cell BK365.out 1).trans rfl; have hcz97_2 : w95.cell? ⟨gb365, 2, none⟩ = some (.int .i64 ((rd_T149 l1 x38_2).f2)) := (blk_cell BK365.out 2).trans rfl; have hcz97_3 : w95.cell? ⟨gb365, 3, none⟩ = some (.int .u64 ((rd_T149 l1 x38_2).f3.f0)) := (blk_cell BK365.out 3).trans rfl; have hcz97_4 : w95.cell? ⟨gb365, 4, none⟩ = some (.int .u64 ((rd_T149 l1 x38_2).f3.f1)) := (blk_cell BK365.out 4).trans rfl; have hfz97_0 := blk_frozen BK365.out 0; have hfz97_1 := blk_frozen BK365.out 1; have hfz97_2 := blk_frozen BK365.out 2; have hfz97_3 := blk_frozen BK365.out 3; have hfz97_4 := blk_frozen BK365.out 4; have hnb98 := NB366_358.out; have hnc98 := NB358_366.out; have hcz99_0 : w95.cell? ⟨gb366, 0, none⟩ = some (.int .u64 0) := (blk_cell BK366.out 0).trans rfl; have hcz99_1 : w95.cell? ⟨gb366, 1, none⟩ = some (.int .u64 0) := (blk_cell BK366.out 1).trans rfl; have hfz99_0 := blk_frozen BK366.out 0; have hfz99_1 := blk_frozen BK366.out 1) | ((with_reducible refine gate_builtin (b := .append) (xs := #[.tmp 82, .tmp 84]) rfl ?_); at_builtin; refine Kd.R_append k28 (w0 := w) w.heap.size rfl (.tmp 82) (.tmp 84) 53 28 (.agg #[(.int .u64 0), (.int .u64 0)]) 16 rfl Try.underlying53 info28 rfl (by decide) (by omega) u11 x11_2 (⟨0, 0⟩ : S28) [.int .u64 0, .int .u64 0] (fun k_ => k_ ≠ gb358 ∧ k_ ≠ gb366) (fun _ => False) rfl rfl ?aP (fun _ hk => hk.elim) ?aF ?aO ?aB ?aS ?aL ?_; (case aP => exact k28_mkM _ _ _ (⟨0, 0⟩ : S28)); (case aB => exact (by repeat (first | (with_reducible first | exact HB.out | apply bA | apply bN | apply bD | refine bS ?_ GE358.out | refine bS ?_ GE365.out | refine bS ?_ GE366.out) | exact HB.out))); (case aF => exact (fun k_ hk => ⟨Kd.freshB (g := gb358) (o := .cells #[.int .u64 x359000_1, .int .u64 x359001_1] 28 (0, 0)) (by exact bF BK358.out) k_ hk, Kd.freshB (g := gb366) (o := .cells #[.int .u64 0, .int .u64 0] 28 (0, 0)) (by exact bF BK366.out) k_ hk⟩)); (case aO => exact (by exact rF HO_11.out)); (case aS => exact (below_size (by repeat (first | (with_reducible first | exact HB.out | apply bA | apply bN | apply bD | refine bS ?_ GE358.out | refine bS ?_ GE365.out | refine bS ?_ GE366.out) | exact HB.out)))); (case aL => have := LMc91.out; omega); intro v389 w100 ho hb hg hat; rw [← Ny388.out] at ho; have n0_ := Aside0.mk (blk_grown (g := gb358) (o := .cells #[.int .u64 x359000_1, .int .u64 x359001_1] 28 (0, 0)) (by exact bF BK358.out) hg (Kd.R_away HO_11.out (fun _ hk => hk.1))); have n1_ := Aside0.mk (blk_grown (g := gb365) (o := .cells #[.int .i64 ((rd_T149 l1 x38_2).f0), .int .i64 ((rd_T149 l1 x38_2).f1), .int .i64 ((rd_T149 l1 x38_2).f2), .int .u64 ((rd_T149 l1 x38_2).f3.f0), .int .u64 ((rd_T149 l1 x38_2).f3.f1)] 149 (0, 0)) (by exact bF BK365.out) hg (Kd.R_ne HO_11.out BK365.out (by decide))); have n2_ := Aside0.mk (blk_grown (g := gb366) (o := .cells #[.int .u64 0, .int .u64 0] 28 (0, 0)) (by exact bF BK366.out) hg (Kd.R_away HO_11.out (fun _ hk => hk.2))); have n3_ := Aside0.mk (hb); have n4_ := Aside0.mk (ho); clear BK358; clear BK365; clear BK366; clear HB; clear HO_11; have BK358 := n0_; have BK365 := n1_; have BK366 := n2_; have HB := n3_; have HO390 := n4_; clear n0_ n1_ n2_ n3_ n4_; clear ho hb hg hat))
               go_roundg k2
               case measure => have := HK1.out; have := HK2.out; omega
               case rel => exact ⟨(y388), (wrap64 (x38_2 + 1)), (by first | rfl | (simp; done) | (simp [*]; done)), H', ⟨by have := HK1.out; have := HK2.out; omega⟩, ⟨by (with_reducible repeat (first | apply Kd.R_alloc | apply Kd.R_drewN | apply Kd.R_drew)); exact Kd.R_mono HO390.out (fun _ hk => hk.1)⟩, ⟨by exact bF BK358.out⟩, ⟨by repeat (first | (with_reducible first | exact HB.out | apply bA | apply bN | apply bD | refine bS ?_ GE358.out | refine bS ?_ GE365.out | refine bS ?_ GE366.out) | exact HB.out)⟩⟩
              ·rw [if_neg c91] at H
               exact absurd H (by simp)
         ·rw [if_neg c24] at H
          exact absurd H (by simp)
        ·rw [if_neg c23] at H
         exact absurd H (by simp)
       ·rw [if_neg c22] at H
        have c22b0 : decide (x38_2 < (l1.length : Int)) = false := decide_eq_false c22
        clear c22
        obtain ⟨ji101, hji101⟩ : ∃ j_ : Int, (wrap64 ((x11_2.length : Int) - 1)) = j_ := ⟨_, rfl⟩
        replace H : (if 0 ≤ (ji101) then (if (ji101) < (x11_2.length : Int) then (some ((rd_T28 x11_2 (ji101)).f0, (rd_T28 x11_2 (ji101)).f1, 0)) else (none)) else (none)) = some (r1, r2, r3) := by first | (rw [hji101] at H; exact H) | (simp only [hji101] at H ⊢; exact H)
        have hji101w : (IntKind.i64.wrap ((x11_2.length : Int) - 1)) = ji101 := (i64_w _).trans hji101
        by_cases c102 : 0 ≤ (ji101)
        ·rw [if_pos c102] at H
         have c102b0 : decide (0 ≤ (ji101)) = true := decide_eq_true c102
         clear c102
         by_cases c103 : (ji101) < (x11_2.length : Int)
         ·rw [if_pos c103] at H
          have c103b0 : decide ((ji101) < (x11_2.length : Int)) = true := decide_eq_true c103
          clear c103
          simp only [Option.some.injEq, Prod.mk.injEq] at H
          obtain ⟨rfl, rfl, rfl⟩ := H
          obtain ⟨Ao104, co104, eo104⟩ := Kd.R_slice HO_11.out
          subst eo104
          have p363 : 0 ≤ ((ji101) : Int) := of_decide_eq_true (by first | (with_reducible assumption) | assumption)
          have q363 : (ji101) < (x11_2.length : Int) := of_decide_eq_true (by first | (with_reducible assumption) | assumption)
          obtain ⟨ad363, e363, hx363_0, hx363_1⟩ := at_T28 (Kd.R_reads' HO_11.out).2.2 (ji101) p363 q363
          cases e363
          replace p363 := eq_true p363
          replace q363 := eq_true q363
          have hcz105_0 : wr.cell? ⟨gb358, 0, none⟩ = some (.int .u64 x359000_1) := (blk_cell BK358.out 0).trans rfl
          have hcz105_1 : wr.cell? ⟨gb358, 1, none⟩ = some (.int .u64 x359001_1) := (blk_cell BK358.out 1).trans rfl
          have hfz105_0 := blk_frozen BK358.out 0
          have hfz105_1 := blk_frozen BK358.out 1
          go_wp2
          refine bodyPost_ret (results_ct rfl _ _ gb358 28 #[.int .u64 ((rd_T28 x11_2 (ji101)).f0), .int .u64 ((rd_T28 x11_2 (ji101)).f1)] (0, 0) _ rfl (by (with_reducible repeat (first | refine blk_drewN ?_ _ | refine blk_drew ?_ | refine blk_alloc ?_ _)); refine blk_put (cs := #[.int .u64 ((rd_T28 x11_2 (ji101)).f0), .int .u64 x359001_1]) ?_ 1 _ rfl; (with_reducible repeat (first | refine blk_drewN ?_ _ | refine blk_drew ?_ | refine blk_alloc ?_ _)); refine blk_put (cs := #[.int .u64 x359000_1, .int .u64 x359001_1]) ?_ 0 _ rfl; exact bF BK358.out) Try.underlying28 rfl (by kernel_rfl)) rfl ?_
          exact ⟨by first | rfl | (simp [errW_none, errW_some] <;> rfl) | (simp only [← hji101]; first | rfl | (simp [errW_none, errW_some] <;> rfl)) | (simp [*, errW_none, errW_some] <;> rfl), by repeat (first | (with_reducible first | exact HB.out | apply bA | apply bN | apply bD | refine bS ?_ GE358.out) | exact HB.out)⟩
         ·rw [if_neg c103] at H
          exact absurd H (by simp)
        ·rw [if_neg c102] at H
         exact absurd H (by simp)
 ·rw [if_neg c5] at H
  have c5b0 : (t359 == 0) = false := beq_eq_false_iff_ne.mpr c5
  have c5b1 : (t359 != 0) = true := bne_iff_ne.mpr c5
  simp only [Option.some.injEq, Prod.mk.injEq] at H
  obtain ⟨rfl, rfl, rfl⟩ := H
  go_enter Try.func65, Try.ntmps65
  go_wp2_with (first | ((with_reducible refine gate_dst (N := 6) rfl ?_); refine box_event ?hg (N := 6) ?hd (cs := #[.int .u64 0, .int .u64 0]) (t := 28) ?hr ?_; (case hd => rfl); (case hg => rfl); (case hr => first | (go_simp; done) | (go_simp; rfl)); intro gb358 hg w106 hbox hb; have n0_ := Aside0.mk (below_step (by exact lF HB.out) hb); have n1_ := Aside0.mk (hbox); have n2_ := Aside0.mk ((by rw [hg]; exact (below_size (by exact lF HB.out)) : w.heap.size ≤ gb358)); have n3_ := Aside0.mk ((by rw [hg]; exact (below_size (by exact lF HB.out)) : w.heap.size ≤ gb358)); clear HB; have HB := n0_; have BK358 := n1_; have GW358 := n2_; have GE358 := n3_; clear n0_ n1_ n2_ n3_; clear hb hbox hg) | ((with_reducible refine gate_callee (f := 91) rfl ?_); refine goesL_ (some 19) rfl rfl Try.func91 (by kernel_rfl) rfl #[.int .i64 a0, .int .i64 (l2.length : Int), .slice A1 l1.length c1] rfl (by (try simp only [List.map_toArray, List.map_cons, List.map_nil]); first | done | rfl | (simp only [List.length_drop, List.length_take]; rfl)) ?_; (with_reducible refine (expr_Check.calls k a0 (l2.length : Int) _ _ l1 t359 _ ?side1 ?side2 A4.out).mono ?_); (case side1 => repeat (first | exact (Kd.C_below HR1.out HB.out) | (with_reducible refine Kd.C_alloc ?_ _) | (with_reducible refine Kd.C_drewN ?_ _) | (with_reducible refine Kd.C_drew ?_))); (case side2 => exact HC1.out); rintro e w107 ⟨rfl, hb⟩; refine ⟨_, rfl, ?_⟩; have n0_ := Aside0.mk (blk_below (g := gb358) (o := .cells #[.int .u64 0, .int .u64 0] 28 (0, 0)) (by exact bF BK358.out) hb); have n1_ := Aside0.mk (below_step (by repeat (first | (with_reducible first | exact HB.out | apply bA | apply bN | apply bD | refine bS ?_ GE358.out) | exact HB.out)) hb); clear BK358; clear HB; have BK358 := n0_; have HB := n1_; clear n0_ n1_; (try clear hb); (try clear hb2); (try clear hk); (try clear hi); have hcz108_0 : w107.cell? ⟨gb358, 0, none⟩ = some (.int .u64 0) := (blk_cell BK358.out 0).trans rfl; have hcz108_1 : w107.cell? ⟨gb358, 1, none⟩ = some (.int .u64 0) := (blk_cell BK358.out 1).trans rfl; have hfz108_0 := blk_frozen BK358.out 0; have hfz108_1 := blk_frozen BK358.out 1))
  refine bodyPost_ret (results_ct rfl _ _ gb358 28 #[.int .u64 0, .int .u64 0] (0, 0) _ rfl (by (with_reducible repeat (first | refine blk_drewN ?_ _ | refine blk_drew ?_ | refine blk_alloc ?_ _)); refine blk_put (cs := #[.int .u64 0, .int .u64 0]) ?_ 1 _ rfl; (with_reducible repeat (first | refine blk_drewN ?_ _ | refine blk_drew ?_ | refine blk_alloc ?_ _)); refine blk_put (cs := #[.int .u64 0, .int .u64 0]) ?_ 0 _ rfl; exact bF BK358.out) Try.underlying28 rfl (by kernel_rfl)) rfl ?_
  exact ⟨by first | rfl | (simp [errW_none, errW_some] <;> rfl) | (simp [*, errW_none, errW_some] <;> rfl), by repeat (first | (with_reducible first | exact HB.out | apply bA | apply bN | apply bD | refine bS ?_ GE358.out) | exact HB.out)⟩
def cube_Log.l0 : Nat → Int → Int → Option (Int)
 | 0, _, _ => none
 | k + 1, x0, x4 => if x4 < 17 then (if 0 ≤ x4 then (if x0 = (shl .i64 1 x4) then (some x4) else (cube_Log.l0 k x0 (wrap64 (x4 + 1)))) else (none)) else (some (-1))
def cube_Log.f (k : Nat) (a0 : Int) : Option (Int) := cube_Log.l0 k a0 0
set_option maxHeartbeats 8000000 in
set_option maxRecDepth 100000 in
theorem cube_Log.calls (k : Nat) (a0 : Int) (r : Int) (w : World) (h : cube_Log.f k a0 = some r) :
  Calls Try.prog 78 #[.int .i64 a0] w fun e w' => e = .returned (.int .i64 r) ∧ Drawn0 w w' := by
 have H : (cube_Log.l0 k a0 0) = some r := h
 clear h
 have H' := Aside0.mk H
 clear H
 go_enter Try.func78, Try.ntmps78
 go_wp2
 go_loopg [4] k (fun kq v4 w' => ∃ (x4_1 : Int), v4 = .int .i64 x4_1 ∧ Aside0 (cube_Log.l0 kq a0 x4_1 = some r) ∧ Aside0 (kq ≤ k) ∧ Drawn0 w w')
 case atStart => exact ⟨(0), (by first | rfl | (simp; done) | (simp [*]; done)), H', ⟨Nat.le_refl _⟩, by repeat (first | exact Drawn0.refl _ | apply Drawn0.step)⟩
 case round =>
  clear H'
  obtain ⟨x4_1, rfl, HA, HK1, ⟨m1, rfl⟩⟩ := hrel
  cases gk with
  | zero => exact absurd HA.out (by simp [cube_Log.l0])
  | succ k1 =>
   have H := HA.out
   clear HA
   simp only [cube_Log.l0] at H
   by_cases c2 : x4_1 < 17
   ·rw [if_pos c2] at H
    have c2b0 : decide (x4_1 < 17) = true := decide_eq_true c2
    clear c2
    by_cases c3 : 0 ≤ x4_1
    ·rw [if_pos c3] at H
     have c3b0 := eq_true c3
     have c3b1 : decide (0 ≤ x4_1) = true := decide_eq_true c3
     clear c3
     obtain ⟨ji4, hji4⟩ : ∃ j_ : Int, (shl .i64 1 x4_1) = j_ := ⟨_, rfl⟩
     replace H : (if a0 = (ji4) then (some x4_1) else (cube_Log.l0 k1 a0 (wrap64 (x4_1 + 1)))) = some r := by first | (rw [hji4] at H; exact H) | (simp only [hji4] at H ⊢; exact H)
     have hji4_ : (IntKind.i64.wrap (1 * 2 ^ min x4_1.toNat 64)) = ji4 := hji4
     have hji4z : x4_1 ≤ 64 → (IntKind.i64.wrap (1 * 2 ^ x4_1.toNat)) = ji4 := shl_small hji4
     have hji4u : (IntKind.i64.wrap (2 ^ min x4_1.toNat 64)) = ji4 := by have h_ := hji4_; rw [Int.one_mul] at h_; exact h_
     have hji4v : x4_1 ≤ 64 → (IntKind.i64.wrap (2 ^ x4_1.toNat)) = ji4 := fun hle_ => by have h_ := hji4z hle_; rw [Int.one_mul] at h_; exact h_
     have hji4y : (wrap64 (1 * 2 ^ min x4_1.toNat 64)) = ji4 := (i64_w _).symm.trans hji4_
     have hji4x : x4_1 ≤ 64 → (wrap64 (1 * 2 ^ x4_1.toNat)) = ji4 := fun h_ => (i64_w _).symm.trans (hji4z h_)
     by_cases c5 : a0 = (ji4)
     ·rw [if_pos c5] at H
      have c5b0 : (a0 == (ji4)) = true := beq_iff_eq.mpr c5
      have c5b1 : (a0 != (ji4)) = false := bne_eq_false_iff_eq.mpr c5
      clear c5
      obtain rfl := Option.some.inj H
      go_wp2
      go_ret
      exact ⟨by first | rfl | (simp; done) | (simp only [← hji4] <;> (first | rfl | simp)) | (simp [*]; done), by repeat (first | exact Drawn0.refl _ | apply Drawn0.step)⟩
     ·rw [if_neg c5] at H
      have c5b0 : (a0 == (ji4)) = false := beq_eq_false_iff_ne.mpr c5
      have c5b1 : (a0 != (ji4)) = true := bne_iff_ne.mpr c5
      have H' := Aside0.mk H
      clear H
      go_wp2
      go_roundg k1
      case measure => have := HK1.out; omega
      case rel => exact ⟨(wrap64 (x4_1 + 1)), (by first | rfl | (simp; done) | (simp [*]; done)), H', ⟨by have := HK1.out; omega⟩, by repeat (first | exact Drawn0.refl _ | apply Drawn0.step)⟩
    ·rw [if_neg c3] at H
     exact absurd H (by simp)
   ·rw [if_neg c2] at H
    have c2b0 : decide (x4_1 < 17) = false := decide_eq_false c2
    clear c2
    obtain rfl := Option.some.inj H
    go_wp2
    go_ret
    exact ⟨by first | rfl | (simp; done) | (simp [*]; done), by repeat (first | exact Drawn0.refl _ | apply Drawn0.step)⟩
def line_place.f (a0 : Int) : Option (Int × Int) := some (0, IntKind.u64.wrap (a0))
set_option maxHeartbeats 8000000 in
set_option maxRecDepth 100000 in
theorem line_place.calls (a0 : Int) (r1 : Int) (r2 : Int) (w : World) (h : line_place.f a0 = some (r1, r2)) :
  Calls Try.prog 143 #[.int .i64 a0] w fun e w' => e = .returned (.agg #[.int .u64 r1, .int .u64 r2]) ∧ Below w.heap.size w w' := by
 have hu28 := Try.underlying28
 have HB := Aside0.mk (Below.refl w.heap.size w)
 have H : (some (0, IntKind.u64.wrap (a0))) = some (r1, r2) := h
 clear h
 simp only [Option.some.injEq, Prod.mk.injEq] at H
 obtain ⟨rfl, rfl⟩ := H
 go_enter Try.func143, Try.ntmps143
 go_wp2_with (first | ((with_reducible refine gate_dst (N := 2) rfl ?_); refine box_event ?hg (N := 2) ?hd (cs := #[.int .u64 0, .int .u64 0]) (t := 28) ?hr ?_; (case hd => rfl); (case hg => rfl); (case hr => first | (go_simp; done) | (go_simp; rfl)); intro gb391 hg w2 hbox hb; have n0_ := Aside0.mk (below_step (by exact lF HB.out) hb); have n1_ := Aside0.mk (hbox); have n2_ := Aside0.mk ((by rw [hg]; exact (below_size (by exact lF HB.out)) : w.heap.size ≤ gb391)); have n3_ := Aside0.mk ((by rw [hg]; exact (below_size (by exact lF HB.out)) : w.heap.size ≤ gb391)); clear HB; have HB := n0_; have BK391 := n1_; have GW391 := n2_; have GE391 := n3_; clear n0_ n1_ n2_ n3_; clear hb hbox hg; have hcz3_0 : w2.cell? ⟨gb391, 0, none⟩ = some (.int .u64 0) := (blk_cell BK391.out 0).trans rfl; have hcz3_1 : w2.cell? ⟨gb391, 1, none⟩ = some (.int .u64 0) := (blk_cell BK391.out 1).trans rfl; have hfz3_0 := blk_frozen BK391.out 0; have hfz3_1 := blk_frozen BK391.out 1))
 refine bodyPost_ret (results_cell_row rfl _ _ gb391 28 #[.int .u64 0, .int .u64 (IntKind.u64.wrap (a0))] (0, 0) _ rfl (by (with_reducible repeat (first | refine blk_drewN ?_ _ | refine blk_drew ?_ | refine blk_alloc ?_ _)); refine blk_put (cs := #[.int .u64 0, .int .u64 0]) ?_ 1 _ rfl; (with_reducible repeat (first | refine blk_drewN ?_ _ | refine blk_drew ?_ | refine blk_alloc ?_ _)); refine blk_put (cs := #[.int .u64 0, .int .u64 0]) ?_ 0 _ rfl; exact bF BK391.out) Try.underlying28 rfl (by kernel_rfl)) rfl ?_
 exact ⟨by first | rfl | (simp [errW_none, errW_some] <;> rfl) | (simp [*, errW_none, errW_some] <;> rfl), by repeat (first | (with_reducible first | exact HB.out | apply bA | apply bN | apply bD | refine bS ?_ GE391.out) | exact HB.out)⟩
def line_Fits.f (k : Nat) (a0 : Int) (a1 : Int) : Option (Bool) := (octet_Wide.f k a0).bind fun t392 => (if t392 = 0 then (some false) else (if a1 ≥ 0 then (if a1 ≤ 8 then ((line_place.f a1).bind fun bt393 => ((octet_Of.f a0 bt393.1 bt393.2).bind fun t395 => (some t395))) else (some false)) else (some false)))
set_option maxHeartbeats 8000000 in
set_option maxRecDepth 100000 in
theorem line_Fits.calls (k : Nat) (a0 : Int) (a1 : Int) (r : Bool) (w : World) (h : line_Fits.f k a0 a1 = some r) :
  Calls Try.prog 103 #[.int .i64 a0, .int .i64 a1] w fun e w' => e = .returned (.bool r) ∧ Below w.heap.size w w' := by
 have HB := Aside0.mk (Below.refl w.heap.size w)
 have H : ((octet_Wide.f k a0).bind fun t392 => (if t392 = 0 then (some false) else (if a1 ≥ 0 then (if a1 ≤ 8 then ((line_place.f a1).bind fun bt393 => ((octet_Of.f a0 bt393.1 bt393.2).bind fun t395 => (some t395))) else (some false)) else (some false)))) = some r := h
 clear h
 replace H := Option.bind_eq_some_iff.mp H
 obtain ⟨t392, A30, H⟩ := H
 replace H : (if t392 = 0 then (some false) else (if a1 ≥ 0 then (if a1 ≤ 8 then ((line_place.f a1).bind fun bt393 => ((octet_Of.f a0 bt393.1 bt393.2).bind fun t395 => (some t395))) else (some false)) else (some false))) = some r := H
 have A3 := Aside0.mk A30
 clear A30
 by_cases c4 : t392 = 0
 ·rw [if_pos c4] at H
  have c4b0 : (t392 == 0) = true := beq_iff_eq.mpr c4
  have c4b1 : (t392 != 0) = false := bne_eq_false_iff_eq.mpr c4
  clear c4
  obtain rfl := Option.some.inj H
  go_enter Try.func103, Try.ntmps103
  go_wp2_with (first | ((with_reducible refine gate_callee (f := 113) rfl ?_); refine goesL_ (some 6) rfl rfl Try.func113 (by kernel_rfl) rfl #[.int .i64 a0] rfl (by (try simp only [List.map_toArray, List.map_cons, List.map_nil]); first | done | rfl | (simp only [List.length_drop, List.length_take]; rfl)) ?_; (with_reducible refine (octet_Wide.calls k a0 t392 _ A3.out).mono ?_); rintro e w' ⟨rfl, ⟨nd, rfl⟩⟩; refine ⟨_, rfl, ?_⟩))
  go_ret
  exact ⟨by first | rfl | (simp [errW_none, errW_some] <;> rfl) | (simp [*, errW_none, errW_some] <;> rfl), by repeat (first | (with_reducible first | exact HB.out | apply bA | apply bN | apply bD) | exact HB.out)⟩
 ·rw [if_neg c4] at H
  have c4b0 : (t392 == 0) = false := beq_eq_false_iff_ne.mpr c4
  have c4b1 : (t392 != 0) = true := bne_iff_ne.mpr c4
  by_cases c5 : a1 ≥ 0
  ·rw [if_pos c5] at H
   have c5b0 : decide (0 ≤ a1) = true := decide_eq_true c5
   clear c5
   by_cases c6 : a1 ≤ 8
   ·rw [if_pos c6] at H
    have c6b0 : decide (a1 ≤ 8) = true := decide_eq_true c6
    clear c6
    replace H := Option.bind_eq_some_iff.mp H
    obtain ⟨⟨t393, t394⟩, A70, H⟩ := H
    replace H : ((octet_Of.f a0 t393 t394).bind fun t395 => (some t395)) = some r := H
    have A7 := Aside0.mk A70
    clear A70
    replace H := Option.bind_eq_some_iff.mp H
    obtain ⟨t395, A80, H⟩ := H
    replace H : (some t395) = some r := H
    have A8 := Aside0.mk A80
    clear A80
    obtain rfl := Option.some.inj H
    go_enter Try.func103, Try.ntmps103
    go_wp2_with (first | ((with_reducible refine gate_callee (f := 113) rfl ?_); refine goesL_ (some 6) rfl rfl Try.func113 (by kernel_rfl) rfl #[.int .i64 a0] rfl (by (try simp only [List.map_toArray, List.map_cons, List.map_nil]); first | done | rfl | (simp only [List.length_drop, List.length_take]; rfl)) ?_; (with_reducible refine (octet_Wide.calls k a0 t392 _ A3.out).mono ?_); rintro e w' ⟨rfl, ⟨nd, rfl⟩⟩; refine ⟨_, rfl, ?_⟩) | (go_at_call 143; (with_reducible refine (line_place.calls a1 t393 t394 _ A7.out).mono ?_); rintro e w9 ⟨rfl, hb⟩; have n0_ := Aside0.mk (below_step (by exact lF HB.out) hb); clear HB; have HB := n0_; clear n0_; (try clear hb); (try clear hb2); (try clear hk); (try clear hi)) | (go_at_call 81; (with_reducible refine (octet_Of.calls a0 t393 t394 t395 _ A8.out).mono ?_); rintro e w10 ⟨rfl, hb⟩; have n0_ := Aside0.mk (below_step (by exact lF HB.out) hb); clear HB; have HB := n0_; clear n0_; (try clear hb); (try clear hb2); (try clear hk); (try clear hi)))
    go_ret
    exact ⟨by first | rfl | (simp [errW_none, errW_some] <;> rfl) | (simp [*, errW_none, errW_some] <;> rfl), by repeat (first | (with_reducible first | exact HB.out | apply bA | apply bN | apply bD) | exact HB.out)⟩
   ·rw [if_neg c6] at H
    have c6b0 : decide (a1 ≤ 8) = false := decide_eq_false c6
    clear c6
    obtain rfl := Option.some.inj H
    go_enter Try.func103, Try.ntmps103
    go_wp2_with (first | ((with_reducible refine gate_callee (f := 113) rfl ?_); refine goesL_ (some 6) rfl rfl Try.func113 (by kernel_rfl) rfl #[.int .i64 a0] rfl (by (try simp only [List.map_toArray, List.map_cons, List.map_nil]); first | done | rfl | (simp only [List.length_drop, List.length_take]; rfl)) ?_; (with_reducible refine (octet_Wide.calls k a0 t392 _ A3.out).mono ?_); rintro e w' ⟨rfl, ⟨nd, rfl⟩⟩; refine ⟨_, rfl, ?_⟩))
    go_ret
    exact ⟨by first | rfl | (simp [errW_none, errW_some] <;> rfl) | (simp [*, errW_none, errW_some] <;> rfl), by repeat (first | (with_reducible first | exact HB.out | apply bA | apply bN | apply bD) | exact HB.out)⟩
  ·rw [if_neg c5] at H
   have c5b0 : decide (0 ≤ a1) = false := decide_eq_false c5
   clear c5
   obtain rfl := Option.some.inj H
   go_enter Try.func103, Try.ntmps103
   go_wp2_with (first | ((with_reducible refine gate_callee (f := 113) rfl ?_); refine goesL_ (some 6) rfl rfl Try.func113 (by kernel_rfl) rfl #[.int .i64 a0] rfl (by (try simp only [List.map_toArray, List.map_cons, List.map_nil]); first | done | rfl | (simp only [List.length_drop, List.length_take]; rfl)) ?_; (with_reducible refine (octet_Wide.calls k a0 t392 _ A3.out).mono ?_); rintro e w' ⟨rfl, ⟨nd, rfl⟩⟩; refine ⟨_, rfl, ?_⟩))
   go_ret
   exact ⟨by first | rfl | (simp [errW_none, errW_some] <;> rfl) | (simp [*, errW_none, errW_some] <;> rfl), by repeat (first | (with_reducible first | exact HB.out | apply bA | apply bN | apply bD) | exact HB.out)⟩
def expr_Degree.f (k : Nat) (l0 : List (S149)) : Option (Int) := (expr_degrees.f k 7 9223372036854775807 l0).bind fun bt396 => (if bt396.2 = 0 then (if 0 ≤ (wrap64 ((bt396.1.length : Int) - 1)) then (if (wrap64 ((bt396.1.length : Int) - 1)) < (bt396.1.length : Int) then (some (rd bt396.1 (wrap64 ((bt396.1.length : Int) - 1)))) else (none)) else (none)) else (some (-1)))
set_option maxHeartbeats 8000000 in
set_option maxRecDepth 100000 in
theorem expr_Degree.calls (k : Nat) (A0 : Option Addr) (c0 : Nat) (l0 : List (S149)) (r : Int) (w : World) (hr0 : Kd.C k149 w A0 l0.length l0) (hc0 : l0.length ≤ c0) (h : expr_Degree.f k l0 = some r) :
  Calls Try.prog 144 #[.slice A0 l0.length c0] w fun e w' => e = .returned (.int .i64 r) ∧ Below w.heap.size w w' := by
 have HR0 := Aside0.mk hr0
 have HC0 := Aside0.mk hc0
 clear hr0 hc0
 have HB := Aside0.mk (Below.refl w.heap.size w)
 have H : ((expr_degrees.f k 7 9223372036854775807 l0).bind fun bt396 => (if bt396.2 = 0 then (if 0 ≤ (wrap64 ((bt396.1.length : Int) - 1)) then (if (wrap64 ((bt396.1.length : Int) - 1)) < (bt396.1.length : Int) then (some (rd bt396.1 (wrap64 ((bt396.1.length : Int) - 1)))) else (none)) else (none)) else (some (-1)))) = some r := h
 clear h
 replace H := Option.bind_eq_some_iff.mp H
 obtain ⟨⟨t396, t397⟩, A20, H⟩ := H
 replace H : (if t397 = 0 then (if 0 ≤ (wrap64 ((t396.length : Int) - 1)) then (if (wrap64 ((t396.length : Int) - 1)) < (t396.length : Int) then (some (rd t396 (wrap64 ((t396.length : Int) - 1)))) else (none)) else (none)) else (some (-1))) = some r := H
 have A2 := Aside0.mk A20
 clear A20
 by_cases c3 : t397 = 0
 ·rw [if_pos c3] at H
  have c3b0 : (t397 == 0) = true := beq_iff_eq.mpr c3
  have c3b1 : (t397 != 0) = false := bne_eq_false_iff_eq.mpr c3
  clear c3
  obtain ⟨ji4, hji4⟩ : ∃ j_ : Int, (wrap64 ((t396.length : Int) - 1)) = j_ := ⟨_, rfl⟩
  replace H : (if 0 ≤ (ji4) then (if (ji4) < (t396.length : Int) then (some (rd t396 (ji4))) else (none)) else (none)) = some r := by first | (rw [hji4] at H; exact H) | (simp only [hji4] at H ⊢; exact H)
  (try rw [hji4] at A2)
  have hji4w : (IntKind.i64.wrap ((t396.length : Int) - 1)) = ji4 := (i64_w _).trans hji4
  by_cases c5 : 0 ≤ (ji4)
  ·rw [if_pos c5] at H
   have c5b0 : decide (0 ≤ (ji4)) = true := decide_eq_true c5
   clear c5
   by_cases c6 : (ji4) < (t396.length : Int)
   ·rw [if_pos c6] at H
    have c6b0 : decide ((ji4) < (t396.length : Int)) = true := decide_eq_true c6
    clear c6
    obtain rfl := Option.some.inj H
    go_enter Try.func144, Try.ntmps144
    go_wp2_with (first | ((with_reducible refine gate_callee (f := 132) rfl ?_); refine goesL_ (some 7) rfl rfl Try.func132 (by kernel_rfl) rfl #[.int .i64 7, .int .i64 9223372036854775807, .slice A0 l0.length c0] rfl (by (try simp only [List.map_toArray, List.map_cons, List.map_nil]); first | done | rfl | (simp only [List.length_drop, List.length_take]; rfl)) ?_; (with_reducible refine (expr_degrees.calls k 7 9223372036854775807 _ _ l0 t396 t397 _ ?side1 ?side2 A2.out).mono ?_); (case side1 => repeat (first | exact HR0.out | (with_reducible refine Kd.C_alloc ?_ _) | (with_reducible refine Kd.C_drewN ?_ _) | (with_reducible refine Kd.C_drew ?_))); (case side2 => exact HC0.out); rintro e w7 ⟨v398, rfl, ho0, hb⟩; refine ⟨_, rfl, ?_⟩; have n0_ := Aside0.mk (Kd.R_lower ho0 (below_size (by exact lF HB.out))); have n1_ := Aside0.mk (below_step (by exact lF HB.out) hb); clear HB; have HO399 := n0_; have HB := n1_; clear n0_ n1_; (try clear hb); (try clear hb2); (try clear hk); (try clear hi); (try clear ho0); obtain ⟨Ao8, co8, eo8⟩ := Kd.R_slice HO399.out; subst eo8; have p400 : 0 ≤ ((ji4) : Int) := of_decide_eq_true (by first | (with_reducible assumption) | assumption); have q400 : (ji4) < (t396.length : Int) := of_decide_eq_true (by first | (with_reducible assumption) | assumption); obtain ⟨ad400, e400, hx400_0⟩ := Kd.at_int (Kd.R_reads' HO399.out).2.2 (ji4) p400 q400; cases e400; replace p400 := eq_true p400; replace q400 := eq_true q400))
    go_ret
    exact ⟨by first | rfl | (simp [errW_none, errW_some] <;> rfl) | (simp only [← hji4]; first | rfl | (simp [errW_none, errW_some] <;> rfl)) | (simp [*, errW_none, errW_some] <;> rfl), by repeat (first | (with_reducible first | exact HB.out | apply bA | apply bN | apply bD) | exact HB.out)⟩
   ·rw [if_neg c6] at H
    exact absurd H (by simp)
  ·rw [if_neg c5] at H
   exact absurd H (by simp)
 ·rw [if_neg c3] at H
  have c3b0 : (t397 == 0) = false := beq_eq_false_iff_ne.mpr c3
  have c3b1 : (t397 != 0) = true := bne_iff_ne.mpr c3
  obtain rfl := Option.some.inj H
  go_enter Try.func144, Try.ntmps144
  go_wp2_with (first | ((with_reducible refine gate_callee (f := 132) rfl ?_); refine goesL_ (some 7) rfl rfl Try.func132 (by kernel_rfl) rfl #[.int .i64 7, .int .i64 9223372036854775807, .slice A0 l0.length c0] rfl (by (try simp only [List.map_toArray, List.map_cons, List.map_nil]); first | done | rfl | (simp only [List.length_drop, List.length_take]; rfl)) ?_; (with_reducible refine (expr_degrees.calls k 7 9223372036854775807 _ _ l0 t396 t397 _ ?side1 ?side2 A2.out).mono ?_); (case side1 => repeat (first | exact HR0.out | (with_reducible refine Kd.C_alloc ?_ _) | (with_reducible refine Kd.C_drewN ?_ _) | (with_reducible refine Kd.C_drew ?_))); (case side2 => exact HC0.out); rintro e w9 ⟨v398, rfl, ho0, hb⟩; refine ⟨_, rfl, ?_⟩; have n0_ := Aside0.mk (Kd.R_lower ho0 (below_size (by exact lF HB.out))); have n1_ := Aside0.mk (below_step (by exact lF HB.out) hb); clear HB; have HO399 := n0_; have HB := n1_; clear n0_ n1_; (try clear hb); (try clear hb2); (try clear hk); (try clear hi); (try clear ho0)))
  go_ret
  exact ⟨by first | rfl | (simp [errW_none, errW_some] <;> rfl) | (simp [*, errW_none, errW_some] <;> rfl), by repeat (first | (with_reducible first | exact HB.out | apply bA | apply bN | apply bD) | exact HB.out)⟩
def sumcheck_degree.f (k : Nat) (l0 : List (S149)) : Option (Int) := (expr_Degree.f k l0).bind fun t401 => (some (mx t401 1))
set_option maxHeartbeats 8000000 in
set_option maxRecDepth 100000 in
theorem sumcheck_degree.calls (k : Nat) (A0 : Option Addr) (c0 : Nat) (l0 : List (S149)) (r : Int) (w : World) (hr0 : Kd.C k149 w A0 l0.length l0) (hc0 : l0.length ≤ c0) (h : sumcheck_degree.f k l0 = some r) :
  Calls Try.prog 104 #[.slice A0 l0.length c0] w fun e w' => e = .returned (.int .i64 r) ∧ Below w.heap.size w w' := by
 have HR0 := Aside0.mk hr0
 have HC0 := Aside0.mk hc0
 clear hr0 hc0
 have HB := Aside0.mk (Below.refl w.heap.size w)
 have H : ((expr_Degree.f k l0).bind fun t401 => (some (mx t401 1))) = some r := h
 clear h
 replace H := Option.bind_eq_some_iff.mp H
 obtain ⟨t401, A20, H⟩ := H
 replace H : (some (mx t401 1)) = some r := H
 have A2 := Aside0.mk A20
 clear A20
 obtain ⟨ji3, hji3⟩ : ∃ j_ : Int, (mx t401 1) = j_ := ⟨_, rfl⟩
 replace H : (some ji3) = some r := by first | (rw [hji3] at H; exact H) | (simp only [hji3] at H ⊢; exact H)
 (try rw [hji3] at A2)
 (try (have hji3l : 1 ≤ ji3 := by (rw [← hji3]; unfold mx; (repeat' split) <;> omega)))
 (try (have hji3m : 0 ≤ ji3 := by omega))
 have hji3_ : (if t401 < 1 then 1 else t401) = ji3 := hji3
 obtain rfl := Option.some.inj H
 go_enter Try.func104, Try.ntmps104
 go_wp2_with (first | ((with_reducible refine gate_callee (f := 144) rfl ?_); refine goesL_ (some 4) rfl rfl Try.func144 (by kernel_rfl) rfl #[.slice A0 l0.length c0] rfl (by (try simp only [List.map_toArray, List.map_cons, List.map_nil]); first | done | rfl | (simp only [List.length_drop, List.length_take]; rfl)) ?_; (with_reducible refine (expr_Degree.calls k _ _ l0 t401 _ ?side1 ?side2 A2.out).mono ?_); (case side1 => repeat (first | exact HR0.out | (with_reducible refine Kd.C_alloc ?_ _) | (with_reducible refine Kd.C_drewN ?_ _) | (with_reducible refine Kd.C_drew ?_))); (case side2 => exact HC0.out); rintro e w4 ⟨rfl, hb⟩; refine ⟨_, rfl, ?_⟩; have n0_ := Aside0.mk (below_step (by exact lF HB.out) hb); clear HB; have HB := n0_; clear n0_; (try clear hb); (try clear hb2); (try clear hk); (try clear hi)))
 go_ret
 exact ⟨by first | rfl | (simp [errW_none, errW_some] <;> rfl) | (simp only [← hji3]; first | rfl | (simp [errW_none, errW_some] <;> rfl)) | (simp [*, errW_none, errW_some] <;> rfl), by repeat (first | (with_reducible first | exact HB.out | apply bA | apply bN | apply bD) | exact HB.out)⟩
end Go.Proofs.Ytoaepfgfbfgcdaa.Q
namespace Go.Proofs.Ytoaepfgfbfgcdaa.Q
open Go.RowKit Go.Proofs.YtoaepfgfbfgcdaaW.PrintWords Go.Proofs.YtoaepfgfbfgcdaaW.PrintLast Go.Proofs.YtoaepfgfbfgcdaaW.PrintMore
attribute [local go_sem] max2_int min2_int max_two min_two max_three min_three max_four min_four
set_option linter.unusedVariables false
set_option linter.unusedSimpArgs false
set_option maxHeartbeats 2000000 in
set_option maxRecDepth 100000 in
theorem idx_Elems (p : (List S28) → Bool) (g : Nat) (lb : Array Value) (A : Option Addr) (c : Nat) (l : List (List S28)) (w : World) (hr : Kd.C (Kd.slice 28 k28) w A l.length l)
  (eg : ∀ args w, (callFunc g args).run Try.prog w = .ok (.enter g args) w)
  (hp : ∀ (W : World) (x : (List S28)) (B0 : Option Addr) (d0 : Nat), Below w.heap.size w W → Kd.C k28 W B0 x.length x → x.length ≤ d0 → Calls Try.prog g (#[.slice B0 x.length d0] ++ lb) W fun e w' => e = .returned (.bool (p x)) ∧ Below w.heap.size w w') :
  Calls Try.prog 145 #[.slice A l.length c, .func (.func g) #[] lb] w fun e w' => e = .returned (.int .i64 (idxP p l 0)) ∧ Below w.heap.size w w' := by
 have HR := Aside0.mk hr
 have hm : l.length ≤ 9223372036854775807 := hr.2.1
 have HP := Aside0.mk hp
 clear hr hp
 go_enter Try.func145, Try.ntmps145
 go_wp2
 go_loopg [5, 8] l.length (fun gg v5 v8 wr => ∃ x : Int, v8 = .int .i64 x ∧ 0 ≤ x ∧ x ≤ l.length ∧ l.length - x.toNat ≤ gg ∧ Aside0 (Below w.heap.size w wr) ∧ Aside0 (idxP p l 0 = idxP p (l.drop x.toNat) x))
 case atStart => exact ⟨0, rfl, by omega, by omega, by omega, ⟨Below.refl _ _⟩, ⟨rfl⟩⟩
 case round =>
  obtain ⟨x, rfl, h0, h1, hg, HB, HI⟩ := hrel
  by_cases hlt : x < (l.length : Int)
  ·obtain ⟨ad, A0, c0, e, hx0, hl0, hC⟩ := at_rows HR.out x h0 hlt
   cases e
   have hc0 := (HB.out.cell (World.block_lt_of_cell? w _ hx0)).trans hx0
   clear hx0
   have hcall := HP.out wr (rdR l x) A0 c0 HB.out (Kd.C_below hC HB.out) hl0
   clear hC hl0
   have HE := Aside0.mk (idxP_at p [] l x h0 hlt)
   have p0 := eq_true h0
   have q0 := eq_true hlt
   cases hq : p (rdR l x) with
   | true =>
    rw [hq] at hcall
    go_wp2_with fail
    refine hcall.mono ?_
    rintro e w' ⟨rfl, hb'⟩
    clear hcall
    go_wp2
    go_ret
    refine ⟨?_, hb'⟩
    rw [HI.out, HE.out, show l.getD x.toNat [] = rdR l x from rfl, hq]
    rfl
   | false =>
    rw [hq] at hcall
    go_wp2_with fail
    refine hcall.mono ?_
    rintro e w' ⟨rfl, hb'⟩
    clear hcall
    go_wp2
    go_roundg (l.length - (x + 1).toNat)
    case measure => omega
    case rel =>
     refine ⟨x + 1, by first | rfl | (simp; done), by omega, by omega, by omega, ⟨hb'⟩, ⟨?_⟩⟩
     rw [HI.out, HE.out, show l.getD x.toNat [] = rdR l x from rfl, hq]
     rfl
  ·have HE := Aside0.mk (idxP_end p l x hlt)
   go_wp2
   go_ret
   exact ⟨by rw [HI.out, HE.out]; rfl, HB.out⟩
end Go.Proofs.Ytoaepfgfbfgcdaa.Q
namespace Go.Proofs.Ytoaepfgfbfgcdaa.Q
open Go.RowKit Go.Proofs.YtoaepfgfbfgcdaaW.PrintWords Go.Proofs.YtoaepfgfbfgcdaaW.PrintLast Go.Proofs.YtoaepfgfbfgcdaaW.PrintMore
attribute [local go_sem] max2_int min2_int max_two min_two max_three min_three max_four min_four
set_option linter.unusedVariables false
set_option linter.unusedSimpArgs false
set_option maxHeartbeats 2000000 in
set_option maxRecDepth 100000 in
theorem has_Elems (p : (List S28) → Bool) (g : Nat) (lb : Array Value) (A : Option Addr) (c : Nat) (l : List (List S28)) (w : World) (hr : Kd.C (Kd.slice 28 k28) w A l.length l)
  (eg : ∀ args w, (callFunc g args).run Try.prog w = .ok (.enter g args) w)
  (hp : ∀ (W : World) (x : (List S28)) (B0 : Option Addr) (d0 : Nat), Below w.heap.size w W → Kd.C k28 W B0 x.length x → x.length ≤ d0 → Calls Try.prog g (#[.slice B0 x.length d0] ++ lb) W fun e w' => e = .returned (.bool (p x)) ∧ Below w.heap.size w w') :
  Calls Try.prog 105 #[.slice A l.length c, .func (.func g) #[] lb] w fun e w' => e = .returned (.bool (l.any p)) ∧ Below w.heap.size w w' := by
 have HA := Aside0.mk (idxP_any p l 0 (by omega))
 have HC := Aside0.mk (idx_Elems p g lb A c l w hr eg hp)
 clear hr hp
 go_enter Try.func105, Try.ntmps105
 go_wp2_with fail
 refine HC.out.mono ?_
 rintro e w1 ⟨rfl, hb1⟩
 clear HC
 go_wp2
 go_ret
 exact ⟨by rw [← HA.out]; rfl, hb1⟩
end Go.Proofs.Ytoaepfgfbfgcdaa.Q
namespace Go.Proofs.Ytoaepfgfbfgcdaa.Q
open Go.RowKit Go.Proofs.YtoaepfgfbfgcdaaW.PrintWords Go.Proofs.YtoaepfgfbfgcdaaW.PrintLast Go.Proofs.YtoaepfgfbfgcdaaW.PrintMore
attribute [local go_sem] max2_int min2_int max_two min_two max_three min_three max_four min_four
set_option linter.unusedVariables false
set_option linter.unusedSimpArgs false
set_option maxHeartbeats 2000000 in
set_option maxRecDepth 100000 in
theorem idx_Elem (p : S28 → Bool) (g : Nat) (lb : Array Value) (A : Option Addr) (c : Nat) (l : List S28) (w : World) (hr : Kd.C k28 w A l.length l)
  (eg : ∀ args w, (callFunc g args).run Try.prog w = .ok (.enter g args) w)
  (hp : ∀ (W : World) (x : S28), Below w.heap.size w W → Calls Try.prog g (#[.agg #[.int .u64 x.f0, .int .u64 x.f1]] ++ lb) W fun e w' => e = .returned (.bool (p x)) ∧ Below w.heap.size w w') :
  Calls Try.prog 128 #[.slice A l.length c, .func (.func g) #[] lb] w fun e w' => e = .returned (.int .i64 (idxP p l 0)) ∧ Below w.heap.size w w' := by
 have HR := Aside0.mk hr
 have hm : l.length ≤ 9223372036854775807 := hr.2.1
 have HP := Aside0.mk hp
 have hu28 := Try.underlying28
 clear hr hp
 go_enter Try.func128, Try.ntmps128
 go_wp2
 go_loopg [5, 8] l.length (fun gg v5 v8 wr => ∃ x : Int, v8 = .int .i64 x ∧ 0 ≤ x ∧ x ≤ l.length ∧ l.length - x.toNat ≤ gg ∧ Aside0 (Below w.heap.size w wr) ∧ Aside0 (idxP p l 0 = idxP p (l.drop x.toNat) x))
 case atStart => exact ⟨0, rfl, by omega, by omega, by omega, ⟨Below.refl _ _⟩, ⟨rfl⟩⟩
 case round =>
  obtain ⟨x, rfl, h0, h1, hg, HB, HI⟩ := hrel
  by_cases hlt : x < (l.length : Int)
  ·obtain ⟨ad, e, hx0, hx1⟩ := at_T28 HR.out x h0 hlt
   cases e
   have hc0 := (HB.out.cell (World.block_lt_of_cell? w _ hx0)).trans hx0
   have hc1 := (HB.out.cell (World.block_lt_of_cell? w _ hx1)).trans hx1
   clear hx0 hx1
   have hcall := HP.out wr (rd_T28 l x) HB.out
   have HE := Aside0.mk (idxP_at p z28 l x h0 hlt)
   have p0 := eq_true h0
   have q0 := eq_true hlt
   cases hq : p (rd_T28 l x) with
   | true =>
    rw [hq] at hcall
    go_wp2_with fail
    refine hcall.mono ?_
    rintro e w' ⟨rfl, hb'⟩
    clear hcall
    go_wp2
    go_ret
    refine ⟨?_, hb'⟩
    rw [HI.out, HE.out, show l.getD x.toNat z28 = rd_T28 l x from rfl, hq]
    rfl
   | false =>
    rw [hq] at hcall
    go_wp2_with fail
    refine hcall.mono ?_
    rintro e w' ⟨rfl, hb'⟩
    clear hcall
    go_wp2
    go_roundg (l.length - (x + 1).toNat)
    case measure => omega
    case rel =>
     refine ⟨x + 1, by first | rfl | (simp; done), by omega, by omega, by omega, ⟨hb'⟩, ⟨?_⟩⟩
     rw [HI.out, HE.out, show l.getD x.toNat z28 = rd_T28 l x from rfl, hq]
     rfl
  ·have HE := Aside0.mk (idxP_end p l x hlt)
   go_wp2
   go_ret
   exact ⟨by rw [HI.out, HE.out]; rfl, HB.out⟩
end Go.Proofs.Ytoaepfgfbfgcdaa.Q
namespace Go.Proofs.Ytoaepfgfbfgcdaa.Q
open Go.RowKit Go.Proofs.YtoaepfgfbfgcdaaW.PrintWords Go.Proofs.YtoaepfgfbfgcdaaW.PrintLast Go.Proofs.YtoaepfgfbfgcdaaW.PrintMore
attribute [local go_sem] max2_int min2_int max_two min_two max_three min_three max_four min_four
set_option linter.unusedVariables false
set_option linter.unusedSimpArgs false
set_option maxHeartbeats 2000000 in
set_option maxRecDepth 100000 in
theorem has_Elem (p : S28 → Bool) (g : Nat) (lb : Array Value) (A : Option Addr) (c : Nat) (l : List S28) (w : World) (hr : Kd.C k28 w A l.length l)
  (eg : ∀ args w, (callFunc g args).run Try.prog w = .ok (.enter g args) w)
  (hp : ∀ (W : World) (x : S28), Below w.heap.size w W → Calls Try.prog g (#[.agg #[.int .u64 x.f0, .int .u64 x.f1]] ++ lb) W fun e w' => e = .returned (.bool (p x)) ∧ Below w.heap.size w w') :
  Calls Try.prog 79 #[.slice A l.length c, .func (.func g) #[] lb] w fun e w' => e = .returned (.bool (l.any p)) ∧ Below w.heap.size w w' := by
 have HA := Aside0.mk (idxP_any p l 0 (by omega))
 have HC := Aside0.mk (idx_Elem p g lb A c l w hr eg hp)
 clear hr hp
 go_enter Try.func79, Try.ntmps79
 go_wp2_with fail
 refine HC.out.mono ?_
 rintro e w1 ⟨rfl, hb1⟩
 clear HC
 go_wp2
 go_ret
 exact ⟨by rw [← HA.out]; rfl, hb1⟩
end Go.Proofs.Ytoaepfgfbfgcdaa.Q
namespace Go.Proofs.Ytoaepfgfbfgcdaa.Q
open Go.RowKit Go.Proofs.YtoaepfgfbfgcdaaW.PrintWords Go.Proofs.YtoaepfgfbfgcdaaW.PrintLast Go.Proofs.YtoaepfgfbfgcdaaW.PrintMore
attribute [local go_sem] max2_int min2_int max_two min_two max_three min_three max_four min_four
set_option linter.unusedVariables false
set_option linter.unusedSimpArgs false
set_option maxHeartbeats 2000000 in
set_option maxRecDepth 100000 in
theorem sumcheck_of.lit (a0 h l : Int) (B : Nat) (w : World) (hB : B < w.heap.size) (hc : w.cell? ⟨B, 0, none⟩ = some (.int .i64 a0)) :
  Calls Try.prog 146 #[.agg #[.int .u64 h, .int .u64 l], .pointer (some ⟨B, 0, none⟩)] w fun e w' => e = .returned (.bool (!ofB a0 h l)) ∧ Below w.heap.size w w' := by
 have hu28 := Try.underlying28
 go_enter Try.func146, Try.ntmps146
 go_wp2_with fail
 refine (octet_Of.calls a0 h l _ _ rfl).mono ?_
 rintro e w1 ⟨rfl, hb1⟩
 go_wp2
 go_ret
 exact ⟨rfl, ((Below.refl _ _).alloc (Nat.le_refl _) _).trans (hb1.mono (by simp))⟩
def sumcheck_of.f (a0 : Int) (l1 : List (S28)) : Option (Bool) := some (!(l1.any fun x => !ofB a0 x.f0 x.f1))
set_option maxHeartbeats 8000000 in
set_option maxRecDepth 100000 in
theorem sumcheck_of.calls (a0 : Int) (A1 : Option Addr) (c1 : Nat) (l1 : List (S28)) (r : Bool) (w : World) (hr1 : Kd.C k28 w A1 l1.length l1) (hc1 : l1.length ≤ c1) (h : sumcheck_of.f a0 l1 = some r) :
  Calls Try.prog 107 #[.int .i64 a0, .slice A1 l1.length c1] w fun e w' => e = .returned (.bool r) ∧ Below w.heap.size w w' := by
 obtain rfl := Option.some.inj h
 clear h
 have HC := Aside0.mk (has_Elem (fun x => !ofB a0 x.f0 x.f1) 146 #[.pointer (some ⟨w.heap.size, 0, none⟩)] A1 c1 l1 (w.alloc (.cells #[.int .i64 a0] 3)) (Kd.C_below hr1 ((Below.refl _ _).alloc (Nat.le_refl _) _)) (fun args w => by kernel_rfl)
  (fun W x hb => (sumcheck_of.lit a0 x.f0 x.f1 w.heap.size W (by have := hb.size; simp at this; omega) ((hb.cell (p := ⟨w.heap.size, 0, none⟩) (by simp)).trans (by simp [go_sem]))).mono fun e w' ⟨he, hb'⟩ => ⟨he, hb.trans (hb'.mono hb.size)⟩))
 clear hr1
 go_enter Try.func107, Try.ntmps107
 go_wp2_with fail
 refine HC.out.mono ?_
 rintro e w1 ⟨rfl, hb1⟩
 clear HC
 go_wp2
 go_ret
 exact ⟨rfl, ((Below.refl _ _).alloc (Nat.le_refl _) _).trans (hb1.mono (by simp))⟩
end Go.Proofs.Ytoaepfgfbfgcdaa.Q
namespace Go.Proofs.Ytoaepfgfbfgcdaa.Q
open Go.RowKit Go.Proofs.YtoaepfgfbfgcdaaW.PrintWords Go.Proofs.YtoaepfgfbfgcdaaW.PrintLast Go.Proofs.YtoaepfgfbfgcdaaW.PrintMore
attribute [local go_sem] max2_int min2_int max_two min_two max_three min_three max_four min_four
set_option linter.unusedVariables false
set_option linter.unusedSimpArgs false
set_option maxHeartbeats 2000000 in
set_option maxRecDepth 100000 in
theorem sumcheck_Check.lit (a0 : Int) (B0 : Option Addr) (d0 : Nat) (x : List S28) (B : Nat) (w : World) (hB : B < w.heap.size) (hx : Kd.C k28 w B0 x.length x) (hd : x.length ≤ d0) (hc : w.cell? ⟨B, 0, none⟩ = some (.int .i64 a0)) :
  Calls Try.prog 106 #[.slice B0 x.length d0, .pointer (some ⟨B, 0, none⟩)] w fun e w' => e = .returned (.bool (x.any fun y => !ofB a0 y.f0 y.f1)) ∧ Below w.heap.size w w' := by
 have HC := Aside0.mk (sumcheck_of.calls a0 B0 d0 x _ w hx hd rfl)
 clear hx hd
 go_enter Try.func106, Try.ntmps106
 go_wp2_with fail
 refine HC.out.mono ?_
 rintro e w1 ⟨rfl, hb1⟩
 clear HC
 go_wp2
 go_ret
 exact ⟨by simp, hb1⟩
def sumcheck_Check.f (k : Nat) (a0 : Int) (l1 : List (S149)) (l2 : List (List (S28))) : Option (Int) := (expr_Check.f k a0 (l2.length : Int) l1).bind fun e => if e = 0 then (if (l2.length : Int) = 0 then some 6 else (sumcheck_degree.f k l1).bind fun d => (line_Fits.f k a0 d).bind fun b => if b = true then (cube_Log.f k ((rdR l2 0).length : Int)).bind fun n => (if n < 0 then some 6 else if 12 < n then some 6 else some (if l2.any (fun t => (t.length : Int) != shl .i64 1 n) then 6 else if l2.any (fun t => t.any fun y => !ofB a0 y.f0 y.f1) then 5 else 0)) else some 6) else some e
set_option maxHeartbeats 8000000 in
set_option maxRecDepth 100000 in
theorem sumcheck_Check.calls (k : Nat) (a0 : Int) (A1 : Option Addr) (c1 : Nat) (l1 : List (S149)) (A2 : Option Addr) (c2 : Nat) (l2 : List (List (S28))) (r : Int) (w : World) (hr1 : Kd.C k149 w A1 l1.length l1) (hc1 : l1.length ≤ c1) (hr2 : Kd.C (Kd.slice 28 k28) w A2 l2.length l2) (hc2 : l2.length ≤ c2) (h : sumcheck_Check.f k a0 l1 l2 = some r) :
  Calls Try.prog 51 #[.int .i64 a0, .slice A1 l1.length c1, .slice A2 l2.length c2] w fun e w' => e = .returned (.int .i64 r) ∧ Below w.heap.size w w' := by
 unfold sumcheck_Check.f at h
 have hm : l2.length ≤ 9223372036854775807 := hr2.2.1
 obtain ⟨e, he, h⟩ := Option.bind_eq_some_iff.mp h
 obtain ⟨W, hW⟩ : ∃ W, W = w.alloc (.cells #[.int .i64 a0] 3) := ⟨_, rfl⟩
 have hB : Below w.heap.size w W := by rw [hW]; exact (Below.refl _ _).alloc (Nat.le_refl _) _
 have hs : w.heap.size < W.heap.size := by rw [hW]; simp
 have hc : W.cell? ⟨w.heap.size, 0, none⟩ = some (.int .i64 a0) := by rw [hW]; simp [go_sem]
 have HW := Aside0.mk hW
 have HB := Aside0.mk hB
 have HS := Aside0.mk hs
 have HC := Aside0.mk hc
 have H1 := Aside0.mk (Kd.C_below hr1 hB)
 have H2 := Aside0.mk (Kd.C_below hr2 hB)
 have HK1 := Aside0.mk hc1
 have HK2 := Aside0.mk hc2
 have HE := Aside0.mk (expr_Check.calls k a0 (l2.length : Int) A1 c1 l1 e W H1.out hc1 he)
 clear hW hB hs hr1 hr2 he hc1 hc2
 by_cases he1 : ¬ e = 0
 ·have he0 := he1
  clear he1
  rw [if_neg he0] at h
  obtain rfl := Option.some.inj h
  have hb1 : (e != 0) = true := bne_iff_ne.mpr he0
  clear h he0
  go_enter Try.func51, Try.ntmps51
  go_wp2_with fail
  rw [← HW.out]
  clear HW
  go_wp2_with fail
  refine HE.out.mono ?_
  rintro e1 w1 ⟨rfl, hbb⟩
  clear HE
  go_wp2
  go_ret
  exact ⟨rfl, HB.out.trans (hbb.mono HB.out.size)⟩
 obtain rfl : e = 0 := Decidable.byContradiction he1
 clear he1
 rw [if_pos rfl] at h
 by_cases hl : (l2.length : Int) = 0
 ·rw [if_pos hl] at h
  obtain rfl := Option.some.inj h
  have hl0 : ((l2.length : Int) == 0) = true := beq_iff_eq.mpr hl
  have hl1 : l2 = [] := List.eq_nil_of_length_eq_zero (by omega)
  clear h hl
  subst hl1
  go_enter Try.func51, Try.ntmps51
  go_wp2_with fail
  rw [← HW.out]
  clear HW
  go_wp2_with fail
  refine HE.out.mono ?_
  rintro e1 w1 ⟨rfl, hbb⟩
  clear HE
  have hc' := (hbb.cell (p := ⟨w.heap.size, 0, none⟩) HS.out).trans HC.out
  go_wp2
  go_quiet (fail)
  go_wp2
  go_ret
  exact ⟨rfl, pw_below_drewN (HB.out.trans (hbb.mono HB.out.size)) _⟩
 rw [if_neg hl] at h
 obtain ⟨d, hd, h⟩ := Option.bind_eq_some_iff.mp h
 obtain ⟨b, hb, h⟩ := Option.bind_eq_some_iff.mp h
 have hl0 : ((l2.length : Int) == 0) = false := beq_eq_false_iff_ne.mpr hl
 have hl1 : 0 < l2.length := by omega
 have HL := Aside0.mk hl1
 clear hl hl1
 have HD := Aside0.mk (fun W1 (hb1 : Below W.heap.size W W1) => sumcheck_degree.calls k A1 c1 l1 d W1 (Kd.C_below H1.out hb1) HK1.out hd)
 have HF := Aside0.mk (fun W1 => line_Fits.calls k a0 d b W1 hb)
 clear hd hb
 go_enter Try.func51, Try.ntmps51
 go_wp2_with fail
 rw [← HW.out]
 clear HW
 go_wp2_with fail
 refine HE.out.mono ?_
 rintro e1 w1 ⟨rfl, hbb⟩
 clear HE
 have hc' := (hbb.cell (p := ⟨w.heap.size, 0, none⟩) HS.out).trans HC.out
 have HB1 := Aside0.mk hbb
 have hs1 : w.heap.size < w1.heap.size := Nat.lt_of_lt_of_le HS.out hbb.size
 clear hbb
 go_wp2
 go_region_held3 (fun w' => w'.cell? ⟨w.heap.size, 0, none⟩ = some (.int .i64 a0)) (first | go_keep | (exact (hbd.cell (p := ⟨w.heap.size, 0, none⟩) (by first | exact hs1 | exact hs2)).trans (by assumption)))
  (first
   | ((go_at_call 104; refine (HD.out _ ?_).mono ?_; exact below_drew HB1.out; rintro e2 w2 ⟨rfl, hbd⟩; have HB2 := Aside0.mk hbd; have hs2 : w.heap.size < w2.heap.size := Nat.lt_of_lt_of_le hs1 hbd.size))
   | ((go_at_call 103; refine (HF.out _).mono ?_; rintro e3 w3 ⟨rfl, hbd⟩; have HB3 := Aside0.mk hbd)))
 have hc3 : w3.cell? ⟨w.heap.size, 0, none⟩ = some (.int .i64 a0) := by assumption
 have HB4 := Aside0.mk (below_step (below_step (below_drew HB1.out) HB2.out) HB3.out)
 have HB5 := Aside0.mk (below_step HB.out HB4.out)
 have HC3 := Aside0.mk hc3
 clear HD HF HB1 HB2 HB3 hs1 hs2 hbd hc' hc
 try clear hc3
 cases b with
 | false =>
  rw [if_neg (by simp)] at h
  obtain rfl := Option.some.inj h
  clear h
  go_wp2
  go_ret
  exact ⟨rfl, HB5.out⟩
 | true =>
  rw [if_pos rfl] at h
  obtain ⟨n, hn, h⟩ := Option.bind_eq_some_iff.mp h
  obtain ⟨ad, A0, c0, e, hx0, hlc, _⟩ := at_rows (Kd.C_below H2.out HB4.out) 0 (by omega) (by have := HL.out; omega)
  cases e
  have q0 : (0 : Int) < (l2.length : Int) := by have := HL.out; omega
  have q1 := eq_true q0
  have HN := Aside0.mk (fun W1 => cube_Log.calls k ((rdR l2 0).length : Int) n W1 hn)
  clear hn
  have hx1 : w3.cell? ad = some (.slice A0 (rdR l2 0).length c0) := hx0
  clear hx0
  go_wp2_with fail
  refine (HN.out _).mono ?_
  rintro e4 w4 ⟨rfl, hd4⟩
  clear HN hx1
  have HB6 := Aside0.mk (below_step HB4.out hd4.below)
  have HB7 := Aside0.mk (below_step HB5.out hd4.below)
  have HC4 := Aside0.mk ((hd4.below.cell (p := ⟨w.heap.size, 0, none⟩) (Nat.lt_of_lt_of_le HS.out HB4.out.size)).trans HC3.out)
  clear hd4
  by_cases hn0 : n < 0
  ·rw [if_pos hn0] at h
   obtain rfl := Option.some.inj h
   clear h
   go_wp2
   go_ret
   exact ⟨rfl, HB7.out⟩
  rw [if_neg hn0] at h
  by_cases hn1 : 12 < n
  ·rw [if_pos hn1] at h
   obtain rfl := Option.some.inj h
   clear h
   go_wp2
   go_ret
   exact ⟨rfl, HB7.out⟩
  rw [if_neg hn1] at h
  obtain ⟨j, hj⟩ : ∃ j : Int, shl .i64 1 n = j := ⟨_, rfl⟩
  have hj1 : wrap64 (1 * 2 ^ min n.toNat 64) = j := (i64_w _).symm.trans hj
  have hj2 : wrap64 (2 ^ min n.toNat 64) = j := by have h_ := hj1; rw [Int.one_mul] at h_; exact h_
  have hj3 : n ≤ 64 → wrap64 (1 * 2 ^ n.toNat) = j := fun h_ => (i64_w _).symm.trans (shl_small hj h_)
  have hj4 : n ≤ 64 → wrap64 (2 ^ n.toNat) = j := fun h_ => by have h1 := hj3 h_; rw [Int.one_mul] at h1; exact h1
  have hj5 : wrap64 (2 ^ n.toNat) = j := hj4 (by omega)
  rw [hj] at h
  obtain ⟨p1, hp1⟩ : ∃ p1 : List S28 → Bool, p1 = fun c => (c.length : Int) != j := ⟨_, rfl⟩
  obtain ⟨p2, hp2⟩ : ∃ p2 : List S28 → Bool, p2 = fun c => c.any fun y => !ofB a0 y.f0 y.f1 := ⟨_, rfl⟩
  rw [← hp1, ← hp2] at h
  have HRR := Aside0.mk (Option.some.inj h).symm
  have HP1 := Aside0.mk hp1
  have HP2 := Aside0.mk hp2
  clear hp1 hp2 h hj
  have hn2 : 0 ≤ n := by omega
  have hn3 : n ≤ 12 := by omega
  have hn4 := eq_true hn2
  clear hn0 hn1
  go_wp2
  go_loopg [42] l2.length (fun gg v17 wr => ∃ x : Int, v17 = .int .i64 x ∧ 0 ≤ x ∧ x ≤ l2.length ∧ l2.length - x.toNat ≤ gg ∧ w4 = wr ∧ Aside0 (l2.any p1 = (l2.drop x.toNat).any p1))
  case atStart => exact ⟨0, rfl, by omega, by omega, by omega, rfl, ⟨rfl⟩⟩
  case round =>
   obtain ⟨x, rfl, h0, h1, hg, rfl, HI⟩ := hrel
   by_cases hlt : x < (l2.length : Int)
   ·obtain ⟨ad2, A0, c0, e, hx0, hl0, _⟩ := at_rows (Kd.C_below H2.out HB6.out) x h0 hlt
    cases e
    have HE := Aside0.mk (any_at p1 [] l2 x h0 hlt)
    have p0 := eq_true h0
    have q0 := eq_true hlt
    obtain ⟨col, hcol⟩ : ∃ col, rdR l2 x = col := ⟨_, rfl⟩
    rw [show l2.getD x.toNat [] = col from hcol] at HE
    rw [hcol] at hx0 hl0
    clear hcol
    by_cases hq : ((col.length : Int) != j) = true
    ·go_wp2
     go_ret
     have e1 : l2.any p1 = true := by rw [HI.out, HE.out, HP1.out]; simp only [hq, Bool.true_or]
     exact ⟨by rw [HRR.out, e1]; rfl, HB7.out⟩
    ·have hq' : ((col.length : Int) != j) = false := by simpa using hq
     clear hq
     go_wp2
     go_roundg (l2.length - (x + 1).toNat)
     case measure => omega
     case rel => exact ⟨x + 1, by first | rfl | (simp; done), by omega, by omega, by omega, rfl, ⟨by rw [HI.out, HE.out, HP1.out]; simp only [hq', Bool.false_or]⟩⟩
   ·have HE := Aside0.mk (HI.out.trans (any_end p1 l2 x hlt))
    clear HI
    have HX := Aside0.mk (has_Elems p2 106 #[.pointer (some ⟨w.heap.size, 0, none⟩)] _ c2 l2 w4 (Kd.C_below H2.out HB6.out) (fun args w => by kernel_rfl)
     (fun W' y B0 d0 hb hC hd => by
      have e2 : p2 y = y.any fun z => !ofB a0 z.f0 z.f1 := by rw [HP2.out]
      rw [e2]
      exact (sumcheck_Check.lit a0 B0 d0 y w.heap.size W' (Nat.lt_of_lt_of_le (Nat.lt_of_lt_of_le HS.out HB6.out.size) hb.size) hC hd ((hb.cell (p := ⟨w.heap.size, 0, none⟩) (Nat.lt_of_lt_of_le HS.out HB6.out.size)).trans HC4.out)).mono fun e w' ⟨he, hb'⟩ => ⟨he, hb.trans (hb'.mono hb.size)⟩))
    go_wp2_with fail
    refine HX.out.mono ?_
    rintro e5 w5 ⟨rfl, hb5⟩
    clear HX
    have HB8 := Aside0.mk (below_step HB7.out hb5)
    clear hb5
    cases hq : l2.any p2 with
    | true =>
     go_wp2
     go_ret
     exact ⟨by rw [HRR.out, HE.out, hq]; rfl, HB8.out⟩
    | false =>
     go_wp2
     go_ret
     exact ⟨by rw [HRR.out, HE.out, hq]; rfl, HB8.out⟩
end Go.Proofs.Ytoaepfgfbfgcdaa.Q
namespace Go.Proofs.Ytoaepfgfbfgcdaa.Q
open Go.RowKit Go.Proofs.YtoaepfgfbfgcdaaW.PrintWords Go.Proofs.YtoaepfgfbfgcdaaW.PrintLast Go.Proofs.YtoaepfgfbfgcdaaW.PrintMore
attribute [local go_sem] max2_int min2_int max_two min_two max_three min_three max_four min_four
set_option linter.unusedVariables false
set_option linter.unusedSimpArgs false
def zero_many.f (l0 : List (List (S149))) : Option (Int) := if (l0.length : Int) = 0 then (some 1) else (if (l0.length : Int) > 40 then (some 2) else (some 0))
set_option maxHeartbeats 8000000 in
set_option maxRecDepth 100000 in
theorem zero_many.calls (A0 : Option Addr) (c0 : Nat) (l0 : List (List (S149))) (r : Int) (w : World) (hr0 : Kd.C (Kd.slice 149 k149) w A0 l0.length l0) (hc0 : l0.length ≤ c0) (h : zero_many.f l0 = some r) :
  Calls Try.prog 90 #[.slice A0 l0.length c0] w fun e w' => e = .returned (.int .i64 r) ∧ Drawn0 w w' := by
 have HR0 := Aside0.mk hr0
 have HC0 := Aside0.mk hc0
 clear hr0 hc0
 have H : (if (l0.length : Int) = 0 then (some 1) else (if (l0.length : Int) > 40 then (some 2) else (some 0))) = some r := h
 clear h
 by_cases c2 : (l0.length : Int) = 0
 ·rw [if_pos c2] at H
  have c2b0 : ((l0.length : Int) == 0) = true := beq_iff_eq.mpr c2
  have c2b1 : ((l0.length : Int) != 0) = false := bne_eq_false_iff_eq.mpr c2
  clear c2
  obtain rfl := Option.some.inj H
  go_enter Try.func90, Try.ntmps90
  go_wp2
  go_ret
  exact ⟨by first | rfl | (simp; done) | (simp [*]; done), by repeat (first | exact Drawn0.refl _ | apply Drawn0.step)⟩
 ·rw [if_neg c2] at H
  have c2b0 : ((l0.length : Int) == 0) = false := beq_eq_false_iff_ne.mpr c2
  have c2b1 : ((l0.length : Int) != 0) = true := bne_iff_ne.mpr c2
  have c2b2 : ¬ (l0 = []) := fun h_ => c2 (by rw [h_]; rfl)
  by_cases c3 : (l0.length : Int) > 40
  ·rw [if_pos c3] at H
   have c3b0 : decide (40 < (l0.length : Int)) = true := decide_eq_true c3
   have c3b1 : decide (40 < l0.length) = true := decide_eq_true (by omega)
   clear c3
   obtain rfl := Option.some.inj H
   go_enter Try.func90, Try.ntmps90
   go_wp2
   go_ret
   exact ⟨by first | rfl | (simp; done) | (simp [*]; done), by repeat (first | exact Drawn0.refl _ | apply Drawn0.step)⟩
  ·rw [if_neg c3] at H
   have c3b0 : decide (40 < (l0.length : Int)) = false := decide_eq_false c3
   have c3b1 : decide (40 < l0.length) = false := decide_eq_false (by omega)
   clear c3
   obtain rfl := Option.some.inj H
   go_enter Try.func90, Try.ntmps90
   go_wp2
   go_ret
   exact ⟨by first | rfl | (simp; done) | (simp [*]; done), by repeat (first | exact Drawn0.refl _ | apply Drawn0.step)⟩
def zero_ask.l0 : Nat → Int → List (List (S28)) → List (List (S149)) → Int → Int → Option (Int)
 | 0, _, _, _, _, _ => none
 | k + 1, x0, x2, x16, x17, x18 => if x18 < x17 then (if 0 ≤ x18 then (if x18 < (x16.length : Int) then ((sumcheck_Check.f k x0 (rd_L13 x16 x18) x2).bind fun t404 => (if t404 = 0 then (zero_ask.l0 k x0 x2 x16 x17 (wrap64 (x18 + 1))) else (some t404))) else (none)) else (none)) else (some 0)
def zero_ask.f (k : Nat) (a0 : Int) (l1 : List (List (S149))) (l2 : List (List (S28))) : Option (Int) := (zero_many.f l1).bind fun t402 => (if t402 = 0 then (zero_ask.l0 k a0 l2 l1 (l1.length : Int) 0) else (some t402))
set_option maxHeartbeats 8000000 in
set_option maxRecDepth 100000 in
theorem zero_ask.calls (k : Nat) (a0 : Int) (A1 : Option Addr) (c1 : Nat) (l1 : List (List (S149))) (A2 : Option Addr) (c2 : Nat) (l2 : List (List (S28))) (r : Int) (w : World) (hr1 : Kd.C (Kd.slice 149 k149) w A1 l1.length l1) (hc1 : l1.length ≤ c1) (hr2 : Kd.C (Kd.slice 28 k28) w A2 l2.length l2) (hc2 : l2.length ≤ c2) (h : zero_ask.f k a0 l1 l2 = some r) :
  Calls Try.prog 77 #[.int .i64 a0, .slice A1 l1.length c1, .slice A2 l2.length c2] w fun e w' => e = .returned (.int .i64 r) ∧ Below w.heap.size w w' := by
 have HR1 := Aside0.mk hr1
 have HC1 := Aside0.mk hc1
 clear hr1 hc1
 have HR2 := Aside0.mk hr2
 have HC2 := Aside0.mk hc2
 clear hr2 hc2
 have HB := Aside0.mk (Below.refl w.heap.size w)
 have H : ((zero_many.f l1).bind fun t402 => (if t402 = 0 then (zero_ask.l0 k a0 l2 l1 (l1.length : Int) 0) else (some t402))) = some r := h
 clear h
 replace H := Option.bind_eq_some_iff.mp H
 obtain ⟨t402, A40, H⟩ := H
 replace H : (if t402 = 0 then (zero_ask.l0 k a0 l2 l1 (l1.length : Int) 0) else (some t402)) = some r := H
 have A4 := Aside0.mk A40
 clear A40
 by_cases c5 : t402 = 0
 ·rw [if_pos c5] at H
  have c5b0 : (t402 == 0) = true := beq_iff_eq.mpr c5
  have c5b1 : (t402 != 0) = false := bne_eq_false_iff_eq.mpr c5
  clear c5
  have H' := Aside0.mk H
  clear H
  go_enter Try.func77, Try.ntmps77
  go_wp2_with (first | ((with_reducible refine gate_callee (f := 90) rfl ?_); refine goesL_ (some 12) rfl rfl Try.func90 (by kernel_rfl) rfl #[.slice A1 l1.length c1] rfl (by (try simp only [List.map_toArray, List.map_cons, List.map_nil]); first | done | rfl | (simp only [List.length_drop, List.length_take]; rfl)) ?_; (with_reducible refine (zero_many.calls _ _ l1 t402 _ ?side1 ?side2 A4.out).mono ?_); (case side1 => repeat (first | exact HR1.out | (with_reducible refine Kd.C_alloc ?_ _) | (with_reducible refine Kd.C_drewN ?_ _) | (with_reducible refine Kd.C_drew ?_))); (case side2 => exact HC1.out); rintro e w' ⟨rfl, ⟨nd, rfl⟩⟩; refine ⟨_, rfl, ?_⟩))
  go_loopg [18] k (fun kq v18 w' => ∃ (x18_1 : Int), v18 = .int .i64 x18_1 ∧ Aside0 (zero_ask.l0 kq a0 l2 l1 (l1.length : Int) x18_1 = some r) ∧ Aside0 (kq ≤ k) ∧ Aside0 (Below w.heap.size w w'))
  case atStart => exact ⟨(0), (by first | rfl | (simp; done) | (simp [*]; done)), H', ⟨Nat.le_refl _⟩, ⟨by repeat (first | (with_reducible first | exact HB.out | apply bA | apply bN | apply bD) | exact HB.out)⟩⟩
  case round =>
   clear H'
   try clear c1
   try clear c2
   try clear p2
   try clear c5
   try clear c5b0
   try clear c5b1
   obtain ⟨x18_1, rfl, HA, HK1, HB⟩ := hrel
   cases gk with
   | zero => exact absurd HA.out (by simp [zero_ask.l0])
   | succ k1 =>
    have H := HA.out
    clear HA
    simp only [zero_ask.l0] at H
    by_cases c6 : x18_1 < (l1.length : Int)
    ·rw [if_pos c6] at H
     have c6b0 : decide (x18_1 < (l1.length : Int)) = true := decide_eq_true c6
     clear c6
     by_cases c7 : 0 ≤ x18_1
     ·rw [if_pos c7] at H
      have c7b0 : decide (0 ≤ x18_1) = true := decide_eq_true c7
      clear c7
      by_cases c8 : x18_1 < (l1.length : Int)
      ·rw [if_pos c8] at H
       have c8b0 : decide (x18_1 < (l1.length : Int)) = true := decide_eq_true c8
       clear c8
       replace H := Option.bind_eq_some_iff.mp H
       obtain ⟨t404, A90, H⟩ := H
       replace H : (if t404 = 0 then (zero_ask.l0 k1 a0 l2 l1 (l1.length : Int) (wrap64 (x18_1 + 1))) else (some t404)) = some r := H
       have A9 := Aside0.mk A90
       clear A90
       by_cases c10 : t404 = 0
       ·rw [if_pos c10] at H
        have c10b0 : (t404 == 0) = true := beq_iff_eq.mpr c10
        have c10b1 : (t404 != 0) = false := bne_eq_false_iff_eq.mpr c10
        clear c10
        have H' := Aside0.mk H
        clear H
        have p403 : 0 ≤ (x18_1 : Int) := of_decide_eq_true (by first | (with_reducible assumption) | assumption)
        have q403 : x18_1 < (l1.length : Int) := of_decide_eq_true (by first | (with_reducible assumption) | assumption)
        obtain ⟨ad403, A403_0, c403_0, e403, hx403_0, hl403_0, hi403_0⟩ := at_L13 HR1.out x18_1 p403 q403
        cases e403
        replace hx403_0 := (HB.out.cell (World.block_lt_of_cell? w _ hx403_0)).trans hx403_0
        have HR403_0 := Aside0.mk hi403_0
        have HC403_0 := Aside0.mk hl403_0
        clear hi403_0 hl403_0
        replace p403 := eq_true p403
        replace q403 := eq_true q403
        go_wp2_with (first | ((with_reducible refine gate_callee (f := 51) rfl ?_); refine goesL_ (some 25) rfl rfl Try.func51 (by kernel_rfl) rfl #[.int .i64 a0, .slice A403_0 (rd_L13 l1 x18_1).length c403_0, .slice A2 l2.length c2] rfl (by (try simp only [List.map_toArray, List.map_cons, List.map_nil]); first | done | rfl | (simp only [List.length_drop, List.length_take]; rfl)) ?_; (with_reducible refine (sumcheck_Check.calls k1 a0 _ _ (rd_L13 l1 x18_1) _ _ l2 t404 _ ?side1 ?side2 ?side3 ?side4 A9.out).mono ?_); (case side1 => repeat (first | exact (Kd.C_below HR403_0.out HB.out) | (with_reducible refine Kd.C_alloc ?_ _) | (with_reducible refine Kd.C_drewN ?_ _) | (with_reducible refine Kd.C_drew ?_))); (case side2 => exact HC403_0.out); (case side3 => repeat (first | exact (Kd.C_below HR2.out HB.out) | (with_reducible refine Kd.C_alloc ?_ _) | (with_reducible refine Kd.C_drewN ?_ _) | (with_reducible refine Kd.C_drew ?_))); (case side4 => exact HC2.out); rintro e w11 ⟨rfl, hb⟩; refine ⟨_, rfl, ?_⟩; have n0_ := Aside0.mk (below_step (by exact lF HB.out) hb); clear HB; have HB := n0_; clear n0_; (try clear hb); (try clear hb2); (try clear hk); (try clear hi)))
        go_roundg k1
        case measure => have := HK1.out; omega
        case rel => exact ⟨(wrap64 (x18_1 + 1)), (by first | rfl | (simp; done) | (simp [*]; done)), H', ⟨by have := HK1.out; omega⟩, ⟨by repeat (first | (with_reducible first | exact HB.out | apply bA | apply bN | apply bD) | exact HB.out)⟩⟩
       ·rw [if_neg c10] at H
        have c10b0 : (t404 == 0) = false := beq_eq_false_iff_ne.mpr c10
        have c10b1 : (t404 != 0) = true := bne_iff_ne.mpr c10
        obtain rfl := Option.some.inj H
        have p403 : 0 ≤ (x18_1 : Int) := of_decide_eq_true (by first | (with_reducible assumption) | assumption)
        have q403 : x18_1 < (l1.length : Int) := of_decide_eq_true (by first | (with_reducible assumption) | assumption)
        obtain ⟨ad403, A403_0, c403_0, e403, hx403_0, hl403_0, hi403_0⟩ := at_L13 HR1.out x18_1 p403 q403
        cases e403
        replace hx403_0 := (HB.out.cell (World.block_lt_of_cell? w _ hx403_0)).trans hx403_0
        have HR403_0 := Aside0.mk hi403_0
        have HC403_0 := Aside0.mk hl403_0
        clear hi403_0 hl403_0
        replace p403 := eq_true p403
        replace q403 := eq_true q403
        go_wp2_with (first | ((with_reducible refine gate_callee (f := 51) rfl ?_); refine goesL_ (some 25) rfl rfl Try.func51 (by kernel_rfl) rfl #[.int .i64 a0, .slice A403_0 (rd_L13 l1 x18_1).length c403_0, .slice A2 l2.length c2] rfl (by (try simp only [List.map_toArray, List.map_cons, List.map_nil]); first | done | rfl | (simp only [List.length_drop, List.length_take]; rfl)) ?_; (with_reducible refine (sumcheck_Check.calls k1 a0 _ _ (rd_L13 l1 x18_1) _ _ l2 t404 _ ?side1 ?side2 ?side3 ?side4 A9.out).mono ?_); (case side1 => repeat (first | exact (Kd.C_below HR403_0.out HB.out) | (with_reducible refine Kd.C_alloc ?_ _) | (with_reducible refine Kd.C_drewN ?_ _) | (with_reducible refine Kd.C_drew ?_))); (case side2 => exact HC403_0.out); (case side3 => repeat (first | exact (Kd.C_below HR2.out HB.out) | (with_reducible refine Kd.C_alloc ?_ _) | (with_reducible refine Kd.C_drewN ?_ _) | (with_reducible refine Kd.C_drew ?_))); (case side4 => exact HC2.out); rintro e w12 ⟨rfl, hb⟩; refine ⟨_, rfl, ?_⟩; have n0_ := Aside0.mk (below_step (by exact lF HB.out) hb); clear HB; have HB := n0_; clear n0_; (try clear hb); (try clear hb2); (try clear hk); (try clear hi)))
        go_ret
        exact ⟨by first | rfl | (simp [errW_none, errW_some] <;> rfl) | (simp [*, errW_none, errW_some] <;> rfl), by repeat (first | (with_reducible first | exact HB.out | apply bA | apply bN | apply bD) | exact HB.out)⟩
      ·rw [if_neg c8] at H
       exact absurd H (by simp)
     ·rw [if_neg c7] at H
      exact absurd H (by simp)
    ·rw [if_neg c6] at H
     have c6b0 : decide (x18_1 < (l1.length : Int)) = false := decide_eq_false c6
     clear c6
     obtain rfl := Option.some.inj H
     go_wp2
     go_ret
     exact ⟨by first | rfl | (simp [errW_none, errW_some] <;> rfl) | (simp [*, errW_none, errW_some] <;> rfl), by repeat (first | (with_reducible first | exact HB.out | apply bA | apply bN | apply bD) | exact HB.out)⟩
 ·rw [if_neg c5] at H
  have c5b0 : (t402 == 0) = false := beq_eq_false_iff_ne.mpr c5
  have c5b1 : (t402 != 0) = true := bne_iff_ne.mpr c5
  obtain rfl := Option.some.inj H
  go_enter Try.func77, Try.ntmps77
  go_wp2_with (first | ((with_reducible refine gate_callee (f := 90) rfl ?_); refine goesL_ (some 12) rfl rfl Try.func90 (by kernel_rfl) rfl #[.slice A1 l1.length c1] rfl (by (try simp only [List.map_toArray, List.map_cons, List.map_nil]); first | done | rfl | (simp only [List.length_drop, List.length_take]; rfl)) ?_; (with_reducible refine (zero_many.calls _ _ l1 t402 _ ?side1 ?side2 A4.out).mono ?_); (case side1 => repeat (first | exact HR1.out | (with_reducible refine Kd.C_alloc ?_ _) | (with_reducible refine Kd.C_drewN ?_ _) | (with_reducible refine Kd.C_drew ?_))); (case side2 => exact HC1.out); rintro e w' ⟨rfl, ⟨nd, rfl⟩⟩; refine ⟨_, rfl, ?_⟩))
  go_ret
  exact ⟨by first | rfl | (simp [errW_none, errW_some] <;> rfl) | (simp [*, errW_none, errW_some] <;> rfl), by repeat (first | (with_reducible first | exact HB.out | apply bA | apply bN | apply bD) | exact HB.out)⟩
end Go.Proofs.Ytoaepfgfbfgcdaa.Q
namespace Go.Proofs.Ytoaepfgfbfgcdaa.Q
open Go.RowKit Go.Proofs.YtoaepfgfbfgcdaaW.PrintWords Go.Proofs.YtoaepfgfbfgcdaaW.PrintLast Go.Proofs.YtoaepfgfbfgcdaaW.PrintMore
attribute [local go_sem] max2_int min2_int max_two min_two max_three min_three max_four min_four
set_option linter.unusedVariables false
set_option linter.unusedSimpArgs false
attribute [local go_sem high] eqA28
mutual
def zero_Holds.l0 : Nat → Int → List (List (S149)) → List (List (S28)) → Int → Int → Option (Bool × Int)
 | 0, _, _, _, _, _ => none
 | k + 1, x0, x1, x2, x27, x28 => if x28 < x27 then (if 0 ≤ (x2.length : Int) then (if ((x2.length : Int) : Int).toNat ≤ 17592186044416 then (zero_Holds.l1 k x0 x1 x2 x28 (List.replicate ((x2.length : Int) : Int).toNat z28) x27 x28 x2 (x2.length : Int) 0) else (none)) else (none)) else (some (true, 0))
def zero_Holds.l1 : Nat → Int → List (List (S149)) → List (List (S28)) → Int → List (S28) → Int → Int → List (List (S28)) → Int → Int → Option (Bool × Int)
 | 0, _, _, _, _, _, _, _, _, _, _ => none
 | k + 1, x0, x1, x2, x9, x10, x27, x28, x34, x35, x36 => if x36 < x35 then (if 0 ≤ x36 then (if x36 < (x34.length : Int) then (if 0 ≤ x9 then (if x9 < ((rd_L11 x34 x36).length : Int) then (if x36 < (x10.length : Int) then (zero_Holds.l1 k x0 x1 x2 x9 (x10.set (x36 : Int).toNat (⟨(rd_T28 (rd_L11 x34 x36) x9).f0, (rd_T28 (rd_L11 x34 x36) x9).f1⟩ : S28)) x27 x28 x34 x35 (wrap64 (x36 + 1))) else (none)) else (none)) else (none)) else (none)) else (none)) else (zero_Holds.l2 k x0 x1 x2 x10 x27 x28 x1 (x1.length : Int) 0)
def zero_Holds.l2 : Nat → Int → List (List (S149)) → List (List (S28)) → List (S28) → Int → Int → List (List (S149)) → Int → Int → Option (Bool × Int)
 | 0, _, _, _, _, _, _, _, _, _ => none
 | k + 1, x0, x1, x2, x10, x27, x28, x49, x50, x51 => if x51 < x50 then (if 0 ≤ x51 then (if x51 < (x49.length : Int) then ((expr_Eval.f k x0 (rd_L13 x49 x51) x10).bind fun bt414 => (if (!(bt414.1 == 0) || (!(bt414.2.1 == 0))) = true then (some (false, 0)) else (zero_Holds.l2 k x0 x1 x2 x10 x27 x28 x49 x50 (wrap64 (x51 + 1))))) else (none)) else (none)) else (zero_Holds.l0 k x0 x1 x2 x27 (wrap64 (x28 + 1)))
end
def zero_Holds.f (k : Nat) (a0 : Int) (l1 : List (List (S149))) (l2 : List (List (S28))) : Option (Bool × Int) := (zero_ask.f k a0 l1 l2).bind fun t405 => (if t405 = 0 then (if 0 < (l2.length : Int) then (zero_Holds.l0 k a0 l1 l2 ((rd_L11 l2 0).length : Int) 0) else (none)) else (some (false, t405)))
set_option maxHeartbeats 8000000 in
set_option maxRecDepth 100000 in
theorem zero_Holds.calls (k : Nat) (a0 : Int) (A1 : Option Addr) (c1 : Nat) (l1 : List (List (S149))) (A2 : Option Addr) (c2 : Nat) (l2 : List (List (S28))) (r1 : Bool) (r2 : Int) (w : World) (hr1 : Kd.C (Kd.slice 149 k149) w A1 l1.length l1) (hc1 : l1.length ≤ c1) (hr2 : Kd.C (Kd.slice 28 k28) w A2 l2.length l2) (hc2 : l2.length ≤ c2) (h : zero_Holds.f k a0 l1 l2 = some (r1, r2)) :
  Calls Try.prog 32 #[.int .i64 a0, .slice A1 l1.length c1, .slice A2 l2.length c2] w fun e w' => e = .returned (.tuple #[.bool r1, .int .i64 r2]) ∧ Below w.heap.size w w' := by
 have hu28 := Try.underlying28
 have HR1 := Aside0.mk hr1
 have HC1 := Aside0.mk hc1
 clear hr1 hc1
 have HR2 := Aside0.mk hr2
 have HC2 := Aside0.mk hc2
 clear hr2 hc2
 have HB := Aside0.mk (Below.refl w.heap.size w)
 have H : ((zero_ask.f k a0 l1 l2).bind fun t405 => (if t405 = 0 then (if 0 < (l2.length : Int) then (zero_Holds.l0 k a0 l1 l2 ((rd_L11 l2 0).length : Int) 0) else (none)) else (some (false, t405)))) = some (r1, r2) := h
 clear h
 replace H := Option.bind_eq_some_iff.mp H
 obtain ⟨t405, A40, H⟩ := H
 replace H : (if t405 = 0 then (if 0 < (l2.length : Int) then (zero_Holds.l0 k a0 l1 l2 ((rd_L11 l2 0).length : Int) 0) else (none)) else (some (false, t405))) = some (r1, r2) := H
 have A4 := Aside0.mk A40
 clear A40
 by_cases c5 : t405 = 0
 ·rw [if_pos c5] at H
  have c5b0 : (t405 == 0) = true := beq_iff_eq.mpr c5
  have c5b1 : (t405 != 0) = false := bne_eq_false_iff_eq.mpr c5
  clear c5
  by_cases c6 : 0 < (l2.length : Int)
  ·rw [if_pos c6] at H
   have c6b0 : decide (0 < (l2.length : Int)) = true := decide_eq_true c6
   have c6b1 : decide (0 < l2.length) = true := decide_eq_true (by omega)
   clear c6
   have H' := Aside0.mk H
   clear H
   go_enter Try.func32, Try.ntmps32
   go_wp2_with (first | ((with_reducible refine gate_callee (f := 77) rfl ?_); refine goesL_ (some 20) rfl rfl Try.func77 (by kernel_rfl) rfl #[.int .i64 a0, .slice A1 l1.length c1, .slice A2 l2.length c2] rfl (by (try simp only [List.map_toArray, List.map_cons, List.map_nil]); first | done | rfl | (simp only [List.length_drop, List.length_take]; rfl)) ?_; (with_reducible refine (zero_ask.calls k a0 _ _ l1 _ _ l2 t405 _ ?side1 ?side2 ?side3 ?side4 A4.out).mono ?_); (case side1 => repeat (first | exact HR1.out | (with_reducible refine Kd.C_alloc ?_ _) | (with_reducible refine Kd.C_drewN ?_ _) | (with_reducible refine Kd.C_drew ?_))); (case side2 => exact HC1.out); (case side3 => repeat (first | exact HR2.out | (with_reducible refine Kd.C_alloc ?_ _) | (with_reducible refine Kd.C_drewN ?_ _) | (with_reducible refine Kd.C_drew ?_))); (case side4 => exact HC2.out); rintro e w7 ⟨rfl, hb⟩; refine ⟨_, rfl, ?_⟩; have n0_ := Aside0.mk (below_step (by exact lF HB.out) hb); clear HB; have HB := n0_; clear n0_; (try clear hb); (try clear hb2); (try clear hk); (try clear hi); have p406 : 0 ≤ (0 : Int) := (by omega); have q406 : 0 < (l2.length : Int) := of_decide_eq_true (by first | (with_reducible assumption) | assumption); obtain ⟨ad406, A406_0, c406_0, e406, hx406_0, hl406_0, hi406_0⟩ := at_L11 HR2.out 0 p406 q406; cases e406; have qi406 : (0 < l2.length) = True := eq_true (by omega); (try rw [show ((0 : Int)).toNat = 0 from rfl] at hx406_0); (try rw [Addr.add_zero'] at hx406_0); replace hx406_0 := (HB.out.cell (World.block_lt_of_cell? w _ hx406_0)).trans hx406_0; have HR406_0 := Aside0.mk hi406_0; have HC406_0 := Aside0.mk hl406_0; clear hi406_0 hl406_0; replace p406 := eq_true p406; replace q406 := eq_true q406))
   go_loopg [28] k (fun kq v28 w' => ∃ (x28_1 : Int), v28 = .int .i64 x28_1 ∧ Aside0 (zero_Holds.l0 kq a0 l1 l2 ((rd_L11 l2 0).length : Int) x28_1 = some (r1, r2)) ∧ Aside0 (kq ≤ k) ∧ Aside0 (Below w.heap.size w w'))
   case atStart => exact ⟨(0), (by first | rfl | (simp; done) | (simp [*]; done)), H', ⟨Nat.le_refl _⟩, ⟨by repeat (first | (with_reducible first | exact HB.out | apply bA | apply bN | apply bD) | exact HB.out)⟩⟩
   case round =>
    clear H'
    try clear c1
    try clear c2
    try clear p2
    try clear c3
    try clear c4
    try clear p4
    try clear q4
    try clear hx4
    try clear qi4
    try clear c5
    try clear c5b0
    try clear c5b1
    try clear c6
    try clear c6b0
    try clear c6b1
    try clear c7
    try clear hx406_0
    try clear p406
    try clear q406
    obtain ⟨x28_1, rfl, HA, HK1, HB⟩ := hrel
    cases gk with
    | zero => exact absurd HA.out (by simp [zero_Holds.l0])
    | succ k1 =>
     have H := HA.out
     clear HA
     simp only [zero_Holds.l0] at H
     by_cases c8 : x28_1 < ((rd_L11 l2 0).length : Int)
     ·rw [if_pos c8] at H
      have c8b0 : decide (x28_1 < ((rd_L11 l2 0).length : Int)) = true := decide_eq_true c8
      clear c8
      by_cases c9 : 0 ≤ (l2.length : Int)
      ·rw [if_pos c9] at H
       have c9b0 := eq_true c9
       have c9b1 : decide (0 ≤ (l2.length : Int)) = true := decide_eq_true c9
       clear c9
       by_cases c10 : ((l2.length : Int) : Int).toNat ≤ 17592186044416
       ·rw [if_pos c10] at H
        have c10b0 := eq_true c10
        have c10b1 : decide (((l2.length : Int) : Int).toNat ≤ 17592186044416) = true := decide_eq_true c10
        clear c10
        obtain ⟨y407, hy407⟩ : ∃ y_ : List (S28), y_ = (List.replicate ((l2.length : Int) : Int).toNat z28) := ⟨_, rfl⟩
        replace H : (zero_Holds.l1 k1 a0 l1 l2 x28_1 y407 ((rd_L11 l2 0).length : Int) x28_1 l2 (l2.length : Int) 0) = some (r1, r2) := by first | (rw [hy407]; with_reducible exact H) | (have H2_ := (Option.bind_some _ _).symm.trans H; rw [hy407]; with_reducible exact H2_) | (have H2_ := (Option.bind_some _ _).symm.trans H; with_reducible exact H2_) | with_reducible exact H | (rw [hy407]; exact H) | exact H
        have Ny407 := Aside0.mk hy407
        clear hy407
        have H' := Aside0.mk H
        clear H
        go_wp2_with (first | ((with_reducible refine gate_dst (N := 33) rfl ?_); refine Kd.R_make k28 _ 28 rfl (N := 33) rfl 53 _ _ rfl (l2.length : Int) rfl rfl Try.underlying53 (.agg #[(.int .u64 0), (.int .u64 0)]) 16 info28 rfl (by decide) (by omega) z28 (ok := fun _ => True) (okp := fun _ => True) (k28_mkM _ _ _ z28 ) (fun _ hk => hk) trivial (of_decide_eq_true (by first | (with_reducible assumption) | assumption)) (Nat.le_trans (Nat.mul_le_mul_right _ (of_decide_eq_true (by first | (with_reducible assumption) | assumption) : (l2.length : Int).toNat ≤ 17592186044416)) (by omega)) (Below.refl _ _) (Nat.le_refl _) ?_; intro v408 w11 ho12 hb hg_ hnew_; clear hg_ hnew_; (first | rw [← Ny407.out] at ho12 | (simp only [Int.reduceToNat] at ho12; rw [← Ny407.out] at ho12)); have n0_ := Aside0.mk (Kd.R_lower ho12 (below_size (by exact lF HB.out))); have n1_ := Aside0.mk (below_step (by exact lF HB.out) hb); clear HB; have HO409 := n0_; have HB := n1_; clear n0_ n1_; clear hb ho12))
        go_loopg [36] k1 (fun kq v36 w' => ∃ (x10_2 : List (S28)) (x36_2 : Int), v36 = .int .i64 x36_2 ∧ Aside0 (zero_Holds.l1 kq a0 l1 l2 x28_1 x10_2 ((rd_L11 l2 0).length : Int) x28_1 l2 (l2.length : Int) x36_2 = some (r1, r2)) ∧ Aside0 (kq ≤ k1) ∧ Aside0 (Kd.R k28 28 w' w.heap.size (fun _ => True) v408 x10_2) ∧ Aside0 (Below w.heap.size w w'))
        case atStart => exact ⟨(y407), (0), (by first | rfl | (simp; done) | (simp [*]; done)), H', ⟨Nat.le_refl _⟩, ⟨by exact rF HO409.out⟩, ⟨by repeat (first | (with_reducible first | exact HB.out | apply bA | apply bN | apply bD) | exact HB.out)⟩⟩
        case round =>
         clear H'
         try clear c1
         try clear c2
         try clear p2
         try clear c3
         try clear c4
         try clear p4
         try clear q4
         try clear hx4
         try clear qi4
         try clear c5
         try clear c5b0
         try clear c5b1
         try clear c6
         try clear c6b0
         try clear c6b1
         try clear c7
         try clear c8
         try clear c8b0
         try clear c9
         try clear c9b0
         try clear c9b1
         try clear c10
         try clear c10b0
         try clear c10b1
         try clear hx406_0
         try clear p2
         try clear p4
         try clear p406
         try clear q4
         try clear q406
         obtain ⟨x10_2, x36_2, rfl, HA, HK2, HO_10, HB⟩ := hrel
         cases gk with
         | zero => exact absurd HA.out (by simp [zero_Holds.l1])
         | succ k2 =>
          have H := HA.out
          clear HA
          simp only [zero_Holds.l1] at H
          by_cases c13 : x36_2 < (l2.length : Int)
          ·rw [if_pos c13] at H
           have c13b0 : decide (x36_2 < (l2.length : Int)) = true := decide_eq_true c13
           clear c13
           by_cases c14 : 0 ≤ x36_2
           ·rw [if_pos c14] at H
            have c14b0 : decide (0 ≤ x36_2) = true := decide_eq_true c14
            clear c14
            by_cases c15 : x36_2 < (l2.length : Int)
            ·rw [if_pos c15] at H
             have c15b0 : decide (x36_2 < (l2.length : Int)) = true := decide_eq_true c15
             clear c15
             by_cases c16 : 0 ≤ x28_1
             ·rw [if_pos c16] at H
              have c16b0 : decide (0 ≤ x28_1) = true := decide_eq_true c16
              clear c16
              by_cases c17 : x28_1 < ((rd_L11 l2 x36_2).length : Int)
              ·rw [if_pos c17] at H
               have c17b0 : decide (x28_1 < ((rd_L11 l2 x36_2).length : Int)) = true := decide_eq_true c17
               clear c17
               by_cases c18 : x36_2 < (x10_2.length : Int)
               ·rw [if_pos c18] at H
                have c18b0 : decide (x36_2 < (x10_2.length : Int)) = true := decide_eq_true c18
                clear c18
                obtain ⟨y412, hy412⟩ : ∃ y_ : List (S28), y_ = (x10_2.set (x36_2 : Int).toNat (⟨(rd_T28 (rd_L11 l2 x36_2) x28_1).f0, (rd_T28 (rd_L11 l2 x36_2) x28_1).f1⟩ : S28)) := ⟨_, rfl⟩
                replace H : (zero_Holds.l1 k2 a0 l1 l2 x28_1 y412 ((rd_L11 l2 0).length : Int) x28_1 l2 (l2.length : Int) (wrap64 (x36_2 + 1))) = some (r1, r2) := by first | (rw [hy412]; with_reducible exact H) | (have H2_ := (Option.bind_some _ _).symm.trans H; rw [hy412]; with_reducible exact H2_) | (have H2_ := (Option.bind_some _ _).symm.trans H; with_reducible exact H2_) | with_reducible exact H | (rw [hy412]; exact H) | exact H
                have Ny412 := Aside0.mk hy412
                clear hy412
                have H' := Aside0.mk H
                clear H
                have p410 : 0 ≤ (x36_2 : Int) := of_decide_eq_true (by first | (with_reducible assumption) | assumption)
                have q410 : x36_2 < (l2.length : Int) := of_decide_eq_true (by first | (with_reducible assumption) | assumption)
                obtain ⟨ad410, A410_0, c410_0, e410, hx410_0, hl410_0, hi410_0⟩ := at_L11 HR2.out x36_2 p410 q410
                obtain rfl : ad406 = ad410 := (by injection e410)
                replace hx410_0 := (HB.out.cell (World.block_lt_of_cell? w _ hx410_0)).trans hx410_0
                have HR410_0 := Aside0.mk hi410_0
                have HC410_0 := Aside0.mk hl410_0
                clear hi410_0 hl410_0
                replace p410 := eq_true p410
                replace q410 := eq_true q410
                have p411 : 0 ≤ (x28_1 : Int) := of_decide_eq_true (by first | (with_reducible assumption) | assumption)
                have q411 : x28_1 < ((rd_L11 l2 x36_2).length : Int) := of_decide_eq_true (by first | (with_reducible assumption) | assumption)
                obtain ⟨ad411, e411, hx411_0, hx411_1⟩ := at_T28 HR410_0.out x28_1 p411 q411
                cases e411
                replace hx411_0 := (HB.out.cell (World.block_lt_of_cell? w _ hx411_0)).trans hx411_0
                replace hx411_1 := (HB.out.cell (World.block_lt_of_cell? w _ hx411_1)).trans hx411_1
                replace p411 := eq_true p411
                replace q411 := eq_true q411
                have p19 : 0 ≤ (x36_2 : Int) := of_decide_eq_true (by first | (with_reducible assumption) | assumption)
                have q19 : (x36_2 : Int) < ((x10_2.length : Int) : Int) := of_decide_eq_true (by first | (with_reducible assumption) | assumption)
                obtain ⟨go19, co19, eo19, gb19, gl19, cl19, HG19⟩ := Kd.R_form HO_10.out (by omega)
                (first | cases eo19 | (injection eo19 with ea_ en_ ec_; (first | subst ea_ | (injection ea_ with ea_; subst ea_)); subst ec_; clear en_))
                have GB19 := Aside0.mk gb19
                have GG19 := Aside0.mk HG19
                clear gb19 gl19 HG19
                obtain ⟨ce19, hcl19, hM19, hcc19, hfr19⟩ := Kd.R_elem HO_10.out z28 (x36_2 : Int) p19 q19
                obtain rfl := k28_openM hM19
                have hx19_0 : wr.cell? ⟨go19, (x36_2 : Int).toNat * 2, none⟩ = some (.int .u64 ((rd_T28 x10_2 x36_2).f0)) := hcc19 0 _ rfl
                have hx19_1 : wr.cell? ⟨go19, (x36_2 : Int).toNat * 2 + 1, none⟩ = some (.int .u64 ((rd_T28 x10_2 x36_2).f1)) := hcc19 1 _ rfl
                have hf19_0 : wr.frozen? ⟨go19, (x36_2 : Int).toNat * 2, none⟩ = false := hfr19 0
                have hf19_1 : wr.frozen? ⟨go19, (x36_2 : Int).toNat * 2 + 1, none⟩ = false := hfr19 1
                clear hcl19 hcc19 hfr19 hM19
                replace p19 := eq_true p19
                replace q19 := eq_true q19
                have HX20 := Aside0.mk (show Kd.R k28 28 wr w.heap.size (fun _ => True) (.slice (some ⟨go19, 0, none⟩) x10_2.length co19) x10_2 from (by exact rF HO_10.out))
                obtain ⟨ce20, hcl20, hM20, hcc20, hfr20⟩ := Kd.R_elem HX20.out z28 (x36_2 : Int) (of_decide_eq_true (by first | (with_reducible assumption) | assumption)) (by have h_ : (x36_2 : Int) < ((x10_2.length : Int) : Int) := of_decide_eq_true (by first | (with_reducible assumption) | assumption); first | exact h_ | (have e_ := (Kd.R_reads' HO_10.out).1; omega) | simpa using h_)
                obtain rfl := k28_openM hM20
                have HP20 := Kd.R_seg HX20.out (x36_2 : Int) (of_decide_eq_true (by first | (with_reducible assumption) | assumption)) (by have h_ : (x36_2 : Int) < ((x10_2.length : Int) : Int) := of_decide_eq_true (by first | (with_reducible assumption) | assumption); first | exact h_ | (have e_ := (Kd.R_reads' HO_10.out).1; omega) | simpa using h_) (seg := [.int .u64 ((rd_T28 (rd_L11 l2 x36_2) x28_1).f0), .int .u64 ((rd_T28 (rd_L11 l2 x36_2) x28_1).f1)]) (j := 0) hcl20 hcc20 (show 2 ≤ 2 from by decide) (x' := (⟨(rd_T28 (rd_L11 l2 x36_2) x28_1).f0, (rd_T28 (rd_L11 l2 x36_2) x28_1).f1⟩ : S28)) (k28_mkM _ _ _ (⟨(rd_T28 (rd_L11 l2 x36_2) x28_1).f0, (rd_T28 (rd_L11 l2 x36_2) x28_1).f1⟩ : S28) ) (fun _ hk => hk)
                have hx20_0 := hcc20 0 _ rfl
                (try simp only [show (k28).sz = 2 from rfl, Nat.mul_one, Nat.add_zero] at hx20_0)
                have hf20_0 := hfr20 0
                (try simp only [show (k28).sz = 2 from rfl, Nat.mul_one, Nat.add_zero] at hf20_0)
                have hx20_1 := hcc20 1 _ rfl
                (try simp only [show (k28).sz = 2 from rfl, Nat.mul_one, Nat.add_zero] at hx20_1)
                have hf20_1 := hfr20 1
                (try simp only [show (k28).sz = 2 from rfl, Nat.mul_one, Nat.add_zero] at hf20_1)
                clear hcl20 hcc20 hfr20 hM20
                go_wp2_with (first | ((with_reducible refine gate_store (t := 28) (p := 47) rfl ?_); refine store_event (t := 28) (p := 47) (v := ?vo_w21) (w1 := ((wr.setCell ⟨go19, (x36_2 : Int).toNat * 2, none⟩ (.int .u64 ((rd_T28 (rd_L11 l2 x36_2) x28_1).f0))).setCell ⟨go19, (x36_2 : Int).toNat * 2 + 1, none⟩ (.int .u64 ((rd_T28 (rd_L11 l2 x36_2) x28_1).f1)))) ?hg ?ho ?hn ?hr ?_; (case ho => rfl); (case hg => rfl); (case hn => rfl); (case hr => first | (go_simp; done) | (go_simp; rfl)); intro w21 hw; have hg : wr.grownBy w21 (some go19) := (by rw [hw]; exact HP20.2); have hp_ : Kd.R k28 28 w21 w.heap.size (fun _ => True) (.slice (some ⟨go19, 0, none⟩) x10_2.length co19) y412 := (by rw [hw, Ny412.out]; exact HP20.1); clear HP20; have n0_ := Aside0.mk (hp_); have n1_ := Aside0.mk ((by rw [hw]; exact below_set (below_set (HB.out) GB19.out) GB19.out : Below w.heap.size w w21)); clear HO_10; clear HB; have HO_10 := n0_; have HB := n1_; clear n0_ n1_; clear hg hw hp_))
                go_roundg k2
                case measure => have := HK1.out; have := HK2.out; omega
                case rel => exact ⟨(y412), (wrap64 (x36_2 + 1)), (by first | rfl | (simp; done) | (simp [*]; done)), H', ⟨by have := HK1.out; have := HK2.out; omega⟩, ⟨by exact rF HO_10.out⟩, ⟨by repeat (first | (with_reducible first | exact HB.out | apply bA | apply bN | apply bD) | exact HB.out)⟩⟩
               ·rw [if_neg c18] at H
                exact absurd H (by simp)
              ·rw [if_neg c17] at H
               exact absurd H (by simp)
             ·rw [if_neg c16] at H
              exact absurd H (by simp)
            ·rw [if_neg c15] at H
             exact absurd H (by simp)
           ·rw [if_neg c14] at H
            exact absurd H (by simp)
          ·rw [if_neg c13] at H
           have c13b0 : decide (x36_2 < (l2.length : Int)) = false := decide_eq_false c13
           clear c13
           have H' := Aside0.mk H
           clear H
           go_wp2
           go_loopg [51] k2 (fun kq v51 w' => ∃ (x51_3 : Int), v51 = .int .i64 x51_3 ∧ Aside0 (zero_Holds.l2 kq a0 l1 l2 x10_2 ((rd_L11 l2 0).length : Int) x28_1 l1 (l1.length : Int) x51_3 = some (r1, r2)) ∧ Aside0 (kq ≤ k2) ∧ Aside0 (Kd.R k28 28 w' w.heap.size (fun _ => True) v408 x10_2) ∧ Aside0 (Below w.heap.size w w'))
           case atStart => exact ⟨(0), (by first | rfl | (simp; done) | (simp [*]; done)), H', ⟨Nat.le_refl _⟩, ⟨by exact rF HO_10.out⟩, ⟨by repeat (first | (with_reducible first | exact HB.out | apply bA | apply bN | apply bD) | exact HB.out)⟩⟩
           case round =>
            clear H'
            try clear c1
            try clear p1
            try clear q1
            try clear hx1
            try clear c2
            try clear p2
            try clear hx2
            try clear c3
            try clear c4
            try clear p4
            try clear q4
            try clear hx4
            try clear qi4
            try clear c5
            try clear c5b0
            try clear c5b1
            try clear c6
            try clear c6b0
            try clear c6b1
            try clear p6
            try clear c7
            try clear c8
            try clear c8b0
            try clear c9
            try clear c9b0
            try clear c9b1
            try clear c10
            try clear c10b0
            try clear c10b1
            try clear c13
            try clear c13b0
            try clear c14
            try clear c14b0
            try clear c15
            try clear c15b0
            try clear c16
            try clear c16b0
            try clear c17
            try clear c17b0
            try clear c18
            try clear c18b0
            try clear c19
            try clear p19
            try clear q19
            try clear hx19
            try clear hf19
            try clear c20
            try clear hx20
            try clear hf20
            try clear hx19_0
            try clear hx19_1
            try clear hx20_0
            try clear hx20_1
            try clear hx406_0
            try clear hx410_0
            try clear hx411_0
            try clear hx411_1
            try clear p19
            try clear p2
            try clear p4
            try clear p406
            try clear p410
            try clear p411
            try clear q19
            try clear q4
            try clear q406
            try clear q410
            try clear q411
            obtain ⟨x51_3, rfl, HA, HK3, HO_10, HB⟩ := hrel
            cases gk with
            | zero => exact absurd HA.out (by simp [zero_Holds.l2])
            | succ k3 =>
             have H := HA.out
             clear HA
             simp only [zero_Holds.l2] at H
             by_cases c22 : x51_3 < (l1.length : Int)
             ·rw [if_pos c22] at H
              have c22b0 : decide (x51_3 < (l1.length : Int)) = true := decide_eq_true c22
              clear c22
              by_cases c23 : 0 ≤ x51_3
              ·rw [if_pos c23] at H
               have c23b0 : decide (0 ≤ x51_3) = true := decide_eq_true c23
               clear c23
               by_cases c24 : x51_3 < (l1.length : Int)
               ·rw [if_pos c24] at H
                have c24b0 : decide (x51_3 < (l1.length : Int)) = true := decide_eq_true c24
                clear c24
                replace H := Option.bind_eq_some_iff.mp H
                obtain ⟨⟨t414, t415, t416⟩, A250, H⟩ := H
                replace H : (if (!(t414 == 0) || (!(t415 == 0))) = true then (some (false, 0)) else (zero_Holds.l2 k3 a0 l1 l2 x10_2 ((rd_L11 l2 0).length : Int) x28_1 l1 (l1.length : Int) (wrap64 (x51_3 + 1)))) = some (r1, r2) := H
                have A25 := Aside0.mk A250
                clear A250
                by_cases c26 : (!(t414 == 0) || (!(t415 == 0))) = true
                ·rw [if_pos c26] at H
                 have c26b0 : (!(t414 == 0) || (!(t415 == 0))) = true := c26
                 clear c26
                 simp only [Option.some.injEq, Prod.mk.injEq] at H
                 obtain ⟨rfl, rfl⟩ := H
                 have p413 : 0 ≤ (x51_3 : Int) := of_decide_eq_true (by first | (with_reducible assumption) | assumption)
                 have q413 : x51_3 < (l1.length : Int) := of_decide_eq_true (by first | (with_reducible assumption) | assumption)
                 obtain ⟨ad413, A413_0, c413_0, e413, hx413_0, hl413_0, hi413_0⟩ := at_L13 HR1.out x51_3 p413 q413
                 cases e413
                 replace hx413_0 := (HB.out.cell (World.block_lt_of_cell? w _ hx413_0)).trans hx413_0
                 have HR413_0 := Aside0.mk hi413_0
                 have HC413_0 := Aside0.mk hl413_0
                 clear hi413_0 hl413_0
                 replace p413 := eq_true p413
                 replace q413 := eq_true q413
                 obtain ⟨Ao27, co27, eo27⟩ := Kd.R_slice HO_10.out
                 subst eo27
                 go_wp2_with (first | ((with_reducible refine gate_callee (f := 65) rfl ?_); refine goesL_ (some 59) rfl rfl Try.func65 (by kernel_rfl) rfl #[.int .i64 a0, .slice A413_0 (rd_L13 l1 x51_3).length c413_0, .slice Ao27 x10_2.length co27] rfl (by (try simp only [List.map_toArray, List.map_cons, List.map_nil]); first | done | rfl | (simp only [List.length_drop, List.length_take]; rfl)) ?_; (with_reducible refine (expr_Eval.calls k3 a0 _ _ (rd_L13 l1 x51_3) _ _ x10_2 t414 t415 t416 _ ?side1 ?side2 ?side3 ?side4 A25.out).mono ?_); (case side1 => repeat (first | exact (Kd.C_below HR413_0.out HB.out) | (with_reducible refine Kd.C_alloc ?_ _) | (with_reducible refine Kd.C_drewN ?_ _) | (with_reducible refine Kd.C_drew ?_))); (case side2 => exact HC413_0.out); (case side3 => repeat (first | exact (Kd.R_reads' HO_10.out).2.2 | (with_reducible refine Kd.C_alloc ?_ _) | (with_reducible refine Kd.C_drewN ?_ _) | (with_reducible refine Kd.C_drew ?_))); (case side4 => exact (Kd.R_reads' HO_10.out).2.1); rintro e w28 ⟨rfl, hb⟩; refine ⟨_, rfl, ?_⟩; have n0_ := Aside0.mk (Kd.R_below (by exact rF HO_10.out) hb); have n1_ := Aside0.mk (below_step (by exact lF HB.out) hb); clear HO_10; clear HB; have HO_10 := n0_; have HB := n1_; clear n0_ n1_; (try clear hb); (try clear hb2); (try clear hk); (try clear hi)) | ((with_reducible refine gate_dst (N := 15) rfl ?_); refine box_event ?hg (N := 15) ?hd (cs := #[.int .u64 0, .int .u64 0]) (t := 28) ?hr ?_; (case hd => rfl); (case hg => rfl); (case hr => first | (go_simp; done) | (go_simp; rfl)); intro gb417 hg w29 hbox hb; have n0_ := Aside0.mk (Kd.R_below (Kd.R_elderB (by exact rF HO_10.out) gb417 (Nat.le_of_eq hg.symm)) hb); have n1_ := Aside0.mk (below_step (by exact lF HB.out) hb); have n2_ := Aside0.mk (hbox); have n3_ := Aside0.mk ((by rw [hg]; exact (below_size (by exact lF HB.out)) : w.heap.size ≤ gb417)); have n4_ := Aside0.mk ((by rw [hg]; exact (below_size (by exact lF HB.out)) : w.heap.size ≤ gb417)); clear HO_10; clear HB; have HO_10 := n0_; have HB := n1_; have BK417 := n2_; have GW417 := n3_; have GE417 := n4_; clear n0_ n1_ n2_ n3_ n4_; clear hb hbox hg; have hcz30_0 : w29.cell? ⟨gb417, 0, none⟩ = some (.int .u64 0) := (blk_cell BK417.out 0).trans rfl; have hcz30_1 : w29.cell? ⟨gb417, 1, none⟩ = some (.int .u64 0) := (blk_cell BK417.out 1).trans rfl; have hfz30_0 := blk_frozen BK417.out 0; have hfz30_1 := blk_frozen BK417.out 1))
                 go_ret2
                 exact ⟨by first | rfl | (simp [errW_none, errW_some] <;> rfl) | (simp [*, errW_none, errW_some] <;> rfl), by repeat (first | (with_reducible first | exact HB.out | apply bA | apply bN | apply bD | refine bS ?_ GE417.out) | exact HB.out)⟩
                ·rw [if_neg c26] at H
                 have c26b0 : (!(t414 == 0) || (!(t415 == 0))) = false := by simpa using c26
                 clear c26
                 have H' := Aside0.mk H
                 clear H
                 have p413 : 0 ≤ (x51_3 : Int) := of_decide_eq_true (by first | (with_reducible assumption) | assumption)
                 have q413 : x51_3 < (l1.length : Int) := of_decide_eq_true (by first | (with_reducible assumption) | assumption)
                 obtain ⟨ad413, A413_0, c413_0, e413, hx413_0, hl413_0, hi413_0⟩ := at_L13 HR1.out x51_3 p413 q413
                 cases e413
                 replace hx413_0 := (HB.out.cell (World.block_lt_of_cell? w _ hx413_0)).trans hx413_0
                 have HR413_0 := Aside0.mk hi413_0
                 have HC413_0 := Aside0.mk hl413_0
                 clear hi413_0 hl413_0
                 replace p413 := eq_true p413
                 replace q413 := eq_true q413
                 obtain ⟨Ao31, co31, eo31⟩ := Kd.R_slice HO_10.out
                 subst eo31
                 go_wp2_with (first | ((with_reducible refine gate_callee (f := 65) rfl ?_); refine goesL_ (some 59) rfl rfl Try.func65 (by kernel_rfl) rfl #[.int .i64 a0, .slice A413_0 (rd_L13 l1 x51_3).length c413_0, .slice Ao31 x10_2.length co31] rfl (by (try simp only [List.map_toArray, List.map_cons, List.map_nil]); first | done | rfl | (simp only [List.length_drop, List.length_take]; rfl)) ?_; (with_reducible refine (expr_Eval.calls k3 a0 _ _ (rd_L13 l1 x51_3) _ _ x10_2 t414 t415 t416 _ ?side1 ?side2 ?side3 ?side4 A25.out).mono ?_); (case side1 => repeat (first | exact (Kd.C_below HR413_0.out HB.out) | (with_reducible refine Kd.C_alloc ?_ _) | (with_reducible refine Kd.C_drewN ?_ _) | (with_reducible refine Kd.C_drew ?_))); (case side2 => exact HC413_0.out); (case side3 => repeat (first | exact (Kd.R_reads' HO_10.out).2.2 | (with_reducible refine Kd.C_alloc ?_ _) | (with_reducible refine Kd.C_drewN ?_ _) | (with_reducible refine Kd.C_drew ?_))); (case side4 => exact (Kd.R_reads' HO_10.out).2.1); rintro e w32 ⟨rfl, hb⟩; refine ⟨_, rfl, ?_⟩; have n0_ := Aside0.mk (Kd.R_below (by exact rF HO_10.out) hb); have n1_ := Aside0.mk (below_step (by exact lF HB.out) hb); clear HO_10; clear HB; have HO_10 := n0_; have HB := n1_; clear n0_ n1_; (try clear hb); (try clear hb2); (try clear hk); (try clear hi)) | ((with_reducible refine gate_dst (N := 15) rfl ?_); refine box_event ?hg (N := 15) ?hd (cs := #[.int .u64 0, .int .u64 0]) (t := 28) ?hr ?_; (case hd => rfl); (case hg => rfl); (case hr => first | (go_simp; done) | (go_simp; rfl)); intro gb417 hg w33 hbox hb; have n0_ := Aside0.mk (Kd.R_below (Kd.R_elderB (by exact rF HO_10.out) gb417 (Nat.le_of_eq hg.symm)) hb); have n1_ := Aside0.mk (below_step (by exact lF HB.out) hb); have n2_ := Aside0.mk (hbox); have n3_ := Aside0.mk ((by rw [hg]; exact (below_size (by exact lF HB.out)) : w.heap.size ≤ gb417)); have n4_ := Aside0.mk ((by rw [hg]; exact (below_size (by exact lF HB.out)) : w.heap.size ≤ gb417)); clear HO_10; clear HB; have HO_10 := n0_; have HB := n1_; have BK417 := n2_; have GW417 := n3_; have GE417 := n4_; clear n0_ n1_ n2_ n3_ n4_; clear hb hbox hg; have hcz34_0 : w33.cell? ⟨gb417, 0, none⟩ = some (.int .u64 0) := (blk_cell BK417.out 0).trans rfl; have hcz34_1 : w33.cell? ⟨gb417, 1, none⟩ = some (.int .u64 0) := (blk_cell BK417.out 1).trans rfl; have hfz34_0 := blk_frozen BK417.out 0; have hfz34_1 := blk_frozen BK417.out 1))
                 go_roundg k3
                 case measure => have := HK1.out; have := HK2.out; have := HK3.out; omega
                 case rel => exact ⟨(wrap64 (x51_3 + 1)), (by first | rfl | (simp; done) | (simp [*]; done)), H', ⟨by have := HK1.out; have := HK2.out; have := HK3.out; omega⟩, ⟨by (with_reducible repeat (first | apply Kd.R_alloc | apply Kd.R_drewN | apply Kd.R_drew)); exact Kd.R_mono (Kd.R_far (p := ⟨gb417, 1, none⟩) (Kd.R_far (p := ⟨gb417, 0, none⟩) (Kd.R_mono HO_10.out (fun k_ hk => (⟨hk, hk.2⟩ : _ ∧ k_ ≠ gb417))) (fun _ hk => hk.2) (.int .u64 t414)) (fun _ hk => hk.2) (.int .u64 t415)) (fun _ hk => trivial)⟩, ⟨by repeat (first | (with_reducible first | exact HB.out | apply bA | apply bN | apply bD | refine bS ?_ GE417.out) | exact HB.out)⟩⟩
               ·rw [if_neg c24] at H
                exact absurd H (by simp)
              ·rw [if_neg c23] at H
               exact absurd H (by simp)
             ·rw [if_neg c22] at H
              have c22b0 : decide (x51_3 < (l1.length : Int)) = false := decide_eq_false c22
              clear c22
              have H' := Aside0.mk H
              clear H
              go_wp2
              go_roundg k3
              case measure => have := HK1.out; have := HK2.out; have := HK3.out; omega
              case rel => exact ⟨(wrap64 (x28_1 + 1)), (by first | rfl | (simp; done) | (simp [*]; done)), H', ⟨by have := HK1.out; have := HK2.out; have := HK3.out; omega⟩, ⟨by repeat (first | (with_reducible first | exact HB.out | apply bA | apply bN | apply bD) | exact HB.out)⟩⟩
       ·rw [if_neg c10] at H
        exact absurd H (by simp)
      ·rw [if_neg c9] at H
       exact absurd H (by simp)
     ·rw [if_neg c8] at H
      have c8b0 : decide (x28_1 < ((rd_L11 l2 0).length : Int)) = false := decide_eq_false c8
      clear c8
      simp only [Option.some.injEq, Prod.mk.injEq] at H
      obtain ⟨rfl, rfl⟩ := H
      go_wp2
      go_ret2
      exact ⟨by first | rfl | (simp [errW_none, errW_some] <;> rfl) | (simp [*, errW_none, errW_some] <;> rfl), by repeat (first | (with_reducible first | exact HB.out | apply bA | apply bN | apply bD) | exact HB.out)⟩
  ·rw [if_neg c6] at H
   exact absurd H (by simp)
 ·rw [if_neg c5] at H
  have c5b0 : (t405 == 0) = false := beq_eq_false_iff_ne.mpr c5
  have c5b1 : (t405 != 0) = true := bne_iff_ne.mpr c5
  simp only [Option.some.injEq, Prod.mk.injEq] at H
  obtain ⟨rfl, rfl⟩ := H
  go_enter Try.func32, Try.ntmps32
  go_wp2_with (first | ((with_reducible refine gate_callee (f := 77) rfl ?_); refine goesL_ (some 20) rfl rfl Try.func77 (by kernel_rfl) rfl #[.int .i64 a0, .slice A1 l1.length c1, .slice A2 l2.length c2] rfl (by (try simp only [List.map_toArray, List.map_cons, List.map_nil]); first | done | rfl | (simp only [List.length_drop, List.length_take]; rfl)) ?_; (with_reducible refine (zero_ask.calls k a0 _ _ l1 _ _ l2 t405 _ ?side1 ?side2 ?side3 ?side4 A4.out).mono ?_); (case side1 => repeat (first | exact HR1.out | (with_reducible refine Kd.C_alloc ?_ _) | (with_reducible refine Kd.C_drewN ?_ _) | (with_reducible refine Kd.C_drew ?_))); (case side2 => exact HC1.out); (case side3 => repeat (first | exact HR2.out | (with_reducible refine Kd.C_alloc ?_ _) | (with_reducible refine Kd.C_drewN ?_ _) | (with_reducible refine Kd.C_drew ?_))); (case side4 => exact HC2.out); rintro e w35 ⟨rfl, hb⟩; refine ⟨_, rfl, ?_⟩; have n0_ := Aside0.mk (below_step (by exact lF HB.out) hb); clear HB; have HB := n0_; clear n0_; (try clear hb); (try clear hb2); (try clear hk); (try clear hi)))
  go_ret2
  exact ⟨by first | rfl | (simp [errW_none, errW_some] <;> rfl) | (simp [*, errW_none, errW_some] <;> rfl), by repeat (first | (with_reducible first | exact HB.out | apply bA | apply bN | apply bD) | exact HB.out)⟩
end Go.Proofs.Ytoaepfgfbfgcdaa.Q
namespace Go.Proofs.Ytoaepfgfbfgcdaa.Q
open Go.RowKit Go.Proofs.YtoaepfgfbfgcdaaW.PrintWords Go.Proofs.YtoaepfgfbfgcdaaW.PrintLast Go.Proofs.YtoaepfgfbfgcdaaW.PrintMore
attribute [local go_sem] max2_int min2_int max_two min_two max_three min_three max_four min_four
set_option linter.unusedVariables false
set_option linter.unusedSimpArgs false
def tower_One.f  : Option (Int × Int) := some (0, 1)
set_option maxHeartbeats 8000000 in
set_option maxRecDepth 100000 in
theorem tower_One.calls  (r1 : Int) (r2 : Int) (w : World) (h : tower_One.f  = some (r1, r2)) :
  Calls Try.prog 130 #[] w fun e w' => e = .returned (.agg #[.int .u64 r1, .int .u64 r2]) ∧ Below w.heap.size w w' := by
 have hu28 := Try.underlying28
 have HB := Aside0.mk (Below.refl w.heap.size w)
 have H : (some (0, 1)) = some (r1, r2) := h
 clear h
 simp only [Option.some.injEq, Prod.mk.injEq] at H
 obtain ⟨rfl, rfl⟩ := H
 go_enter Try.func130, Try.ntmps130
 go_wp2_with (first | ((with_reducible refine gate_dst (N := 0) rfl ?_); refine box_event ?hg (N := 0) ?hd (cs := #[.int .u64 0, .int .u64 0]) (t := 28) ?hr ?_; (case hd => rfl); (case hg => rfl); (case hr => first | (go_simp; done) | (go_simp; rfl)); intro gb418 hg w1 hbox hb; have n0_ := Aside0.mk (below_step (by exact lF HB.out) hb); have n1_ := Aside0.mk (hbox); have n2_ := Aside0.mk ((by rw [hg]; exact (below_size (by exact lF HB.out)) : w.heap.size ≤ gb418)); have n3_ := Aside0.mk ((by rw [hg]; exact (below_size (by exact lF HB.out)) : w.heap.size ≤ gb418)); clear HB; have HB := n0_; have BK418 := n1_; have GW418 := n2_; have GE418 := n3_; clear n0_ n1_ n2_ n3_; clear hb hbox hg; have hcz2_0 : w1.cell? ⟨gb418, 0, none⟩ = some (.int .u64 0) := (blk_cell BK418.out 0).trans rfl; have hcz2_1 : w1.cell? ⟨gb418, 1, none⟩ = some (.int .u64 0) := (blk_cell BK418.out 1).trans rfl; have hfz2_0 := blk_frozen BK418.out 0; have hfz2_1 := blk_frozen BK418.out 1))
 refine bodyPost_ret (results_cell_row rfl _ _ gb418 28 #[.int .u64 0, .int .u64 1] (0, 0) _ rfl (by (with_reducible repeat (first | refine blk_drewN ?_ _ | refine blk_drew ?_ | refine blk_alloc ?_ _)); refine blk_put (cs := #[.int .u64 0, .int .u64 0]) ?_ 1 _ rfl; (with_reducible repeat (first | refine blk_drewN ?_ _ | refine blk_drew ?_ | refine blk_alloc ?_ _)); refine blk_put (cs := #[.int .u64 0, .int .u64 0]) ?_ 0 _ rfl; exact bF BK418.out) Try.underlying28 rfl (by kernel_rfl)) rfl ?_
 exact ⟨by first | rfl | (simp [errW_none, errW_some] <;> rfl) | (simp [*, errW_none, errW_some] <;> rfl), by repeat (first | (with_reducible first | exact HB.out | apply bA | apply bN | apply bD | refine bS ?_ GE418.out) | exact HB.out)⟩
def api_Op.f (l0 : List (S149)) : Option ((List (S149))) := if l0.length * 40 ≤ 140737488355328 then some l0 else none
set_option maxHeartbeats 8000000 in
set_option maxRecDepth 100000 in
theorem api_Op.calls (A0 : Option Addr) (c0 : Nat) (l0 : List (S149)) (r : List (S149)) (w : World) (hr0 : Kd.C k149 w A0 l0.length l0) (hc0 : l0.length ≤ c0) (h : api_Op.f l0 = some r) :
  Calls Try.prog 165 #[.slice A0 l0.length c0] w fun e w' => ∃ v0_ : Value, e = .returned (v0_) ∧ Kd.R k149 149 w' w.heap.size (fun _ => True) v0_ r ∧ Below w.heap.size w w' := by
 unfold api_Op.f at h
 by_cases hb : l0.length * 40 ≤ 140737488355328
 ·rw [if_pos hb] at h
  obtain rfl := Option.some.inj h
  clear h
  have hsz : l0.length ≤ 9223372036854775807 := hr0.2.1
  cases A0 with
  | none =>
   have hl : l0.length = 0 := by
    rcases Nat.eq_zero_or_pos l0.length with h | h
    ·exact h
    ·obtain ⟨ad, e, _⟩ := hr0.2.2 h
     cases e
   obtain rfl := List.eq_nil_of_length_eq_zero hl
   clear hl hb hr0
   have he : ∀ W, (binOp .eql 83 (.slice none 0 c0) (.slice none 0 0)).run Try.prog W = .ok (.bool true) W := fun W => Lib.run_eql_slice_nil (P := Try.prog) W 83 149 none 0 c0 0 0 Try.underlying83
   go_enter Try.func165, Try.ntmps165
   go_wp2
   go_ret
   exact ⟨_, rfl, Kd.R_nil _ _ _ _ _, Below.refl _ _⟩
  | some ad =>
   have he : ∀ W, (binOp .eql 83 (.slice (some ad) l0.length c0) (.slice none 0 0)).run Try.prog W = .ok (.bool false) W := fun W => Lib.run_eql_slice_nil (P := Try.prog) W 83 149 (some ad) l0.length c0 0 0 Try.underlying83
   have HR := Aside0.mk hr0
   have HL := Aside0.mk hb
   clear hr0 hb
   go_enter Try.func165, Try.ntmps165
   go_wp2_with (first | ((with_reducible refine gate_dst (N := 5) rfl ?_); refine Kd.R_lit k149 _ 149 ?hg (N := 5) ?hd (xs := ([] : List S149)) (inner := []) (ok := fun _ => True) (okp := fun _ => True) ?hr ?hp (fun _ hk => hk) trivial (Below.refl _ _) (Nat.le_refl _) (by simp) ?_; (case hd => rfl); (case hg => rfl); (case hr => first | (go_simp; done) | (go_simp; rfl)); (case hp => exact Reps.none _ _); intro v1 w1 ho1 hb1 hg_ hnew_; clear hg_ hnew_; have HO := Aside0.mk ho1; have HB := Aside0.mk hb1; have HR1 := Aside0.mk (Kd.C_below HR.out hb1); clear ho1 hb1) | ((with_reducible refine gate_builtin (b := .append) (xs := #[.tmp 5, .tmp 6]) rfl ?_); at_builtin; refine Kd.R_append_rows k149 (w0 := w) w.heap.size rfl (.tmp 5) (.tmp 6) 83 149 (.agg #[(.int .i64 0), (.int .i64 0), (.int .i64 0), (.int .u64 0), (.int .u64 0)]) 40 rfl Try.underlying83 info149 rfl (by decide) (by omega) v1 ([] : List S149) l0 _ _ _ (fun _ => True) (fun _ => False) rfl rfl HO.out HR1.out ?aK (fun _ h => h.elim) (fun _ _ => trivial) HB.out HB.out.size ?aL ?_; (case aK => (intro x cs h; obtain rfl := k149_open h; exact k149_mkM _ _ _ x)); (case aL => (have := HL.out; simp; omega)); intro v2 w2 ho2 hb2 hg_ hnew_; clear hg_ hnew_; have HO2 := Aside0.mk ho2; have HB2 := Aside0.mk hb2; clear ho2 hb2))
   go_ret
   exact ⟨_, rfl, HO2.out, HB2.out⟩
 ·rw [if_neg hb] at h
  cases h
end Go.Proofs.Ytoaepfgfbfgcdaa.Q
