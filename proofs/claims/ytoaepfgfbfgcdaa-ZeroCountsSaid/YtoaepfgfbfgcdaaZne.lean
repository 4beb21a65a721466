/- Part 5 of the claim's own texts: the words and the printed functions that the proof reaches. No conditions. -/
import Derived.Test.YtoaepfgfbfgcdaaZnd
namespace Go.Proofs.Ytoaepfgfbfgcdaa.Q
open Go.RowKit Go.Proofs.YtoaepfgfbfgcdaaW.PrintWords Go.Proofs.YtoaepfgfbfgcdaaW.PrintLast Go.Proofs.YtoaepfgfbfgcdaaW.PrintMore
attribute [local go_sem] max2_int min2_int max_two min_two max_three min_three max_four min_four
set_option linter.unusedVariables false
set_option linter.unusedSimpArgs false
attribute [local go_sem high] eqA28
def steeplelaw21_awake.f (k : Nat)  : Option (Bool) := (some (([(([(⟨2, 0, 0, (⟨0, 0⟩ : S28)⟩ : S149), (⟨1, 0, 0, (⟨0, 1⟩ : S28)⟩ : S149), (⟨3, 0, 1, (⟨0, 0⟩ : S28)⟩ : S149)] : List (S149)))] : List (List (S149))) : List (List (S149)))).bind fun y488 => ((zero_Holds.f k 1 y488 (([(([(⟨0, 1⟩ : S28), (⟨0, 1⟩ : S28)] : List (S28)))] : List (List (S28))))).bind fun bt497 => ((zero_Holds.f k 1 y488 (([(([(⟨0, 1⟩ : S28), (⟨0, 0⟩ : S28)] : List (S28)))] : List (List (S28))))).bind fun bt505 => ((zero_Sum.f k 1 y488 (([(([(⟨0, 1⟩ : S28), (⟨0, 0⟩ : S28)] : List (S28)))] : List (List (S28)))) 0 0 (([(⟨0, 2⟩ : S28)] : List (S28)))).bind fun bt516 => (if bt497.2 = 0 then (if bt505.2 = 0 then (if bt516.2.2 = 0 then (if bt497.1 = true then (if bt505.1 = true then (some false) else (some (bt516.1 == 0 && (bt516.2.1 == 2)))) else (some false)) else (some false)) else (some false)) else (some false)))))
set_option maxHeartbeats 8000000 in
set_option maxRecDepth 100000 in
theorem steeplelaw21_awake.calls (k : Nat)  (r : Bool) (w : World) (h : steeplelaw21_awake.f k  = some r) :
  Calls Try.prog 29 #[] w fun e w' => e = .returned (.bool r) ∧ Below w.heap.size w w' := by
 have hu149 := Try.underlying149
 have hu28 := Try.underlying28
 have HB := Aside0.mk (Below.refl w.heap.size w)
 have H : ((some (([(([(⟨2, 0, 0, (⟨0, 0⟩ : S28)⟩ : S149), (⟨1, 0, 0, (⟨0, 1⟩ : S28)⟩ : S149), (⟨3, 0, 1, (⟨0, 0⟩ : S28)⟩ : S149)] : List (S149)))] : List (List (S149))) : List (List (S149)))).bind fun y488 => ((zero_Holds.f k 1 y488 (([(([(⟨0, 1⟩ : S28), (⟨0, 1⟩ : S28)] : List (S28)))] : List (List (S28))))).bind fun bt497 => ((zero_Holds.f k 1 y488 (([(([(⟨0, 1⟩ : S28), (⟨0, 0⟩ : S28)] : List (S28)))] : List (List (S28))))).bind fun bt505 => ((zero_Sum.f k 1 y488 (([(([(⟨0, 1⟩ : S28), (⟨0, 0⟩ : S28)] : List (S28)))] : List (List (S28)))) 0 0 (([(⟨0, 2⟩ : S28)] : List (S28)))).bind fun bt516 => (if bt497.2 = 0 then (if bt505.2 = 0 then (if bt516.2.2 = 0 then (if bt497.1 = true then (if bt505.1 = true then (some false) else (some (bt516.1 == 0 && (bt516.2.1 == 2)))) else (some false)) else (some false)) else (some false)) else (some false)))))) = some r := h
 clear h
 obtain ⟨y485, hy485⟩ : ∃ y_ : List (S149), y_ = (([(⟨2, 0, 0, (⟨0, 0⟩ : S28)⟩ : S149), (⟨1, 0, 0, (⟨0, 1⟩ : S28)⟩ : S149), (⟨3, 0, 1, (⟨0, 0⟩ : S28)⟩ : S149)] : List (S149))) := ⟨_, rfl⟩
 replace H : ((some (([y485] : List (List (S149))) : List (List (S149)))).bind fun y488 => ((zero_Holds.f k 1 y488 (([(([(⟨0, 1⟩ : S28), (⟨0, 1⟩ : S28)] : List (S28)))] : List (List (S28))))).bind fun bt497 => ((zero_Holds.f k 1 y488 (([(([(⟨0, 1⟩ : S28), (⟨0, 0⟩ : S28)] : List (S28)))] : List (List (S28))))).bind fun bt505 => ((zero_Sum.f k 1 y488 (([(([(⟨0, 1⟩ : S28), (⟨0, 0⟩ : S28)] : List (S28)))] : List (List (S28)))) 0 0 (([(⟨0, 2⟩ : S28)] : List (S28)))).bind fun bt516 => (if bt497.2 = 0 then (if bt505.2 = 0 then (if bt516.2.2 = 0 then (if bt497.1 = true then (if bt505.1 = true then (some false) else (some (bt516.1 == 0 && (bt516.2.1 == 2)))) else (some false)) else (some false)) else (some false)) else (some false)))))) = some r := by first | (rw [hy485]; with_reducible exact H) | (have H2_ := (Option.bind_some _ _).symm.trans H; rw [hy485]; with_reducible exact H2_) | (have H2_ := (Option.bind_some _ _).symm.trans H; with_reducible exact H2_) | with_reducible exact H | (rw [hy485]; exact H) | exact H
 have Ny485 := Aside0.mk hy485
 clear hy485
 obtain ⟨y488, hy488⟩ : ∃ y_ : List (List (S149)), y_ = (([y485] : List (List (S149)))) := ⟨_, rfl⟩
 replace H : ((zero_Holds.f k 1 y488 (([(([(⟨0, 1⟩ : S28), (⟨0, 1⟩ : S28)] : List (S28)))] : List (List (S28))))).bind fun bt497 => ((zero_Holds.f k 1 y488 (([(([(⟨0, 1⟩ : S28), (⟨0, 0⟩ : S28)] : List (S28)))] : List (List (S28))))).bind fun bt505 => ((zero_Sum.f k 1 y488 (([(([(⟨0, 1⟩ : S28), (⟨0, 0⟩ : S28)] : List (S28)))] : List (List (S28)))) 0 0 (([(⟨0, 2⟩ : S28)] : List (S28)))).bind fun bt516 => (if bt497.2 = 0 then (if bt505.2 = 0 then (if bt516.2.2 = 0 then (if bt497.1 = true then (if bt505.1 = true then (some false) else (some (bt516.1 == 0 && (bt516.2.1 == 2)))) else (some false)) else (some false)) else (some false)) else (some false))))) = some r := by first | (rw [hy488]; with_reducible exact H) | (have H2_ := (Option.bind_some _ _).symm.trans H; rw [hy488]; with_reducible exact H2_) | (have H2_ := (Option.bind_some _ _).symm.trans H; with_reducible exact H2_) | with_reducible exact H | (rw [hy488]; exact H) | exact H
 have Ny488 := Aside0.mk hy488
 clear hy488
 obtain ⟨y491, hy491⟩ : ∃ y_ : List (S28), y_ = (([(⟨0, 1⟩ : S28), (⟨0, 1⟩ : S28)] : List (S28))) := ⟨_, rfl⟩
 replace H : ((zero_Holds.f k 1 y488 (([y491] : List (List (S28))))).bind fun bt497 => ((zero_Holds.f k 1 y488 (([(([(⟨0, 1⟩ : S28), (⟨0, 0⟩ : S28)] : List (S28)))] : List (List (S28))))).bind fun bt505 => ((zero_Sum.f k 1 y488 (([(([(⟨0, 1⟩ : S28), (⟨0, 0⟩ : S28)] : List (S28)))] : List (List (S28)))) 0 0 (([(⟨0, 2⟩ : S28)] : List (S28)))).bind fun bt516 => (if bt497.2 = 0 then (if bt505.2 = 0 then (if bt516.2.2 = 0 then (if bt497.1 = true then (if bt505.1 = true then (some false) else (some (bt516.1 == 0 && (bt516.2.1 == 2)))) else (some false)) else (some false)) else (some false)) else (some false))))) = some r := by first | (rw [hy491]; with_reducible exact H) | (have H2_ := (Option.bind_some _ _).symm.trans H; rw [hy491]; with_reducible exact H2_) | (have H2_ := (Option.bind_some _ _).symm.trans H; with_reducible exact H2_) | with_reducible exact H | (rw [hy491]; exact H) | exact H
 have Ny491 := Aside0.mk hy491
 clear hy491
 obtain ⟨y494, hy494⟩ : ∃ y_ : List (List (S28)), y_ = (([y491] : List (List (S28)))) := ⟨_, rfl⟩
 replace H : ((zero_Holds.f k 1 y488 y494).bind fun bt497 => ((zero_Holds.f k 1 y488 (([(([(⟨0, 1⟩ : S28), (⟨0, 0⟩ : S28)] : List (S28)))] : List (List (S28))))).bind fun bt505 => ((zero_Sum.f k 1 y488 (([(([(⟨0, 1⟩ : S28), (⟨0, 0⟩ : S28)] : List (S28)))] : List (List (S28)))) 0 0 (([(⟨0, 2⟩ : S28)] : List (S28)))).bind fun bt516 => (if bt497.2 = 0 then (if bt505.2 = 0 then (if bt516.2.2 = 0 then (if bt497.1 = true then (if bt505.1 = true then (some false) else (some (bt516.1 == 0 && (bt516.2.1 == 2)))) else (some false)) else (some false)) else (some false)) else (some false))))) = some r := by first | (rw [hy494]; with_reducible exact H) | (have H2_ := (Option.bind_some _ _).symm.trans H; rw [hy494]; with_reducible exact H2_) | (have H2_ := (Option.bind_some _ _).symm.trans H; with_reducible exact H2_) | with_reducible exact H | (rw [hy494]; exact H) | exact H
 have Ny494 := Aside0.mk hy494
 clear hy494
 replace H := Option.bind_eq_some_iff.mp H
 obtain ⟨⟨t497, t498⟩, A10, H⟩ := H
 replace H : ((zero_Holds.f k 1 y488 (([(([(⟨0, 1⟩ : S28), (⟨0, 0⟩ : S28)] : List (S28)))] : List (List (S28))))).bind fun bt505 => ((zero_Sum.f k 1 y488 (([(([(⟨0, 1⟩ : S28), (⟨0, 0⟩ : S28)] : List (S28)))] : List (List (S28)))) 0 0 (([(⟨0, 2⟩ : S28)] : List (S28)))).bind fun bt516 => (if t498 = 0 then (if bt505.2 = 0 then (if bt516.2.2 = 0 then (if t497 = true then (if bt505.1 = true then (some false) else (some (bt516.1 == 0 && (bt516.2.1 == 2)))) else (some false)) else (some false)) else (some false)) else (some false)))) = some r := H
 have A1 := Aside0.mk A10
 clear A10
 obtain ⟨y499, hy499⟩ : ∃ y_ : List (S28), y_ = (([(⟨0, 1⟩ : S28), (⟨0, 0⟩ : S28)] : List (S28))) := ⟨_, rfl⟩
 replace H : ((zero_Holds.f k 1 y488 (([y499] : List (List (S28))))).bind fun bt505 => ((zero_Sum.f k 1 y488 (([(([(⟨0, 1⟩ : S28), (⟨0, 0⟩ : S28)] : List (S28)))] : List (List (S28)))) 0 0 (([(⟨0, 2⟩ : S28)] : List (S28)))).bind fun bt516 => (if t498 = 0 then (if bt505.2 = 0 then (if bt516.2.2 = 0 then (if t497 = true then (if bt505.1 = true then (some false) else (some (bt516.1 == 0 && (bt516.2.1 == 2)))) else (some false)) else (some false)) else (some false)) else (some false)))) = some r := by first | (rw [hy499]; with_reducible exact H) | (have H2_ := (Option.bind_some _ _).symm.trans H; rw [hy499]; with_reducible exact H2_) | (have H2_ := (Option.bind_some _ _).symm.trans H; with_reducible exact H2_) | with_reducible exact H | (rw [hy499]; exact H) | exact H
 have Ny499 := Aside0.mk hy499
 clear hy499
 obtain ⟨y502, hy502⟩ : ∃ y_ : List (List (S28)), y_ = (([y499] : List (List (S28)))) := ⟨_, rfl⟩
 replace H : ((zero_Holds.f k 1 y488 y502).bind fun bt505 => ((zero_Sum.f k 1 y488 (([(([(⟨0, 1⟩ : S28), (⟨0, 0⟩ : S28)] : List (S28)))] : List (List (S28)))) 0 0 (([(⟨0, 2⟩ : S28)] : List (S28)))).bind fun bt516 => (if t498 = 0 then (if bt505.2 = 0 then (if bt516.2.2 = 0 then (if t497 = true then (if bt505.1 = true then (some false) else (some (bt516.1 == 0 && (bt516.2.1 == 2)))) else (some false)) else (some false)) else (some false)) else (some false)))) = some r := by first | (rw [hy502]; with_reducible exact H) | (have H2_ := (Option.bind_some _ _).symm.trans H; rw [hy502]; with_reducible exact H2_) | (have H2_ := (Option.bind_some _ _).symm.trans H; with_reducible exact H2_) | with_reducible exact H | (rw [hy502]; exact H) | exact H
 have Ny502 := Aside0.mk hy502
 clear hy502
 replace H := Option.bind_eq_some_iff.mp H
 obtain ⟨⟨t505, t506⟩, A20, H⟩ := H
 replace H : ((zero_Sum.f k 1 y488 (([(([(⟨0, 1⟩ : S28), (⟨0, 0⟩ : S28)] : List (S28)))] : List (List (S28)))) 0 0 (([(⟨0, 2⟩ : S28)] : List (S28)))).bind fun bt516 => (if t498 = 0 then (if t506 = 0 then (if bt516.2.2 = 0 then (if t497 = true then (if t505 = true then (some false) else (some (bt516.1 == 0 && (bt516.2.1 == 2)))) else (some false)) else (some false)) else (some false)) else (some false))) = some r := H
 have A2 := Aside0.mk A20
 clear A20
 obtain ⟨y507, hy507⟩ : ∃ y_ : List (S28), y_ = (([(⟨0, 1⟩ : S28), (⟨0, 0⟩ : S28)] : List (S28))) := ⟨_, rfl⟩
 replace H : ((zero_Sum.f k 1 y488 (([y507] : List (List (S28)))) 0 0 (([(⟨0, 2⟩ : S28)] : List (S28)))).bind fun bt516 => (if t498 = 0 then (if t506 = 0 then (if bt516.2.2 = 0 then (if t497 = true then (if t505 = true then (some false) else (some (bt516.1 == 0 && (bt516.2.1 == 2)))) else (some false)) else (some false)) else (some false)) else (some false))) = some r := by first | (rw [hy507]; with_reducible exact H) | (have H2_ := (Option.bind_some _ _).symm.trans H; rw [hy507]; with_reducible exact H2_) | (have H2_ := (Option.bind_some _ _).symm.trans H; with_reducible exact H2_) | with_reducible exact H | (rw [hy507]; exact H) | exact H
 have Ny507 := Aside0.mk hy507
 clear hy507
 obtain ⟨y510, hy510⟩ : ∃ y_ : List (List (S28)), y_ = (([y507] : List (List (S28)))) := ⟨_, rfl⟩
 replace H : ((zero_Sum.f k 1 y488 y510 0 0 (([(⟨0, 2⟩ : S28)] : List (S28)))).bind fun bt516 => (if t498 = 0 then (if t506 = 0 then (if bt516.2.2 = 0 then (if t497 = true then (if t505 = true then (some false) else (some (bt516.1 == 0 && (bt516.2.1 == 2)))) else (some false)) else (some false)) else (some false)) else (some false))) = some r := by first | (rw [hy510]; with_reducible exact H) | (have H2_ := (Option.bind_some _ _).symm.trans H; rw [hy510]; with_reducible exact H2_) | (have H2_ := (Option.bind_some _ _).symm.trans H; with_reducible exact H2_) | with_reducible exact H | (rw [hy510]; exact H) | exact H
 have Ny510 := Aside0.mk hy510
 clear hy510
 obtain ⟨y513, hy513⟩ : ∃ y_ : List (S28), y_ = (([(⟨0, 2⟩ : S28)] : List (S28))) := ⟨_, rfl⟩
 replace H : ((zero_Sum.f k 1 y488 y510 0 0 y513).bind fun bt516 => (if t498 = 0 then (if t506 = 0 then (if bt516.2.2 = 0 then (if t497 = true then (if t505 = true then (some false) else (some (bt516.1 == 0 && (bt516.2.1 == 2)))) else (some false)) else (some false)) else (some false)) else (some false))) = some r := by first | (rw [hy513]; with_reducible exact H) | (have H2_ := (Option.bind_some _ _).symm.trans H; rw [hy513]; with_reducible exact H2_) | (have H2_ := (Option.bind_some _ _).symm.trans H; with_reducible exact H2_) | with_reducible exact H | (rw [hy513]; exact H) | exact H
 have Ny513 := Aside0.mk hy513
 clear hy513
 replace H := Option.bind_eq_some_iff.mp H
 obtain ⟨⟨t516, t517, t518⟩, A30, H⟩ := H
 replace H : (if t498 = 0 then (if t506 = 0 then (if t518 = 0 then (if t497 = true then (if t505 = true then (some false) else (some (t516 == 0 && (t517 == 2)))) else (some false)) else (some false)) else (some false)) else (some false)) = some r := H
 have A3 := Aside0.mk A30
 clear A30
 by_cases c4 : t498 = 0
 ·rw [if_pos c4] at H
  have c4b0 : (t498 == 0) = true := beq_iff_eq.mpr c4
  have c4b1 : (t498 != 0) = false := bne_eq_false_iff_eq.mpr c4
  clear c4
  by_cases c5 : t506 = 0
  ·rw [if_pos c5] at H
   have c5b0 : (t506 == 0) = true := beq_iff_eq.mpr c5
   have c5b1 : (t506 != 0) = false := bne_eq_false_iff_eq.mpr c5
   clear c5
   by_cases c6 : t518 = 0
   ·rw [if_pos c6] at H
    have c6b0 : (t518 == 0) = true := beq_iff_eq.mpr c6
    have c6b1 : (t518 != 0) = false := bne_eq_false_iff_eq.mpr c6
    clear c6
    by_cases c7 : t497 = true
    ·subst c7
     have H1 : (if t505 = true then (some false) else (some (t516 == 0 && (t517 == 2)))) = some r := by rw [if_pos rfl] at H; exact H
     clear H
     have H := H1
     clear H1
     by_cases c8 : t505 = true
     ·subst c8
      have H1 : (some false) = some r := by rw [if_pos rfl] at H; exact H
      clear H
      have H := H1
      clear H1
      obtain rfl := Option.some.inj H
      go_enter Try.func29, Try.ntmps29
      go_wp2_with (first | ((with_reducible refine gate_dst (N := 12) rfl ?_); refine Kd.R_lit k149 _ 149 ?hg (N := 12) ?hd (xs := ([(⟨2, 0, 0, (⟨0, 0⟩ : S28)⟩ : S149), (⟨1, 0, 0, (⟨0, 1⟩ : S28)⟩ : S149), (⟨3, 0, 1, (⟨0, 0⟩ : S28)⟩ : S149)] : List (S149))) (inner := [.int .i64 2, .int .i64 0, .int .i64 0, .int .u64 0, .int .u64 0, .int .i64 1, .int .i64 0, .int .i64 0, .int .u64 0, .int .u64 1, .int .i64 3, .int .i64 0, .int .i64 1, .int .u64 0, .int .u64 0]) (ok := fun _ => True) (okp := fun _ => True) ?hr ?hp (fun _ hk => hk) trivial (Below.refl _ _) (Nat.le_refl _) (by simp) ?_; (case hd => rfl); (case hg => rfl); (case hr => first | (go_simp; done) | (go_simp; rfl)); (case hp => exact (Reps.c5 (show Kd.M k149 _ _ _ (⟨2, 0, 0, (⟨0, 0⟩ : S28)⟩ : S149) [.int .i64 2, .int .i64 0, .int .i64 0, .int .u64 0, .int .u64 0] from (k149_mkM _ _ _ (⟨2, 0, 0, (⟨0, 0⟩ : S28)⟩ : S149) )) (Reps.c5 (show Kd.M k149 _ _ _ (⟨1, 0, 0, (⟨0, 1⟩ : S28)⟩ : S149) [.int .i64 1, .int .i64 0, .int .i64 0, .int .u64 0, .int .u64 1] from (k149_mkM _ _ _ (⟨1, 0, 0, (⟨0, 1⟩ : S28)⟩ : S149) )) (Reps.c5 (show Kd.M k149 _ _ _ (⟨3, 0, 1, (⟨0, 0⟩ : S28)⟩ : S149) [.int .i64 3, .int .i64 0, .int .i64 1, .int .u64 0, .int .u64 0] from (k149_mkM _ _ _ (⟨3, 0, 1, (⟨0, 0⟩ : S28)⟩ : S149) )) (Reps.none _ _))))); intro v486 w9 ho10 hb hg_ hnew_; clear hg_ hnew_; (first | rw [← Ny485.out] at ho10 | (simp only [Int.reduceToNat] at ho10; rw [← Ny485.out] at ho10)); have n0_ := Aside0.mk (Kd.R_lower ho10 (below_size (by exact lF HB.out))); have n1_ := Aside0.mk (below_step (by exact lF HB.out) hb); clear HB; have HO487 := n0_; have HB := n1_; clear n0_ n1_; clear hb ho10; obtain ⟨Ao11, co11, eo11⟩ := Kd.R_slice HO487.out; subst eo11) | ((with_reducible refine gate_dst (N := 13) rfl ?_); refine Kd.N_lit (Kd.slice 149 k149) _ 83 ?hg (N' := 13) ?hd (xs := ([y485] : List (List (S149)))) (inner := [.slice Ao11 y485.length co11]) (ok := (fun _ => True)) (okp := (fun _ => True)) ?hr ?hp (fun _ hk => hk) ((show ∀ k_, w9.heap.size ≤ k_ → (fun _ => True) k_ from fun k_ hk => trivial) _ (Nat.le_refl _)) (Below.refl _ _) (Nat.le_refl _) (by simp) ?_; (case hd => rfl); (case hg => rfl); (case hr => first | (go_simp; done) | (go_simp; rfl)); (case hp => exact (Reps.one (show Kd.FK (Kd.slice 149 k149) _ _ y485 [.slice Ao11 y485.length co11] from (Kd.FK_slice_mk (Kd.R_reads' (Kd.R_mono (ok' := (fun _ => True)) (HO487.out) (fun k_ hk => trivial))).2.1 (Kd.R_F (Kd.R_mono (ok' := (fun _ => True)) (HO487.out) (fun k_ hk => trivial))))) (Reps.none _ _))); intro v489 w12 ho13 hb hg_ hnew_; clear hg_ hnew_; (first | rw [← Ny488.out] at ho13 | (simp only [Int.reduceToNat] at ho13; rw [← Ny488.out] at ho13)); have n0_ := Aside0.mk (Kd.N_lower ho13 (below_size (by exact lF HB.out))); have n1_ := Aside0.mk (below_step (by exact lF HB.out) hb); clear HB; clear HO487; have HO490 := n0_; have HB := n1_; clear n0_ n1_; clear hb ho13) | ((with_reducible refine gate_dst (N := 18) rfl ?_); refine Kd.R_lit k28 _ 28 ?hg (N := 18) ?hd (xs := ([(⟨0, 1⟩ : S28), (⟨0, 1⟩ : S28)] : List (S28))) (inner := [.int .u64 0, .int .u64 1, .int .u64 0, .int .u64 1]) (ok := fun _ => True) (okp := fun _ => True) ?hr ?hp (fun _ hk => hk) trivial (Below.refl _ _) (Nat.le_refl _) (by simp) ?_; (case hd => rfl); (case hg => rfl); (case hr => first | (go_simp; done) | (go_simp; rfl)); (case hp => exact (Reps.c2 (show Kd.M k28 _ _ _ (⟨0, 1⟩ : S28) [.int .u64 0, .int .u64 1] from (k28_mkM _ _ _ (⟨0, 1⟩ : S28) )) (Reps.c2 (show Kd.M k28 _ _ _ (⟨0, 1⟩ : S28) [.int .u64 0, .int .u64 1] from (k28_mkM _ _ _ (⟨0, 1⟩ : S28) )) (Reps.none _ _)))); intro v492 w14 ho15 hb hg_ hnew_; clear hg_ hnew_; (first | rw [← Ny491.out] at ho15 | (simp only [Int.reduceToNat] at ho15; rw [← Ny491.out] at ho15)); have n0_ := Aside0.mk (Kd.N_elder' (by exact nF HO490.out) (Kd.R_base ho15) hb); have n1_ := Aside0.mk (Kd.R_lower ho15 (below_size (by exact lF HB.out))); have n2_ := Aside0.mk (below_step (by exact lF HB.out) hb); clear HO490; clear HB; have HO490 := n0_; have HO493 := n1_; have HB := n2_; clear n0_ n1_ n2_; clear hb ho15; obtain ⟨Ao16, co16, eo16⟩ := Kd.R_slice HO493.out; subst eo16) | ((with_reducible refine gate_dst (N := 19) rfl ?_); refine Kd.N_lit (Kd.slice 28 k28) _ 53 ?hg (N' := 19) ?hd (xs := ([y491] : List (List (S28)))) (inner := [.slice Ao16 y491.length co16]) (ok := (fun k_ => some k_ ≠ (v489 : Value).ownBlock)) (okp := (fun k_ => some k_ ≠ (v489 : Value).ownBlock)) ?hr ?hp (fun _ hk => hk) ((show ∀ k_, w14.heap.size ≤ k_ → (fun k_ => some k_ ≠ (v489 : Value).ownBlock) k_ from fun k_ hk => Kd.fresh' (Kd.N_lt (by exact nF HO490.out)) k_ hk) _ (Nat.le_refl _)) (Below.refl _ _) (Nat.le_refl _) (by simp) ?_; (case hd => rfl); (case hg => rfl); (case hr => first | (go_simp; done) | (go_simp; rfl)); (case hp => exact (Reps.one (show Kd.FK (Kd.slice 28 k28) _ _ y491 [.slice Ao16 y491.length co16] from (Kd.FK_slice_mk (Kd.R_reads' (Kd.R_mono (ok' := (fun k_ => some k_ ≠ (v489 : Value).ownBlock)) (Kd.R_apart' (HO493.out) (Kd.N_typed HO490.out) (by decide)) (fun k_ hk => hk.2))).2.1 (Kd.R_F (Kd.R_mono (ok' := (fun k_ => some k_ ≠ (v489 : Value).ownBlock)) (Kd.R_apart' (HO493.out) (Kd.N_typed HO490.out) (by decide)) (fun k_ hk => hk.2))))) (Reps.none _ _))); intro v495 w17 ho18 hb hg_ hnew_; clear hg_ hnew_; (first | rw [← Ny494.out] at ho18 | (simp only [Int.reduceToNat] at ho18; rw [← Ny494.out] at ho18)); have n0_ := Aside0.mk (Kd.N_elder' (by exact nF HO490.out) (Kd.N_base ho18) hb); have n1_ := Aside0.mk (Kd.N_lower ho18 (below_size (by exact lF HB.out))); have n2_ := Aside0.mk (below_step (by exact lF HB.out) hb); clear HO490; clear HB; clear HO493; have HO490 := n0_; have HO496 := n1_; have HB := n2_; clear n0_ n1_ n2_; clear hb ho18; obtain ⟨Ao19, co19, eo19⟩ := Kd.N_slice HO490.out; subst eo19; obtain ⟨Ao20, co20, eo20⟩ := Kd.N_slice HO496.out; subst eo20) | ((with_reducible refine gate_callee (f := 32) rfl ?_); refine goesL_ (some 20) rfl rfl Try.func32 (by kernel_rfl) rfl #[.int .i64 1, .slice Ao19 y488.length co19, .slice Ao20 y494.length co20] rfl (by (try simp only [List.map_toArray, List.map_cons, List.map_nil]); first | done | rfl | (simp only [List.length_drop, List.length_take]; rfl)) ?_; (with_reducible refine (zero_Holds.calls k 1 _ _ y488 _ _ y494 true t498 _ ?side1 ?side2 ?side3 ?side4 A1.out).mono ?_); (case side1 => repeat (first | exact (Kd.N_reads' HO490.out).2.2 | (with_reducible refine Kd.C_alloc ?_ _) | (with_reducible refine Kd.C_drewN ?_ _) | (with_reducible refine Kd.C_drew ?_))); (case side2 => exact (Kd.N_reads' HO490.out).2.1); (case side3 => repeat (first | exact (Kd.N_reads' HO496.out).2.2 | (with_reducible refine Kd.C_alloc ?_ _) | (with_reducible refine Kd.C_drewN ?_ _) | (with_reducible refine Kd.C_drew ?_))); (case side4 => exact (Kd.N_reads' HO496.out).2.1); rintro e w21 ⟨rfl, hb⟩; refine ⟨_, rfl, ?_⟩; have n0_ := Aside0.mk (Kd.N_below (by exact nF HO490.out) hb); have n1_ := Aside0.mk (Kd.N_below (by exact nF HO496.out) hb); have n2_ := Aside0.mk (below_step (by exact lF HB.out) hb); clear HO490; clear HO496; clear HB; have HO490 := n0_; have HO496 := n1_; have HB := n2_; clear n0_ n1_ n2_; (try clear hb); (try clear hb2); (try clear hk); (try clear hi)) | ((with_reducible refine gate_dst (N := 27) rfl ?_); refine Kd.R_lit k28 _ 28 ?hg (N := 27) ?hd (xs := ([(⟨0, 1⟩ : S28), (⟨0, 0⟩ : S28)] : List (S28))) (inner := [.int .u64 0, .int .u64 1, .int .u64 0, .int .u64 0]) (ok := fun _ => True) (okp := fun _ => True) ?hr ?hp (fun _ hk => hk) trivial (Below.refl _ _) (Nat.le_refl _) (by simp) ?_; (case hd => rfl); (case hg => rfl); (case hr => first | (go_simp; done) | (go_simp; rfl)); (case hp => exact (Reps.c2 (show Kd.M k28 _ _ _ (⟨0, 1⟩ : S28) [.int .u64 0, .int .u64 1] from (k28_mkM _ _ _ (⟨0, 1⟩ : S28) )) (Reps.c2 (show Kd.M k28 _ _ _ (⟨0, 0⟩ : S28) [.int .u64 0, .int .u64 0] from (k28_mkM _ _ _ (⟨0, 0⟩ : S28) )) (Reps.none _ _)))); intro v500 w22 ho23 hb hg_ hnew_; clear hg_ hnew_; (first | rw [← Ny499.out] at ho23 | (simp only [Int.reduceToNat] at ho23; rw [← Ny499.out] at ho23)); have n0_ := Aside0.mk (Kd.N_elder' (by exact nF HO490.out) (Kd.R_base ho23) hb); have n1_ := Aside0.mk (Kd.N_elder' (by exact nF HO496.out) (Kd.R_base ho23) hb); have n2_ := Aside0.mk (Kd.R_lower ho23 (below_size (by exact lF HB.out))); have n3_ := Aside0.mk (below_step (by exact lF HB.out) hb); clear HO490; clear HO496; clear HB; have HO490 := n0_; have HO496 := n1_; have HO501 := n2_; have HB := n3_; clear n0_ n1_ n2_ n3_; clear hb ho23; obtain ⟨Ao24, co24, eo24⟩ := Kd.R_slice HO501.out; subst eo24) | ((with_reducible refine gate_dst (N := 28) rfl ?_); refine Kd.N_lit (Kd.slice 28 k28) _ 53 ?hg (N' := 28) ?hd (xs := ([y499] : List (List (S28)))) (inner := [.slice Ao24 y499.length co24]) (ok := (fun k_ => some k_ ≠ (.slice Ao19 y488.length co19 : Value).ownBlock ∧ some k_ ≠ (.slice Ao20 y494.length co20 : Value).ownBlock)) (okp := (fun k_ => some k_ ≠ (.slice Ao19 y488.length co19 : Value).ownBlock ∧ some k_ ≠ (.slice Ao20 y494.length co20 : Value).ownBlock)) ?hr ?hp (fun _ hk => hk) ((show ∀ k_, w22.heap.size ≤ k_ → (fun k_ => some k_ ≠ (.slice Ao19 y488.length co19 : Value).ownBlock ∧ some k_ ≠ (.slice Ao20 y494.length co20 : Value).ownBlock) k_ from fun k_ hk => ⟨Kd.fresh' (Kd.N_lt (by exact nF HO490.out)) k_ hk, Kd.fresh' (Kd.N_lt (by exact nF HO496.out)) k_ hk⟩) _ (Nat.le_refl _)) (Below.refl _ _) (Nat.le_refl _) (by simp) ?_; (case hd => rfl); (case hg => rfl); (case hr => first | (go_simp; done) | (go_simp; rfl)); (case hp => exact (Reps.one (show Kd.FK (Kd.slice 28 k28) _ _ y499 [.slice Ao24 y499.length co24] from (Kd.FK_slice_mk (Kd.R_reads' (Kd.R_mono (ok' := (fun k_ => some k_ ≠ (.slice Ao19 y488.length co19 : Value).ownBlock ∧ some k_ ≠ (.slice Ao20 y494.length co20 : Value).ownBlock)) (Kd.R_apart' (Kd.R_apart' (HO501.out) (Kd.N_typed HO490.out) (by decide)) (Kd.N_typed HO496.out) (by decide)) (fun k_ hk => ⟨hk.1.2, hk.2⟩))).2.1 (Kd.R_F (Kd.R_mono (ok' := (fun k_ => some k_ ≠ (.slice Ao19 y488.length co19 : Value).ownBlock ∧ some k_ ≠ (.slice Ao20 y494.length co20 : Value).ownBlock)) (Kd.R_apart' (Kd.R_apart' (HO501.out) (Kd.N_typed HO490.out) (by decide)) (Kd.N_typed HO496.out) (by decide)) (fun k_ hk => ⟨hk.1.2, hk.2⟩))))) (Reps.none _ _))); intro v503 w25 ho26 hb hg_ hnew_; clear hg_ hnew_; (first | rw [← Ny502.out] at ho26 | (simp only [Int.reduceToNat] at ho26; rw [← Ny502.out] at ho26)); have n0_ := Aside0.mk (Kd.N_elder' (by exact nF HO490.out) (Kd.N_base ho26) hb); have n1_ := Aside0.mk (Kd.N_elder' (by exact nF HO496.out) (Kd.N_base ho26) hb); have n2_ := Aside0.mk (Kd.N_lower ho26 (below_size (by exact lF HB.out))); have n3_ := Aside0.mk (below_step (by exact lF HB.out) hb); clear HO490; clear HO496; clear HB; clear HO501; have HO490 := n0_; have HO496 := n1_; have HO504 := n2_; have HB := n3_; clear n0_ n1_ n2_ n3_; clear hb ho26; obtain ⟨Ao27, co27, eo27⟩ := Kd.N_slice HO504.out; subst eo27) | ((with_reducible refine gate_callee (f := 32) rfl ?_); refine goesL_ (some 29) rfl rfl Try.func32 (by kernel_rfl) rfl #[.int .i64 1, .slice Ao19 y488.length co19, .slice Ao27 y502.length co27] rfl (by (try simp only [List.map_toArray, List.map_cons, List.map_nil]); first | done | rfl | (simp only [List.length_drop, List.length_take]; rfl)) ?_; (with_reducible refine (zero_Holds.calls k 1 _ _ y488 _ _ y502 true t506 _ ?side1 ?side2 ?side3 ?side4 A2.out).mono ?_); (case side1 => repeat (first | exact (Kd.N_reads' HO490.out).2.2 | (with_reducible refine Kd.C_alloc ?_ _) | (with_reducible refine Kd.C_drewN ?_ _) | (with_reducible refine Kd.C_drew ?_))); (case side2 => exact (Kd.N_reads' HO490.out).2.1); (case side3 => repeat (first | exact (Kd.N_reads' HO504.out).2.2 | (with_reducible refine Kd.C_alloc ?_ _) | (with_reducible refine Kd.C_drewN ?_ _) | (with_reducible refine Kd.C_drew ?_))); (case side4 => exact (Kd.N_reads' HO504.out).2.1); rintro e w28 ⟨rfl, hb⟩; refine ⟨_, rfl, ?_⟩; have n0_ := Aside0.mk (Kd.N_below (by exact nF HO490.out) hb); have n1_ := Aside0.mk (Kd.N_below (by exact nF HO496.out) hb); have n2_ := Aside0.mk (Kd.N_below (by exact nF HO504.out) hb); have n3_ := Aside0.mk (below_step (by exact lF HB.out) hb); clear HO490; clear HO496; clear HO504; clear HB; have HO490 := n0_; have HO496 := n1_; have HO504 := n2_; have HB := n3_; clear n0_ n1_ n2_ n3_; (try clear hb); (try clear hb2); (try clear hk); (try clear hi)) | ((with_reducible refine gate_dst (N := 36) rfl ?_); refine Kd.R_lit k28 _ 28 ?hg (N := 36) ?hd (xs := ([(⟨0, 1⟩ : S28), (⟨0, 0⟩ : S28)] : List (S28))) (inner := [.int .u64 0, .int .u64 1, .int .u64 0, .int .u64 0]) (ok := fun _ => True) (okp := fun _ => True) ?hr ?hp (fun _ hk => hk) trivial (Below.refl _ _) (Nat.le_refl _) (by simp) ?_; (case hd => rfl); (case hg => rfl); (case hr => first | (go_simp; done) | (go_simp; rfl)); (case hp => exact (Reps.c2 (show Kd.M k28 _ _ _ (⟨0, 1⟩ : S28) [.int .u64 0, .int .u64 1] from (k28_mkM _ _ _ (⟨0, 1⟩ : S28) )) (Reps.c2 (show Kd.M k28 _ _ _ (⟨0, 0⟩ : S28) [.int .u64 0, .int .u64 0] from (k28_mkM _ _ _ (⟨0, 0⟩ : S28) )) (Reps.none _ _)))); intro v508 w29 ho30 hb hg_ hnew_; clear hg_ hnew_; (first | rw [← Ny507.out] at ho30 | (simp only [Int.reduceToNat] at ho30; rw [← Ny507.out] at ho30)); have n0_ := Aside0.mk (Kd.N_elder' (by exact nF HO490.out) (Kd.R_base ho30) hb); have n1_ := Aside0.mk (Kd.N_elder' (by exact nF HO496.out) (Kd.R_base ho30) hb); have n2_ := Aside0.mk (Kd.N_elder' (by exact nF HO504.out) (Kd.R_base ho30) hb); have n3_ := Aside0.mk (Kd.R_lower ho30 (below_size (by exact lF HB.out))); have n4_ := Aside0.mk (below_step (by exact lF HB.out) hb); clear HO490; clear HO496; clear HO504; clear HB; have HO490 := n0_; have HO496 := n1_; have HO504 := n2_; have HO509 := n3_; have HB := n4_; clear n0_ n1_ n2_ n3_ n4_; clear hb ho30; obtain ⟨Ao31, co31, eo31⟩ := Kd.R_slice HO509.out; subst eo31) | ((with_reducible refine gate_dst (N := 37) rfl ?_); refine Kd.N_lit (Kd.slice 28 k28) _ 53 ?hg (N' := 37) ?hd (xs := ([y507] : List (List (S28)))) (inner := [.slice Ao31 y507.length co31]) (ok := (fun k_ => some k_ ≠ (.slice Ao19 y488.length co19 : Value).ownBlock ∧ some k_ ≠ (.slice Ao20 y494.length co20 : Value).ownBlock ∧ some k_ ≠ (.slice Ao27 y502.length co27 : Value).ownBlock)) (okp := (fun k_ => some k_ ≠ (.slice Ao19 y488.length co19 : Value).ownBlock ∧ some k_ ≠ (.slice Ao20 y494.length co20 : Value).ownBlock ∧ some k_ ≠ (.slice Ao27 y502.length co27 : Value).ownBlock)) ?hr ?hp (fun _ hk => hk) ((show ∀ k_, w29.heap.size ≤ k_ → (fun k_ => some k_ ≠ (.slice Ao19 y488.length co19 : Value).ownBlock ∧ some k_ ≠ (.slice Ao20 y494.length co20 : Value).ownBlock ∧ some k_ ≠ (.slice Ao27 y502.length co27 : Value).ownBlock) k_ from fun k_ hk => ⟨Kd.fresh' (Kd.N_lt (by exact nF HO490.out)) k_ hk, Kd.fresh' (Kd.N_lt (by exact nF HO496.out)) k_ hk, Kd.fresh' (Kd.N_lt (by exact nF HO504.out)) k_ hk⟩) _ (Nat.le_refl _)) (Below.refl _ _) (Nat.le_refl _) (by simp) ?_; (case hd => rfl); (case hg => rfl); (case hr => first | (go_simp; done) | (go_simp; rfl)); (case hp => exact (Reps.one (show Kd.FK (Kd.slice 28 k28) _ _ y507 [.slice Ao31 y507.length co31] from (Kd.FK_slice_mk (Kd.R_reads' (Kd.R_mono (ok' := (fun k_ => some k_ ≠ (.slice Ao19 y488.length co19 : Value).ownBlock ∧ some k_ ≠ (.slice Ao20 y494.length co20 : Value).ownBlock ∧ some k_ ≠ (.slice Ao27 y502.length co27 : Value).ownBlock)) (Kd.R_apart' (Kd.R_apart' (Kd.R_apart' (HO509.out) (Kd.N_typed HO490.out) (by decide)) (Kd.N_typed HO496.out) (by decide)) (Kd.N_typed HO504.out) (by decide)) (fun k_ hk => ⟨hk.1.1.2, ⟨hk.1.2, hk.2⟩⟩))).2.1 (Kd.R_F (Kd.R_mono (ok' := (fun k_ => some k_ ≠ (.slice Ao19 y488.length co19 : Value).ownBlock ∧ some k_ ≠ (.slice Ao20 y494.length co20 : Value).ownBlock ∧ some k_ ≠ (.slice Ao27 y502.length co27 : Value).ownBlock)) (Kd.R_apart' (Kd.R_apart' (Kd.R_apart' (HO509.out) (Kd.N_typed HO490.out) (by decide)) (Kd.N_typed HO496.out) (by decide)) (Kd.N_typed HO504.out) (by decide)) (fun k_ hk => ⟨hk.1.1.2, ⟨hk.1.2, hk.2⟩⟩))))) (Reps.none _ _))); intro v511 w32 ho33 hb hg_ hnew_; clear hg_ hnew_; (first | rw [← Ny510.out] at ho33 | (simp only [Int.reduceToNat] at ho33; rw [← Ny510.out] at ho33)); have n0_ := Aside0.mk (Kd.N_elder' (by exact nF HO490.out) (Kd.N_base ho33) hb); have n1_ := Aside0.mk (Kd.N_elder' (by exact nF HO496.out) (Kd.N_base ho33) hb); have n2_ := Aside0.mk (Kd.N_elder' (by exact nF HO504.out) (Kd.N_base ho33) hb); have n3_ := Aside0.mk (Kd.N_lower ho33 (below_size (by exact lF HB.out))); have n4_ := Aside0.mk (below_step (by exact lF HB.out) hb); clear HO490; clear HO496; clear HO504; clear HB; clear HO509; have HO490 := n0_; have HO496 := n1_; have HO504 := n2_; have HO512 := n3_; have HB := n4_; clear n0_ n1_ n2_ n3_ n4_; clear hb ho33) | ((with_reducible refine gate_dst (N := 40) rfl ?_); refine Kd.R_lit k28 _ 28 ?hg (N := 40) ?hd (xs := ([(⟨0, 2⟩ : S28)] : List (S28))) (inner := [.int .u64 0, .int .u64 2]) (ok := fun _ => True) (okp := fun _ => True) ?hr ?hp (fun _ hk => hk) trivial (Below.refl _ _) (Nat.le_refl _) (by simp) ?_; (case hd => rfl); (case hg => rfl); (case hr => first | (go_simp; done) | (go_simp; rfl)); (case hp => exact (Reps.c2 (show Kd.M k28 _ _ _ (⟨0, 2⟩ : S28) [.int .u64 0, .int .u64 2] from (k28_mkM _ _ _ (⟨0, 2⟩ : S28) )) (Reps.none _ _))); intro v514 w34 ho35 hb hg_ hnew_; clear hg_ hnew_; (first | rw [← Ny513.out] at ho35 | (simp only [Int.reduceToNat] at ho35; rw [← Ny513.out] at ho35)); have n0_ := Aside0.mk (Kd.N_elder' (by exact nF HO490.out) (Kd.R_base ho35) hb); have n1_ := Aside0.mk (Kd.N_elder' (by exact nF HO496.out) (Kd.R_base ho35) hb); have n2_ := Aside0.mk (Kd.N_elder' (by exact nF HO504.out) (Kd.R_base ho35) hb); have n3_ := Aside0.mk (Kd.N_elder' (by exact nF HO512.out) (Kd.R_base ho35) hb); have n4_ := Aside0.mk (Kd.R_lower ho35 (below_size (by exact lF HB.out))); have n5_ := Aside0.mk (below_step (by exact lF HB.out) hb); clear HO490; clear HO496; clear HO504; clear HO512; clear HB; have HO490 := n0_; have HO496 := n1_; have HO504 := n2_; have HO512 := n3_; have HO515 := n4_; have HB := n5_; clear n0_ n1_ n2_ n3_ n4_ n5_; clear hb ho35; obtain ⟨Ao36, co36, eo36⟩ := Kd.N_slice HO512.out; subst eo36; obtain ⟨Ao37, co37, eo37⟩ := Kd.R_slice HO515.out; subst eo37) | ((with_reducible refine gate_callee (f := 33) rfl ?_); refine goesL_ (some 41) rfl rfl Try.func33 (by kernel_rfl) rfl #[.int .i64 1, .slice Ao19 y488.length co19, .slice Ao36 y510.length co36, .agg #[.int .u64 0, .int .u64 0], .slice Ao37 y513.length co37] rfl (by (try simp only [List.map_toArray, List.map_cons, List.map_nil]); first | done | rfl | (simp only [List.length_drop, List.length_take]; rfl)) ?_; (with_reducible refine (zero_Sum.calls k 1 _ _ y488 _ _ y510 0 0 _ _ y513 t516 t517 t518 _ ?side1 ?side2 ?side3 ?side4 ?side5 ?side6 A3.out).mono ?_); (case side1 => repeat (first | exact (Kd.N_reads' HO490.out).2.2 | (with_reducible refine Kd.C_alloc ?_ _) | (with_reducible refine Kd.C_drewN ?_ _) | (with_reducible refine Kd.C_drew ?_))); (case side2 => exact (Kd.N_reads' HO490.out).2.1); (case side3 => repeat (first | exact (Kd.N_reads' HO512.out).2.2 | (with_reducible refine Kd.C_alloc ?_ _) | (with_reducible refine Kd.C_drewN ?_ _) | (with_reducible refine Kd.C_drew ?_))); (case side4 => exact (Kd.N_reads' HO512.out).2.1); (case side5 => repeat (first | exact (Kd.R_reads' HO515.out).2.2 | (with_reducible refine Kd.C_alloc ?_ _) | (with_reducible refine Kd.C_drewN ?_ _) | (with_reducible refine Kd.C_drew ?_))); (case side6 => exact (Kd.R_reads' HO515.out).2.1); rintro e w38 ⟨rfl, hb⟩; refine ⟨_, rfl, ?_⟩; have n0_ := Aside0.mk (Kd.N_below (by exact nF HO490.out) hb); have n1_ := Aside0.mk (Kd.N_below (by exact nF HO496.out) hb); have n2_ := Aside0.mk (Kd.N_below (by exact nF HO504.out) hb); have n3_ := Aside0.mk (Kd.N_below (by exact nF HO512.out) hb); have n4_ := Aside0.mk (Kd.R_below (by exact rF HO515.out) hb); have n5_ := Aside0.mk (below_step (by exact lF HB.out) hb); clear HO490; clear HO496; clear HO504; clear HO512; clear HO515; clear HB; have HO490 := n0_; have HO496 := n1_; have HO504 := n2_; have HO512 := n3_; have HO515 := n4_; have HB := n5_; clear n0_ n1_ n2_ n3_ n4_ n5_; (try clear hb); (try clear hb2); (try clear hk); (try clear hi)) | ((with_reducible refine gate_dst (N := 6) rfl ?_); refine box_event ?hg (N := 6) ?hd (cs := #[.int .u64 0, .int .u64 0]) (t := 28) ?hr ?_; (case hd => rfl); (case hg => rfl); (case hr => first | (go_simp; done) | (go_simp; rfl)); intro gb519 hg w39 hbox hb; have n0_ := Aside0.mk (Kd.N_below (Kd.N_elderB (by exact nF HO490.out) gb519 (Nat.le_of_eq hg.symm)) hb); have n1_ := Aside0.mk (Kd.N_below (Kd.N_elderB (by exact nF HO496.out) gb519 (Nat.le_of_eq hg.symm)) hb); have n2_ := Aside0.mk (Kd.N_below (Kd.N_elderB (by exact nF HO504.out) gb519 (Nat.le_of_eq hg.symm)) hb); have n3_ := Aside0.mk (Kd.N_below (Kd.N_elderB (by exact nF HO512.out) gb519 (Nat.le_of_eq hg.symm)) hb); have n4_ := Aside0.mk (Kd.R_below (Kd.R_elderB (by exact rF HO515.out) gb519 (Nat.le_of_eq hg.symm)) hb); have n5_ := Aside0.mk (below_step (by exact lF HB.out) hb); have n6_ := Aside0.mk (hbox); have n7_ := Aside0.mk ((by rw [hg]; exact (below_size (by exact lF HB.out)) : w.heap.size ≤ gb519)); have n8_ := Aside0.mk ((by rw [hg]; exact (below_size (by exact lF HB.out)) : w.heap.size ≤ gb519)); clear HO490; clear HO496; clear HO504; clear HO512; clear HO515; clear HB; have HO490 := n0_; have HO496 := n1_; have HO504 := n2_; have HO512 := n3_; have HO515 := n4_; have HB := n5_; have BK519 := n6_; have GW519 := n7_; have GE519 := n8_; clear n0_ n1_ n2_ n3_ n4_ n5_ n6_ n7_ n8_; clear hb hbox hg; have hcz40_0 : w39.cell? ⟨gb519, 0, none⟩ = some (.int .u64 0) := (blk_cell BK519.out 0).trans rfl; have hcz40_1 : w39.cell? ⟨gb519, 1, none⟩ = some (.int .u64 0) := (blk_cell BK519.out 1).trans rfl; have hfz40_0 := blk_frozen BK519.out 0; have hfz40_1 := blk_frozen BK519.out 1))
      go_ret
      exact ⟨by first | rfl | (simp [errW_none, errW_some] <;> rfl) | (simp [*, errW_none, errW_some] <;> rfl), by repeat (first | (with_reducible first | exact HB.out | apply bA | apply bN | apply bD | refine bS ?_ GE519.out) | exact HB.out)⟩
     ·replace c8 := Bool.eq_false_iff.mpr c8
      subst c8
      have H1 : (some (t516 == 0 && (t517 == 2))) = some r := by rw [if_neg (show ¬ (false = true) by decide)] at H; exact H
      clear H
      have H := H1
      clear H1
      obtain rfl := Option.some.inj H
      go_enter Try.func29, Try.ntmps29
      go_wp2_with (first | ((with_reducible refine gate_dst (N := 12) rfl ?_); refine Kd.R_lit k149 _ 149 ?hg (N := 12) ?hd (xs := ([(⟨2, 0, 0, (⟨0, 0⟩ : S28)⟩ : S149), (⟨1, 0, 0, (⟨0, 1⟩ : S28)⟩ : S149), (⟨3, 0, 1, (⟨0, 0⟩ : S28)⟩ : S149)] : List (S149))) (inner := [.int .i64 2, .int .i64 0, .int .i64 0, .int .u64 0, .int .u64 0, .int .i64 1, .int .i64 0, .int .i64 0, .int .u64 0, .int .u64 1, .int .i64 3, .int .i64 0, .int .i64 1, .int .u64 0, .int .u64 0]) (ok := fun _ => True) (okp := fun _ => True) ?hr ?hp (fun _ hk => hk) trivial (Below.refl _ _) (Nat.le_refl _) (by simp) ?_; (case hd => rfl); (case hg => rfl); (case hr => first | (go_simp; done) | (go_simp; rfl)); (case hp => exact (Reps.c5 (show Kd.M k149 _ _ _ (⟨2, 0, 0, (⟨0, 0⟩ : S28)⟩ : S149) [.int .i64 2, .int .i64 0, .int .i64 0, .int .u64 0, .int .u64 0] from (k149_mkM _ _ _ (⟨2, 0, 0, (⟨0, 0⟩ : S28)⟩ : S149) )) (Reps.c5 (show Kd.M k149 _ _ _ (⟨1, 0, 0, (⟨0, 1⟩ : S28)⟩ : S149) [.int .i64 1, .int .i64 0, .int .i64 0, .int .u64 0, .int .u64 1] from (k149_mkM _ _ _ (⟨1, 0, 0, (⟨0, 1⟩ : S28)⟩ : S149) )) (Reps.c5 (show Kd.M k149 _ _ _ (⟨3, 0, 1, (⟨0, 0⟩ : S28)⟩ : S149) [.int .i64 3, .int .i64 0, .int .i64 1, .int .u64 0, .int .u64 0] from (k149_mkM _ _ _ (⟨3, 0, 1, (⟨0, 0⟩ : S28)⟩ : S149) )) (Reps.none _ _))))); intro v486 w41 ho42 hb hg_ hnew_; clear hg_ hnew_; (first | rw [← Ny485.out] at ho42 | (simp only [Int.reduceToNat] at ho42; rw [← Ny485.out] at ho42)); have n0_ := Aside0.mk (Kd.R_lower ho42 (below_size (by exact lF HB.out))); have n1_ := Aside0.mk (below_step (by exact lF HB.out) hb); clear HB; have HO487 := n0_; have HB := n1_; clear n0_ n1_; clear hb ho42; obtain ⟨Ao43, co43, eo43⟩ := Kd.R_slice HO487.out; subst eo43) | ((with_reducible refine gate_dst (N := 13) rfl ?_); refine Kd.N_lit (Kd.slice 149 k149) _ 83 ?hg (N' := 13) ?hd (xs := ([y485] : List (List (S149)))) (inner := [.slice Ao43 y485.length co43]) (ok := (fun _ => True)) (okp := (fun _ => True)) ?hr ?hp (fun _ hk => hk) ((show ∀ k_, w41.heap.size ≤ k_ → (fun _ => True) k_ from fun k_ hk => trivial) _ (Nat.le_refl _)) (Below.refl _ _) (Nat.le_refl _) (by simp) ?_; (case hd => rfl); (case hg => rfl); (case hr => first | (go_simp; done) | (go_simp; rfl)); (case hp => exact (Reps.one (show Kd.FK (Kd.slice 149 k149) _ _ y485 [.slice Ao43 y485.length co43] from (Kd.FK_slice_mk (Kd.R_reads' (Kd.R_mono (ok' := (fun _ => True)) (HO487.out) (fun k_ hk => trivial))).2.1 (Kd.R_F (Kd.R_mono (ok' := (fun _ => True)) (HO487.out) (fun k_ hk => trivial))))) (Reps.none _ _))); intro v489 w44 ho45 hb hg_ hnew_; clear hg_ hnew_; (first | rw [← Ny488.out] at ho45 | (simp only [Int.reduceToNat] at ho45; rw [← Ny488.out] at ho45)); have n0_ := Aside0.mk (Kd.N_lower ho45 (below_size (by exact lF HB.out))); have n1_ := Aside0.mk (below_step (by exact lF HB.out) hb); clear HB; clear HO487; have HO490 := n0_; have HB := n1_; clear n0_ n1_; clear hb ho45) | ((with_reducible refine gate_dst (N := 18) rfl ?_); refine Kd.R_lit k28 _ 28 ?hg (N := 18) ?hd (xs := ([(⟨0, 1⟩ : S28), (⟨0, 1⟩ : S28)] : List (S28))) (inner := [.int .u64 0, .int .u64 1, .int .u64 0, .int .u64 1]) (ok := fun _ => True) (okp := fun _ => True) ?hr ?hp (fun _ hk => hk) trivial (Below.refl _ _) (Nat.le_refl _) (by simp) ?_; (case hd => rfl); (case hg => rfl); (case hr => first | (go_simp; done) | (go_simp; rfl)); (case hp => exact (Reps.c2 (show Kd.M k28 _ _ _ (⟨0, 1⟩ : S28) [.int .u64 0, .int .u64 1] from (k28_mkM _ _ _ (⟨0, 1⟩ : S28) )) (Reps.c2 (show Kd.M k28 _ _ _ (⟨0, 1⟩ : S28) [.int .u64 0, .int .u64 1] from (k28_mkM _ _ _ (⟨0, 1⟩ : S28) )) (Reps.none _ _)))); intro v492 w46 ho47 hb hg_ hnew_; clear hg_ hnew_; (first | rw [← Ny491.out] at ho47 | (simp only [Int.reduceToNat] at ho47; rw [← Ny491.out] at ho47)); have n0_ := Aside0.mk (Kd.N_elder' (by exact nF HO490.out) (Kd.R_base ho47) hb); have n1_ := Aside0.mk (Kd.R_lower ho47 (below_size (by exact lF HB.out))); have n2_ := Aside0.mk (below_step (by exact lF HB.out) hb); clear HO490; clear HB; have HO490 := n0_; have HO493 := n1_; have HB := n2_; clear n0_ n1_ n2_; clear hb ho47; obtain ⟨Ao48, co48, eo48⟩ := Kd.R_slice HO493.out; subst eo48) | ((with_reducible refine gate_dst (N := 19) rfl ?_); refine Kd.N_lit (Kd.slice 28 k28) _ 53 ?hg (N' := 19) ?hd (xs := ([y491] : List (List (S28)))) (inner := [.slice Ao48 y491.length co48]) (ok := (fun k_ => some k_ ≠ (v489 : Value).ownBlock)) (okp := (fun k_ => some k_ ≠ (v489 : Value).ownBlock)) ?hr ?hp (fun _ hk => hk) ((show ∀ k_, w46.heap.size ≤ k_ → (fun k_ => some k_ ≠ (v489 : Value).ownBlock) k_ from fun k_ hk => Kd.fresh' (Kd.N_lt (by exact nF HO490.out)) k_ hk) _ (Nat.le_refl _)) (Below.refl _ _) (Nat.le_refl _) (by simp) ?_; (case hd => rfl); (case hg => rfl); (case hr => first | (go_simp; done) | (go_simp; rfl)); (case hp => exact (Reps.one (show Kd.FK (Kd.slice 28 k28) _ _ y491 [.slice Ao48 y491.length co48] from (Kd.FK_slice_mk (Kd.R_reads' (Kd.R_mono (ok' := (fun k_ => some k_ ≠ (v489 : Value).ownBlock)) (Kd.R_apart' (HO493.out) (Kd.N_typed HO490.out) (by decide)) (fun k_ hk => hk.2))).2.1 (Kd.R_F (Kd.R_mono (ok' := (fun k_ => some k_ ≠ (v489 : Value).ownBlock)) (Kd.R_apart' (HO493.out) (Kd.N_typed HO490.out) (by decide)) (fun k_ hk => hk.2))))) (Reps.none _ _))); intro v495 w49 ho50 hb hg_ hnew_; clear hg_ hnew_; (first | rw [← Ny494.out] at ho50 | (simp only [Int.reduceToNat] at ho50; rw [← Ny494.out] at ho50)); have n0_ := Aside0.mk (Kd.N_elder' (by exact nF HO490.out) (Kd.N_base ho50) hb); have n1_ := Aside0.mk (Kd.N_lower ho50 (below_size (by exact lF HB.out))); have n2_ := Aside0.mk (below_step (by exact lF HB.out) hb); clear HO490; clear HB; clear HO493; have HO490 := n0_; have HO496 := n1_; have HB := n2_; clear n0_ n1_ n2_; clear hb ho50; obtain ⟨Ao51, co51, eo51⟩ := Kd.N_slice HO490.out; subst eo51; obtain ⟨Ao52, co52, eo52⟩ := Kd.N_slice HO496.out; subst eo52) | ((with_reducible refine gate_callee (f := 32) rfl ?_); refine goesL_ (some 20) rfl rfl Try.func32 (by kernel_rfl) rfl #[.int .i64 1, .slice Ao51 y488.length co51, .slice Ao52 y494.length co52] rfl (by (try simp only [List.map_toArray, List.map_cons, List.map_nil]); first | done | rfl | (simp only [List.length_drop, List.length_take]; rfl)) ?_; (with_reducible refine (zero_Holds.calls k 1 _ _ y488 _ _ y494 true t498 _ ?side1 ?side2 ?side3 ?side4 A1.out).mono ?_); (case side1 => repeat (first | exact (Kd.N_reads' HO490.out).2.2 | (with_reducible refine Kd.C_alloc ?_ _) | (with_reducible refine Kd.C_drewN ?_ _) | (with_reducible refine Kd.C_drew ?_))); (case side2 => exact (Kd.N_reads' HO490.out).2.1); (case side3 => repeat (first | exact (Kd.N_reads' HO496.out).2.2 | (with_reducible refine Kd.C_alloc ?_ _) | (with_reducible refine Kd.C_drewN ?_ _) | (with_reducible refine Kd.C_drew ?_))); (case side4 => exact (Kd.N_reads' HO496.out).2.1); rintro e w53 ⟨rfl, hb⟩; refine ⟨_, rfl, ?_⟩; have n0_ := Aside0.mk (Kd.N_below (by exact nF HO490.out) hb); have n1_ := Aside0.mk (Kd.N_below (by exact nF HO496.out) hb); have n2_ := Aside0.mk (below_step (by exact lF HB.out) hb); clear HO490; clear HO496; clear HB; have HO490 := n0_; have HO496 := n1_; have HB := n2_; clear n0_ n1_ n2_; (try clear hb); (try clear hb2); (try clear hk); (try clear hi)) | ((with_reducible refine gate_dst (N := 27) rfl ?_); refine Kd.R_lit k28 _ 28 ?hg (N := 27) ?hd (xs := ([(⟨0, 1⟩ : S28), (⟨0, 0⟩ : S28)] : List (S28))) (inner := [.int .u64 0, .int .u64 1, .int .u64 0, .int .u64 0]) (ok := fun _ => True) (okp := fun _ => True) ?hr ?hp (fun _ hk => hk) trivial (Below.refl _ _) (Nat.le_refl _) (by simp) ?_; (case hd => rfl); (case hg => rfl); (case hr => first | (go_simp; done) | (go_simp; rfl)); (case hp => exact (Reps.c2 (show Kd.M k28 _ _ _ (⟨0, 1⟩ : S28) [.int .u64 0, .int .u64 1] from (k28_mkM _ _ _ (⟨0, 1⟩ : S28) )) (Reps.c2 (show Kd.M k28 _ _ _ (⟨0, 0⟩ : S28) [.int .u64 0, .int .u64 0] from (k28_mkM _ _ _ (⟨0, 0⟩ : S28) )) (Reps.none _ _)))); intro v500 w54 ho55 hb hg_ hnew_; clear hg_ hnew_; (first | rw [← Ny499.out] at ho55 | (simp only [Int.reduceToNat] at ho55; rw [← Ny499.out] at ho55)); have n0_ := Aside0.mk (Kd.N_elder' (by exact nF HO490.out) (Kd.R_base ho55) hb); have n1_ := Aside0.mk (Kd.N_elder' (by exact nF HO496.out) (Kd.R_base ho55) hb); have n2_ := Aside0.mk (Kd.R_lower ho55 (below_size (by exact lF HB.out))); have n3_ := Aside0.mk (below_step (by exact lF HB.out) hb); clear HO490; clear HO496; clear HB; have HO490 := n0_; have HO496 := n1_; have HO501 := n2_; have HB := n3_; clear n0_ n1_ n2_ n3_; clear hb ho55; obtain ⟨Ao56, co56, eo56⟩ := Kd.R_slice HO501.out; subst eo56) | ((with_reducible refine gate_dst (N := 28) rfl ?_); refine Kd.N_lit (Kd.slice 28 k28) _ 53 ?hg (N' := 28) ?hd (xs := ([y499] : List (List (S28)))) (inner := [.slice Ao56 y499.length co56]) (ok := (fun k_ => some k_ ≠ (.slice Ao51 y488.length co51 : Value).ownBlock ∧ some k_ ≠ (.slice Ao52 y494.length co52 : Value).ownBlock)) (okp := (fun k_ => some k_ ≠ (.slice Ao51 y488.length co51 : Value).ownBlock ∧ some k_ ≠ (.slice Ao52 y494.length co52 : Value).ownBlock)) ?hr ?hp (fun _ hk => hk) ((show ∀ k_, w54.heap.size ≤ k_ → (fun k_ => some k_ ≠ (.slice Ao51 y488.length co51 : Value).ownBlock ∧ some k_ ≠ (.slice Ao52 y494.length co52 : Value).ownBlock) k_ from fun k_ hk => ⟨Kd.fresh' (Kd.N_lt (by exact nF HO490.out)) k_ hk, Kd.fresh' (Kd.N_lt (by exact nF HO496.out)) k_ hk⟩) _ (Nat.le_refl _)) (Below.refl _ _) (Nat.le_refl _) (by simp) ?_; (case hd => rfl); (case hg => rfl); (case hr => first | (go_simp; done) | (go_simp; rfl)); (case hp => exact (Reps.one (show Kd.FK (Kd.slice 28 k28) _ _ y499 [.slice Ao56 y499.length co56] from (Kd.FK_slice_mk (Kd.R_reads' (Kd.R_mono (ok' := (fun k_ => some k_ ≠ (.slice Ao51 y488.length co51 : Value).ownBlock ∧ some k_ ≠ (.slice Ao52 y494.length co52 : Value).ownBlock)) (Kd.R_apart' (Kd.R_apart' (HO501.out) (Kd.N_typed HO490.out) (by decide)) (Kd.N_typed HO496.out) (by decide)) (fun k_ hk => ⟨hk.1.2, hk.2⟩))).2.1 (Kd.R_F (Kd.R_mono (ok' := (fun k_ => some k_ ≠ (.slice Ao51 y488.length co51 : Value).ownBlock ∧ some k_ ≠ (.slice Ao52 y494.length co52 : Value).ownBlock)) (Kd.R_apart' (Kd.R_apart' (HO501.out) (Kd.N_typed HO490.out) (by decide)) (Kd.N_typed HO496.out) (by decide)) (fun k_ hk => ⟨hk.1.2, hk.2⟩))))) (Reps.none _ _))); intro v503 w57 ho58 hb hg_ hnew_; clear hg_ hnew_; (first | rw [← Ny502.out] at ho58 | (simp only [Int.reduceToNat] at ho58; rw [← Ny502.out] at ho58)); have n0_ := Aside0.mk (Kd.N_elder' (by exact nF HO490.out) (Kd.N_base ho58) hb); have n1_ := Aside0.mk (Kd.N_elder' (by exact nF HO496.out) (Kd.N_base ho58) hb); have n2_ := Aside0.mk (Kd.N_lower ho58 (below_size (by exact lF HB.out))); have n3_ := Aside0.mk (below_step (by exact lF HB.out) hb); clear HO490; clear HO496; clear HB; clear HO501; have HO490 := n0_; have HO496 := n1_; have HO504 := n2_; have HB := n3_; clear n0_ n1_ n2_ n3_; clear hb ho58; obtain ⟨Ao59, co59, eo59⟩ := Kd.N_slice HO504.out; subst eo59) | ((with_reducible refine gate_callee (f := 32) rfl ?_); refine goesL_ (some 29) rfl rfl Try.func32 (by kernel_rfl) rfl #[.int .i64 1, .slice Ao51 y488.length co51, .slice Ao59 y502.length co59] rfl (by (try simp only [List.map_toArray, List.map_cons, List.map_nil]); first | done | rfl | (simp only [List.length_drop, List.length_take]; rfl)) ?_; (with_reducible refine (zero_Holds.calls k 1 _ _ y488 _ _ y502 false t506 _ ?side1 ?side2 ?side3 ?side4 A2.out).mono ?_); (case side1 => repeat (first | exact (Kd.N_reads' HO490.out).2.2 | (with_reducible refine Kd.C_alloc ?_ _) | (with_reducible refine Kd.C_drewN ?_ _) | (with_reducible refine Kd.C_drew ?_))); (case side2 => exact (Kd.N_reads' HO490.out).2.1); (case side3 => repeat (first | exact (Kd.N_reads' HO504.out).2.2 | (with_reducible refine Kd.C_alloc ?_ _) | (with_reducible refine Kd.C_drewN ?_ _) | (with_reducible refine Kd.C_drew ?_))); (case side4 => exact (Kd.N_reads' HO504.out).2.1); rintro e w60 ⟨rfl, hb⟩; refine ⟨_, rfl, ?_⟩; have n0_ := Aside0.mk (Kd.N_below (by exact nF HO490.out) hb); have n1_ := Aside0.mk (Kd.N_below (by exact nF HO496.out) hb); have n2_ := Aside0.mk (Kd.N_below (by exact nF HO504.out) hb); have n3_ := Aside0.mk (below_step (by exact lF HB.out) hb); clear HO490; clear HO496; clear HO504; clear HB; have HO490 := n0_; have HO496 := n1_; have HO504 := n2_; have HB := n3_; clear n0_ n1_ n2_ n3_; (try clear hb); (try clear hb2); (try clear hk); (try clear hi)) | ((with_reducible refine gate_dst (N := 36) rfl ?_); refine Kd.R_lit k28 _ 28 ?hg (N := 36) ?hd (xs := ([(⟨0, 1⟩ : S28), (⟨0, 0⟩ : S28)] : List (S28))) (inner := [.int .u64 0, .int .u64 1, .int .u64 0, .int .u64 0]) (ok := fun _ => True) (okp := fun _ => True) ?hr ?hp (fun _ hk => hk) trivial (Below.refl _ _) (Nat.le_refl _) (by simp) ?_; (case hd => rfl); (case hg => rfl); (case hr => first | (go_simp; done) | (go_simp; rfl)); (case hp => exact (Reps.c2 (show Kd.M k28 _ _ _ (⟨0, 1⟩ : S28) [.int .u64 0, .int .u64 1] from (k28_mkM _ _ _ (⟨0, 1⟩ : S28) )) (Reps.c2 (show Kd.M k28 _ _ _ (⟨0, 0⟩ : S28) [.int .u64 0, .int .u64 0] from (k28_mkM _ _ _ (⟨0, 0⟩ : S28) )) (Reps.none _ _)))); intro v508 w61 ho62 hb hg_ hnew_; clear hg_ hnew_; (first | rw [← Ny507.out] at ho62 | (simp only [Int.reduceToNat] at ho62; rw [← Ny507.out] at ho62)); have n0_ := Aside0.mk (Kd.N_elder' (by exact nF HO490.out) (Kd.R_base ho62) hb); have n1_ := Aside0.mk (Kd.N_elder' (by exact nF HO496.out) (Kd.R_base ho62) hb); have n2_ := Aside0.mk (Kd.N_elder' (by exact nF HO504.out) (Kd.R_base ho62) hb); have n3_ := Aside0.mk (Kd.R_lower ho62 (below_size (by exact lF HB.out))); have n4_ := Aside0.mk (below_step (by exact lF HB.out) hb); clear HO490; clear HO496; clear HO504; clear HB; have HO490 := n0_; have HO496 := n1_; have HO504 := n2_; have HO509 := n3_; have HB := n4_; clear n0_ n1_ n2_ n3_ n4_; clear hb ho62; obtain ⟨Ao63, co63, eo63⟩ := Kd.R_slice HO509.out; subst eo63) | ((with_reducible refine gate_dst (N := 37) rfl ?_); refine Kd.N_lit (Kd.slice 28 k28) _ 53 ?hg (N' := 37) ?hd (xs := ([y507] : List (List (S28)))) (inner := [.slice Ao63 y507.length co63]) (ok := (fun k_ => some k_ ≠ (.slice Ao51 y488.length co51 : Value).ownBlock ∧ some k_ ≠ (.slice Ao52 y494.length co52 : Value).ownBlock ∧ some k_ ≠ (.slice Ao59 y502.length co59 : Value).ownBlock)) (okp := (fun k_ => some k_ ≠ (.slice Ao51 y488.length co51 : Value).ownBlock ∧ some k_ ≠ (.slice Ao52 y494.length co52 : Value).ownBlock ∧ some k_ ≠ (.slice Ao59 y502.length co59 : Value).ownBlock)) ?hr ?hp (fun _ hk => hk) ((show ∀ k_, w61.heap.size ≤ k_ → (fun k_ => some k_ ≠ (.slice Ao51 y488.length co51 : Value).ownBlock ∧ some k_ ≠ (.slice Ao52 y494.length co52 : Value).ownBlock ∧ some k_ ≠ (.slice Ao59 y502.length co59 : Value).ownBlock) k_ from fun k_ hk => ⟨Kd.fresh' (Kd.N_lt (by exact nF HO490.out)) k_ hk, Kd.fresh' (Kd.N_lt (by exact nF HO496.out)) k_ hk, Kd.fresh' (Kd.N_lt (by exact nF HO504.out)) k_ hk⟩) _ (Nat.le_refl _)) (Below.refl _ _) (Nat.le_refl _) (by simp) ?_; (case hd => rfl); (case hg => rfl); (case hr => first | (go_simp; done) | (go_simp; rfl)); (case hp => exact (Reps.one (show Kd.FK (Kd.slice 28 k28) _ _ y507 [.slice Ao63 y507.length co63] from (Kd.FK_slice_mk (Kd.R_reads' (Kd.R_mono (ok' := (fun k_ => some k_ ≠ (.slice Ao51 y488.length co51 : Value).ownBlock ∧ some k_ ≠ (.slice Ao52 y494.length co52 : Value).ownBlock ∧ some k_ ≠ (.slice Ao59 y502.length co59 : Value).ownBlock)) (Kd.R_apart' (Kd.R_apart' (Kd.R_apart' (HO509.out) (Kd.N_typed HO490.out) (by decide)) (Kd.N_typed HO496.out) (by decide)) (Kd.N_typed HO504.out) (by decide)) (fun k_ hk => ⟨hk.1.1.2, ⟨hk.1.2, hk.2⟩⟩))).2.1 (Kd.R_F (Kd.R_mono (ok' := (fun k_ => some k_ ≠ (.slice Ao51 y488.length co51 : Value).ownBlock ∧ some k_ ≠ (.slice Ao52 y494.length co52 : Value).ownBlock ∧ some k_ ≠ (.slice Ao59 y502.length co59 : Value).ownBlock)) (Kd.R_apart' (Kd.R_apart' (Kd.R_apart' (HO509.out) (Kd.N_typed HO490.out) (by decide)) (Kd.N_typed HO496.out) (by decide)) (Kd.N_typed HO504.out) (by decide)) (fun k_ hk => ⟨hk.1.1.2, ⟨hk.1.2, hk.2⟩⟩))))) (Reps.none _ _))); intro v511 w64 ho65 hb hg_ hnew_; clear hg_ hnew_; (first | rw [← Ny510.out] at ho65 | (simp only [Int.reduceToNat] at ho65; rw [← Ny510.out] at ho65)); have n0_ := Aside0.mk (Kd.N_elder' (by exact nF HO490.out) (Kd.N_base ho65) hb); have n1_ := Aside0.mk (Kd.N_elder' (by exact nF HO496.out) (Kd.N_base ho65) hb); have n2_ := Aside0.mk (Kd.N_elder' (by exact nF HO504.out) (Kd.N_base ho65) hb); have n3_ := Aside0.mk (Kd.N_lower ho65 (below_size (by exact lF HB.out))); have n4_ := Aside0.mk (below_step (by exact lF HB.out) hb); clear HO490; clear HO496; clear HO504; clear HB; clear HO509; have HO490 := n0_; have HO496 := n1_; have HO504 := n2_; have HO512 := n3_; have HB := n4_; clear n0_ n1_ n2_ n3_ n4_; clear hb ho65) | ((with_reducible refine gate_dst (N := 40) rfl ?_); refine Kd.R_lit k28 _ 28 ?hg (N := 40) ?hd (xs := ([(⟨0, 2⟩ : S28)] : List (S28))) (inner := [.int .u64 0, .int .u64 2]) (ok := fun _ => True) (okp := fun _ => True) ?hr ?hp (fun _ hk => hk) trivial (Below.refl _ _) (Nat.le_refl _) (by simp) ?_; (case hd => rfl); (case hg => rfl); (case hr => first | (go_simp; done) | (go_simp; rfl)); (case hp => exact (Reps.c2 (show Kd.M k28 _ _ _ (⟨0, 2⟩ : S28) [.int .u64 0, .int .u64 2] from (k28_mkM _ _ _ (⟨0, 2⟩ : S28) )) (Reps.none _ _))); intro v514 w66 ho67 hb hg_ hnew_; clear hg_ hnew_; (first | rw [← Ny513.out] at ho67 | (simp only [Int.reduceToNat] at ho67; rw [← Ny513.out] at ho67)); have n0_ := Aside0.mk (Kd.N_elder' (by exact nF HO490.out) (Kd.R_base ho67) hb); have n1_ := Aside0.mk (Kd.N_elder' (by exact nF HO496.out) (Kd.R_base ho67) hb); have n2_ := Aside0.mk (Kd.N_elder' (by exact nF HO504.out) (Kd.R_base ho67) hb); have n3_ := Aside0.mk (Kd.N_elder' (by exact nF HO512.out) (Kd.R_base ho67) hb); have n4_ := Aside0.mk (Kd.R_lower ho67 (below_size (by exact lF HB.out))); have n5_ := Aside0.mk (below_step (by exact lF HB.out) hb); clear HO490; clear HO496; clear HO504; clear HO512; clear HB; have HO490 := n0_; have HO496 := n1_; have HO504 := n2_; have HO512 := n3_; have HO515 := n4_; have HB := n5_; clear n0_ n1_ n2_ n3_ n4_ n5_; clear hb ho67; obtain ⟨Ao68, co68, eo68⟩ := Kd.N_slice HO512.out; subst eo68; obtain ⟨Ao69, co69, eo69⟩ := Kd.R_slice HO515.out; subst eo69) | ((with_reducible refine gate_callee (f := 33) rfl ?_); refine goesL_ (some 41) rfl rfl Try.func33 (by kernel_rfl) rfl #[.int .i64 1, .slice Ao51 y488.length co51, .slice Ao68 y510.length co68, .agg #[.int .u64 0, .int .u64 0], .slice Ao69 y513.length co69] rfl (by (try simp only [List.map_toArray, List.map_cons, List.map_nil]); first | done | rfl | (simp only [List.length_drop, List.length_take]; rfl)) ?_; (with_reducible refine (zero_Sum.calls k 1 _ _ y488 _ _ y510 0 0 _ _ y513 t516 t517 t518 _ ?side1 ?side2 ?side3 ?side4 ?side5 ?side6 A3.out).mono ?_); (case side1 => repeat (first | exact (Kd.N_reads' HO490.out).2.2 | (with_reducible refine Kd.C_alloc ?_ _) | (with_reducible refine Kd.C_drewN ?_ _) | (with_reducible refine Kd.C_drew ?_))); (case side2 => exact (Kd.N_reads' HO490.out).2.1); (case side3 => repeat (first | exact (Kd.N_reads' HO512.out).2.2 | (with_reducible refine Kd.C_alloc ?_ _) | (with_reducible refine Kd.C_drewN ?_ _) | (with_reducible refine Kd.C_drew ?_))); (case side4 => exact (Kd.N_reads' HO512.out).2.1); (case side5 => repeat (first | exact (Kd.R_reads' HO515.out).2.2 | (with_reducible refine Kd.C_alloc ?_ _) | (with_reducible refine Kd.C_drewN ?_ _) | (with_reducible refine Kd.C_drew ?_))); (case side6 => exact (Kd.R_reads' HO515.out).2.1); rintro e w70 ⟨rfl, hb⟩; refine ⟨_, rfl, ?_⟩; have n0_ := Aside0.mk (Kd.N_below (by exact nF HO490.out) hb); have n1_ := Aside0.mk (Kd.N_below (by exact nF HO496.out) hb); have n2_ := Aside0.mk (Kd.N_below (by exact nF HO504.out) hb); have n3_ := Aside0.mk (Kd.N_below (by exact nF HO512.out) hb); have n4_ := Aside0.mk (Kd.R_below (by exact rF HO515.out) hb); have n5_ := Aside0.mk (below_step (by exact lF HB.out) hb); clear HO490; clear HO496; clear HO504; clear HO512; clear HO515; clear HB; have HO490 := n0_; have HO496 := n1_; have HO504 := n2_; have HO512 := n3_; have HO515 := n4_; have HB := n5_; clear n0_ n1_ n2_ n3_ n4_ n5_; (try clear hb); (try clear hb2); (try clear hk); (try clear hi)) | ((with_reducible refine gate_dst (N := 6) rfl ?_); refine box_event ?hg (N := 6) ?hd (cs := #[.int .u64 0, .int .u64 0]) (t := 28) ?hr ?_; (case hd => rfl); (case hg => rfl); (case hr => first | (go_simp; done) | (go_simp; rfl)); intro gb519 hg w71 hbox hb; have n0_ := Aside0.mk (Kd.N_below (Kd.N_elderB (by exact nF HO490.out) gb519 (Nat.le_of_eq hg.symm)) hb); have n1_ := Aside0.mk (Kd.N_below (Kd.N_elderB (by exact nF HO496.out) gb519 (Nat.le_of_eq hg.symm)) hb); have n2_ := Aside0.mk (Kd.N_below (Kd.N_elderB (by exact nF HO504.out) gb519 (Nat.le_of_eq hg.symm)) hb); have n3_ := Aside0.mk (Kd.N_below (Kd.N_elderB (by exact nF HO512.out) gb519 (Nat.le_of_eq hg.symm)) hb); have n4_ := Aside0.mk (Kd.R_below (Kd.R_elderB (by exact rF HO515.out) gb519 (Nat.le_of_eq hg.symm)) hb); have n5_ := Aside0.mk (below_step (by exact lF HB.out) hb); have n6_ := Aside0.mk (hbox); have n7_ := Aside0.mk ((by rw [hg]; exact (below_size (by exact lF HB.out)) : w.heap.size ≤ gb519)); have n8_ := Aside0.mk ((by rw [hg]; exact (below_size (by exact lF HB.out)) : w.heap.size ≤ gb519)); clear HO490; clear HO496; clear HO504; clear HO512; clear HO515; clear HB; have HO490 := n0_; have HO496 := n1_; have HO504 := n2_; have HO512 := n3_; have HO515 := n4_; have HB := n5_; have BK519 := n6_; have GW519 := n7_; have GE519 := n8_; clear n0_ n1_ n2_ n3_ n4_ n5_ n6_ n7_ n8_; clear hb hbox hg; have hcz72_0 : w71.cell? ⟨gb519, 0, none⟩ = some (.int .u64 0) := (blk_cell BK519.out 0).trans rfl; have hcz72_1 : w71.cell? ⟨gb519, 1, none⟩ = some (.int .u64 0) := (blk_cell BK519.out 1).trans rfl; have hfz72_0 := blk_frozen BK519.out 0; have hfz72_1 := blk_frozen BK519.out 1))
      go_ret
      exact ⟨by first | rfl | (simp [errW_none, errW_some] <;> rfl) | (simp [*, errW_none, errW_some] <;> rfl), by repeat (first | (with_reducible first | exact HB.out | apply bA | apply bN | apply bD | refine bS ?_ GE519.out) | exact HB.out)⟩
    ·replace c7 := Bool.eq_false_iff.mpr c7
     subst c7
     have H1 : (some false) = some r := by rw [if_neg (show ¬ (false = true) by decide)] at H; exact H
     clear H
     have H := H1
     clear H1
     obtain rfl := Option.some.inj H
     go_enter Try.func29, Try.ntmps29
     go_wp2_with (first | ((with_reducible refine gate_dst (N := 12) rfl ?_); refine Kd.R_lit k149 _ 149 ?hg (N := 12) ?hd (xs := ([(⟨2, 0, 0, (⟨0, 0⟩ : S28)⟩ : S149), (⟨1, 0, 0, (⟨0, 1⟩ : S28)⟩ : S149), (⟨3, 0, 1, (⟨0, 0⟩ : S28)⟩ : S149)] : List (S149))) (inner := [.int .i64 2, .int .i64 0, .int .i64 0, .int .u64 0, .int .u64 0, .int .i64 1, .int .i64 0, .int .i64 0, .int .u64 0, .int .u64 1, .int .i64 3, .int .i64 0, .int .i64 1, .int .u64 0, .int .u64 0]) (ok := fun _ => True) (okp := fun _ => True) ?hr ?hp (fun _ hk => hk) trivial (Below.refl _ _) (Nat.le_refl _) (by simp) ?_; (case hd => rfl); (case hg => rfl); (case hr => first | (go_simp; done) | (go_simp; rfl)); (case hp => exact (Reps.c5 (show Kd.M k149 _ _ _ (⟨2, 0, 0, (⟨0, 0⟩ : S28)⟩ : S149) [.int .i64 2, .int .i64 0, .int .i64 0, .int .u64 0, .int .u64 0] from (k149_mkM _ _ _ (⟨2, 0, 0, (⟨0, 0⟩ : S28)⟩ : S149) )) (Reps.c5 (show Kd.M k149 _ _ _ (⟨1, 0, 0, (⟨0, 1⟩ : S28)⟩ : S149) [.int .i64 1, .int .i64 0, .int .i64 0, .int .u64 0, .int .u64 1] from (k149_mkM _ _ _ (⟨1, 0, 0, (⟨0, 1⟩ : S28)⟩ : S149) )) (Reps.c5 (show Kd.M k149 _ _ _ (⟨3, 0, 1, (⟨0, 0⟩ : S28)⟩ : S149) [.int .i64 3, .int .i64 0, .int .i64 1, .int .u64 0, .int .u64 0] from (k149_mkM _ _ _ (⟨3, 0, 1, (⟨0, 0⟩ : S28)⟩ : S149) )) (Reps.none _ _))))); intro v486 w73 ho74 hb hg_ hnew_; clear hg_ hnew_; (first | rw [← Ny485.out] at ho74 | (simp only [Int.reduceToNat] at ho74; rw [← Ny485.out] at ho74)); have n0_ := Aside0.mk (Kd.R_lower ho74 (below_size (by exact lF HB.out))); have n1_ := Aside0.mk (below_step (by exact lF HB.out) hb); clear HB; have HO487 := n0_; have HB := n1_; clear n0_ n1_; clear hb ho74; obtain ⟨Ao75, co75, eo75⟩ := Kd.R_slice HO487.out; subst eo75) | ((with_reducible refine gate_dst (N := 13) rfl ?_); refine Kd.N_lit (Kd.slice 149 k149) _ 83 ?hg (N' := 13) ?hd (xs := ([y485] : List (List (S149)))) (inner := [.slice Ao75 y485.length co75]) (ok := (fun _ => True)) (okp := (fun _ => True)) ?hr ?hp (fun _ hk => hk) ((show ∀ k_, w73.heap.size ≤ k_ → (fun _ => True) k_ from fun k_ hk => trivial) _ (Nat.le_refl _)) (Below.refl _ _) (Nat.le_refl _) (by simp) ?_; (case hd => rfl); (case hg => rfl); (case hr => first | (go_simp; done) | (go_simp; rfl)); (case hp => exact (Reps.one (show Kd.FK (Kd.slice 149 k149) _ _ y485 [.slice Ao75 y485.length co75] from (Kd.FK_slice_mk (Kd.R_reads' (Kd.R_mono (ok' := (fun _ => True)) (HO487.out) (fun k_ hk => trivial))).2.1 (Kd.R_F (Kd.R_mono (ok' := (fun _ => True)) (HO487.out) (fun k_ hk => trivial))))) (Reps.none _ _))); intro v489 w76 ho77 hb hg_ hnew_; clear hg_ hnew_; (first | rw [← Ny488.out] at ho77 | (simp only [Int.reduceToNat] at ho77; rw [← Ny488.out] at ho77)); have n0_ := Aside0.mk (Kd.N_lower ho77 (below_size (by exact lF HB.out))); have n1_ := Aside0.mk (below_step (by exact lF HB.out) hb); clear HB; clear HO487; have HO490 := n0_; have HB := n1_; clear n0_ n1_; clear hb ho77) | ((with_reducible refine gate_dst (N := 18) rfl ?_); refine Kd.R_lit k28 _ 28 ?hg (N := 18) ?hd (xs := ([(⟨0, 1⟩ : S28), (⟨0, 1⟩ : S28)] : List (S28))) (inner := [.int .u64 0, .int .u64 1, .int .u64 0, .int .u64 1]) (ok := fun _ => True) (okp := fun _ => True) ?hr ?hp (fun _ hk => hk) trivial (Below.refl _ _) (Nat.le_refl _) (by simp) ?_; (case hd => rfl); (case hg => rfl); (case hr => first | (go_simp; done) | (go_simp; rfl)); (case hp => exact (Reps.c2 (show Kd.M k28 _ _ _ (⟨0, 1⟩ : S28) [.int .u64 0, .int .u64 1] from (k28_mkM _ _ _ (⟨0, 1⟩ : S28) )) (Reps.c2 (show Kd.M k28 _ _ _ (⟨0, 1⟩ : S28) [.int .u64 0, .int .u64 1] from (k28_mkM _ _ _ (⟨0, 1⟩ : S28) )) (Reps.none _ _)))); intro v492 w78 ho79 hb hg_ hnew_; clear hg_ hnew_; (first | rw [← Ny491.out] at ho79 | (simp only [Int.reduceToNat] at ho79; rw [← Ny491.out] at ho79)); have n0_ := Aside0.mk (Kd.N_elder' (by exact nF HO490.out) (Kd.R_base ho79) hb); have n1_ := Aside0.mk (Kd.R_lower ho79 (below_size (by exact lF HB.out))); have n2_ := Aside0.mk (below_step (by exact lF HB.out) hb); clear HO490; clear HB; have HO490 := n0_; have HO493 := n1_; have HB := n2_; clear n0_ n1_ n2_; clear hb ho79; obtain ⟨Ao80, co80, eo80⟩ := Kd.R_slice HO493.out; subst eo80) | ((with_reducible refine gate_dst (N := 19) rfl ?_); refine Kd.N_lit (Kd.slice 28 k28) _ 53 ?hg (N' := 19) ?hd (xs := ([y491] : List (List (S28)))) (inner := [.slice Ao80 y491.length co80]) (ok := (fun k_ => some k_ ≠ (v489 : Value).ownBlock)) (okp := (fun k_ => some k_ ≠ (v489 : Value).ownBlock)) ?hr ?hp (fun _ hk => hk) ((show ∀ k_, w78.heap.size ≤ k_ → (fun k_ => some k_ ≠ (v489 : Value).ownBlock) k_ from fun k_ hk => Kd.fresh' (Kd.N_lt (by exact nF HO490.out)) k_ hk) _ (Nat.le_refl _)) (Below.refl _ _) (Nat.le_refl _) (by simp) ?_; (case hd => rfl); (case hg => rfl); (case hr => first | (go_simp; done) | (go_simp; rfl)); (case hp => exact (Reps.one (show Kd.FK (Kd.slice 28 k28) _ _ y491 [.slice Ao80 y491.length co80] from (Kd.FK_slice_mk (Kd.R_reads' (Kd.R_mono (ok' := (fun k_ => some k_ ≠ (v489 : Value).ownBlock)) (Kd.R_apart' (HO493.out) (Kd.N_typed HO490.out) (by decide)) (fun k_ hk => hk.2))).2.1 (Kd.R_F (Kd.R_mono (ok' := (fun k_ => some k_ ≠ (v489 : Value).ownBlock)) (Kd.R_apart' (HO493.out) (Kd.N_typed HO490.out) (by decide)) (fun k_ hk => hk.2))))) (Reps.none _ _))); intro v495 w81 ho82 hb hg_ hnew_; clear hg_ hnew_; (first | rw [← Ny494.out] at ho82 | (simp only [Int.reduceToNat] at ho82; rw [← Ny494.out] at ho82)); have n0_ := Aside0.mk (Kd.N_elder' (by exact nF HO490.out) (Kd.N_base ho82) hb); have n1_ := Aside0.mk (Kd.N_lower ho82 (below_size (by exact lF HB.out))); have n2_ := Aside0.mk (below_step (by exact lF HB.out) hb); clear HO490; clear HB; clear HO493; have HO490 := n0_; have HO496 := n1_; have HB := n2_; clear n0_ n1_ n2_; clear hb ho82; obtain ⟨Ao83, co83, eo83⟩ := Kd.N_slice HO490.out; subst eo83; obtain ⟨Ao84, co84, eo84⟩ := Kd.N_slice HO496.out; subst eo84) | ((with_reducible refine gate_callee (f := 32) rfl ?_); refine goesL_ (some 20) rfl rfl Try.func32 (by kernel_rfl) rfl #[.int .i64 1, .slice Ao83 y488.length co83, .slice Ao84 y494.length co84] rfl (by (try simp only [List.map_toArray, List.map_cons, List.map_nil]); first | done | rfl | (simp only [List.length_drop, List.length_take]; rfl)) ?_; (with_reducible refine (zero_Holds.calls k 1 _ _ y488 _ _ y494 false t498 _ ?side1 ?side2 ?side3 ?side4 A1.out).mono ?_); (case side1 => repeat (first | exact (Kd.N_reads' HO490.out).2.2 | (with_reducible refine Kd.C_alloc ?_ _) | (with_reducible refine Kd.C_drewN ?_ _) | (with_reducible refine Kd.C_drew ?_))); (case side2 => exact (Kd.N_reads' HO490.out).2.1); (case side3 => repeat (first | exact (Kd.N_reads' HO496.out).2.2 | (with_reducible refine Kd.C_alloc ?_ _) | (with_reducible refine Kd.C_drewN ?_ _) | (with_reducible refine Kd.C_drew ?_))); (case side4 => exact (Kd.N_reads' HO496.out).2.1); rintro e w85 ⟨rfl, hb⟩; refine ⟨_, rfl, ?_⟩; have n0_ := Aside0.mk (Kd.N_below (by exact nF HO490.out) hb); have n1_ := Aside0.mk (Kd.N_below (by exact nF HO496.out) hb); have n2_ := Aside0.mk (below_step (by exact lF HB.out) hb); clear HO490; clear HO496; clear HB; have HO490 := n0_; have HO496 := n1_; have HB := n2_; clear n0_ n1_ n2_; (try clear hb); (try clear hb2); (try clear hk); (try clear hi)) | ((with_reducible refine gate_dst (N := 27) rfl ?_); refine Kd.R_lit k28 _ 28 ?hg (N := 27) ?hd (xs := ([(⟨0, 1⟩ : S28), (⟨0, 0⟩ : S28)] : List (S28))) (inner := [.int .u64 0, .int .u64 1, .int .u64 0, .int .u64 0]) (ok := fun _ => True) (okp := fun _ => True) ?hr ?hp (fun _ hk => hk) trivial (Below.refl _ _) (Nat.le_refl _) (by simp) ?_; (case hd => rfl); (case hg => rfl); (case hr => first | (go_simp; done) | (go_simp; rfl)); (case hp => exact (Reps.c2 (show Kd.M k28 _ _ _ (⟨0, 1⟩ : S28) [.int .u64 0, .int .u64 1] from (k28_mkM _ _ _ (⟨0, 1⟩ : S28) )) (Reps.c2 (show Kd.M k28 _ _ _ (⟨0, 0⟩ : S28) [.int .u64 0, .int .u64 0] from (k28_mkM _ _ _ (⟨0, 0⟩ : S28) )) (Reps.none _ _)))); intro v500 w86 ho87 hb hg_ hnew_; clear hg_ hnew_; (first | rw [← Ny499.out] at ho87 | (simp only [Int.reduceToNat] at ho87; rw [← Ny499.out] at ho87)); have n0_ := Aside0.mk (Kd.N_elder' (by exact nF HO490.out) (Kd.R_base ho87) hb); have n1_ := Aside0.mk (Kd.N_elder' (by exact nF HO496.out) (Kd.R_base ho87) hb); have n2_ := Aside0.mk (Kd.R_lower ho87 (below_size (by exact lF HB.out))); have n3_ := Aside0.mk (below_step (by exact lF HB.out) hb); clear HO490; clear HO496; clear HB; have HO490 := n0_; have HO496 := n1_; have HO501 := n2_; have HB := n3_; clear n0_ n1_ n2_ n3_; clear hb ho87; obtain ⟨Ao88, co88, eo88⟩ := Kd.R_slice HO501.out; subst eo88) | ((with_reducible refine gate_dst (N := 28) rfl ?_); refine Kd.N_lit (Kd.slice 28 k28) _ 53 ?hg (N' := 28) ?hd (xs := ([y499] : List (List (S28)))) (inner := [.slice Ao88 y499.length co88]) (ok := (fun k_ => some k_ ≠ (.slice Ao83 y488.length co83 : Value).ownBlock ∧ some k_ ≠ (.slice Ao84 y494.length co84 : Value).ownBlock)) (okp := (fun k_ => some k_ ≠ (.slice Ao83 y488.length co83 : Value).ownBlock ∧ some k_ ≠ (.slice Ao84 y494.length co84 : Value).ownBlock)) ?hr ?hp (fun _ hk => hk) ((show ∀ k_, w86.heap.size ≤ k_ → (fun k_ => some k_ ≠ (.slice Ao83 y488.length co83 : Value).ownBlock ∧ some k_ ≠ (.slice Ao84 y494.length co84 : Value).ownBlock) k_ from fun k_ hk => ⟨Kd.fresh' (Kd.N_lt (by exact nF HO490.out)) k_ hk, Kd.fresh' (Kd.N_lt (by exact nF HO496.out)) k_ hk⟩) _ (Nat.le_refl _)) (Below.refl _ _) (Nat.le_refl _) (by simp) ?_; (case hd => rfl); (case hg => rfl); (case hr => first | (go_simp; done) | (go_simp; rfl)); (case hp => exact (Reps.one (show Kd.FK (Kd.slice 28 k28) _ _ y499 [.slice Ao88 y499.length co88] from (Kd.FK_slice_mk (Kd.R_reads' (Kd.R_mono (ok' := (fun k_ => some k_ ≠ (.slice Ao83 y488.length co83 : Value).ownBlock ∧ some k_ ≠ (.slice Ao84 y494.length co84 : Value).ownBlock)) (Kd.R_apart' (Kd.R_apart' (HO501.out) (Kd.N_typed HO490.out) (by decide)) (Kd.N_typed HO496.out) (by decide)) (fun k_ hk => ⟨hk.1.2, hk.2⟩))).2.1 (Kd.R_F (Kd.R_mono (ok' := (fun k_ => some k_ ≠ (.slice Ao83 y488.length co83 : Value).ownBlock ∧ some k_ ≠ (.slice Ao84 y494.length co84 : Value).ownBlock)) (Kd.R_apart' (Kd.R_apart' (HO501.out) (Kd.N_typed HO490.out) (by decide)) (Kd.N_typed HO496.out) (by decide)) (fun k_ hk => ⟨hk.1.2, hk.2⟩))))) (Reps.none _ _))); intro v503 w89 ho90 hb hg_ hnew_; clear hg_ hnew_; (first | rw [← Ny502.out] at ho90 | (simp only [Int.reduceToNat] at ho90; rw [← Ny502.out] at ho90)); have n0_ := Aside0.mk (Kd.N_elder' (by exact nF HO490.out) (Kd.N_base ho90) hb); have n1_ := Aside0.mk (Kd.N_elder' (by exact nF HO496.out) (Kd.N_base ho90) hb); have n2_ := Aside0.mk (Kd.N_lower ho90 (below_size (by exact lF HB.out))); have n3_ := Aside0.mk (below_step (by exact lF HB.out) hb); clear HO490; clear HO496; clear HB; clear HO501; have HO490 := n0_; have HO496 := n1_; have HO504 := n2_; have HB := n3_; clear n0_ n1_ n2_ n3_; clear hb ho90; obtain ⟨Ao91, co91, eo91⟩ := Kd.N_slice HO504.out; subst eo91) | ((with_reducible refine gate_callee (f := 32) rfl ?_); refine goesL_ (some 29) rfl rfl Try.func32 (by kernel_rfl) rfl #[.int .i64 1, .slice Ao83 y488.length co83, .slice Ao91 y502.length co91] rfl (by (try simp only [List.map_toArray, List.map_cons, List.map_nil]); first | done | rfl | (simp only [List.length_drop, List.length_take]; rfl)) ?_; (with_reducible refine (zero_Holds.calls k 1 _ _ y488 _ _ y502 t505 t506 _ ?side1 ?side2 ?side3 ?side4 A2.out).mono ?_); (case side1 => repeat (first | exact (Kd.N_reads' HO490.out).2.2 | (with_reducible refine Kd.C_alloc ?_ _) | (with_reducible refine Kd.C_drewN ?_ _) | (with_reducible refine Kd.C_drew ?_))); (case side2 => exact (Kd.N_reads' HO490.out).2.1); (case side3 => repeat (first | exact (Kd.N_reads' HO504.out).2.2 | (with_reducible refine Kd.C_alloc ?_ _) | (with_reducible refine Kd.C_drewN ?_ _) | (with_reducible refine Kd.C_drew ?_))); (case side4 => exact (Kd.N_reads' HO504.out).2.1); rintro e w92 ⟨rfl, hb⟩; refine ⟨_, rfl, ?_⟩; have n0_ := Aside0.mk (Kd.N_below (by exact nF HO490.out) hb); have n1_ := Aside0.mk (Kd.N_below (by exact nF HO496.out) hb); have n2_ := Aside0.mk (Kd.N_below (by exact nF HO504.out) hb); have n3_ := Aside0.mk (below_step (by exact lF HB.out) hb); clear HO490; clear HO496; clear HO504; clear HB; have HO490 := n0_; have HO496 := n1_; have HO504 := n2_; have HB := n3_; clear n0_ n1_ n2_ n3_; (try clear hb); (try clear hb2); (try clear hk); (try clear hi)) | ((with_reducible refine gate_dst (N := 36) rfl ?_); refine Kd.R_lit k28 _ 28 ?hg (N := 36) ?hd (xs := ([(⟨0, 1⟩ : S28), (⟨0, 0⟩ : S28)] : List (S28))) (inner := [.int .u64 0, .int .u64 1, .int .u64 0, .int .u64 0]) (ok := fun _ => True) (okp := fun _ => True) ?hr ?hp (fun _ hk => hk) trivial (Below.refl _ _) (Nat.le_refl _) (by simp) ?_; (case hd => rfl); (case hg => rfl); (case hr => first | (go_simp; done) | (go_simp; rfl)); (case hp => exact (Reps.c2 (show Kd.M k28 _ _ _ (⟨0, 1⟩ : S28) [.int .u64 0, .int .u64 1] from (k28_mkM _ _ _ (⟨0, 1⟩ : S28) )) (Reps.c2 (show Kd.M k28 _ _ _ (⟨0, 0⟩ : S28) [.int .u64 0, .int .u64 0] from (k28_mkM _ _ _ (⟨0, 0⟩ : S28) )) (Reps.none _ _)))); intro v508 w93 ho94 hb hg_ hnew_; clear hg_ hnew_; (first | rw [← Ny507.out] at ho94 | (simp only [Int.reduceToNat] at ho94; rw [← Ny507.out] at ho94)); have n0_ := Aside0.mk (Kd.N_elder' (by exact nF HO490.out) (Kd.R_base ho94) hb); have n1_ := Aside0.mk (Kd.N_elder' (by exact nF HO496.out) (Kd.R_base ho94) hb); have n2_ := Aside0.mk (Kd.N_elder' (by exact nF HO504.out) (Kd.R_base ho94) hb); have n3_ := Aside0.mk (Kd.R_lower ho94 (below_size (by exact lF HB.out))); have n4_ := Aside0.mk (below_step (by exact lF HB.out) hb); clear HO490; clear HO496; clear HO504; clear HB; have HO490 := n0_; have HO496 := n1_; have HO504 := n2_; have HO509 := n3_; have HB := n4_; clear n0_ n1_ n2_ n3_ n4_; clear hb ho94; obtain ⟨Ao95, co95, eo95⟩ := Kd.R_slice HO509.out; subst eo95) | ((with_reducible refine gate_dst (N := 37) rfl ?_); refine Kd.N_lit (Kd.slice 28 k28) _ 53 ?hg (N' := 37) ?hd (xs := ([y507] : List (List (S28)))) (inner := [.slice Ao95 y507.length co95]) (ok := (fun k_ => some k_ ≠ (.slice Ao83 y488.length co83 : Value).ownBlock ∧ some k_ ≠ (.slice Ao84 y494.length co84 : Value).ownBlock ∧ some k_ ≠ (.slice Ao91 y502.length co91 : Value).ownBlock)) (okp := (fun k_ => some k_ ≠ (.slice Ao83 y488.length co83 : Value).ownBlock ∧ some k_ ≠ (.slice Ao84 y494.length co84 : Value).ownBlock ∧ some k_ ≠ (.slice Ao91 y502.length co91 : Value).ownBlock)) ?hr ?hp (fun _ hk => hk) ((show ∀ k_, w93.heap.size ≤ k_ → (fun k_ => some k_ ≠ (.slice Ao83 y488.length co83 : Value).ownBlock ∧ some k_ ≠ (.slice Ao84 y494.length co84 : Value).ownBlock ∧ some k_ ≠ (.slice Ao91 y502.length co91 : Value).ownBlock) k_ from fun k_ hk => ⟨Kd.fresh' (Kd.N_lt (by exact nF HO490.out)) k_ hk, Kd.fresh' (Kd.N_lt (by exact nF HO496.out)) k_ hk, Kd.fresh' (Kd.N_lt (by exact nF HO504.out)) k_ hk⟩) _ (Nat.le_refl _)) (Below.refl _ _) (Nat.le_refl _) (by simp) ?_; (case hd => rfl); (case hg => rfl); (case hr => first | (go_simp; done) | (go_simp; rfl)); (case hp => exact (Reps.one (show Kd.FK (Kd.slice 28 k28) _ _ y507 [.slice Ao95 y507.length co95] from (Kd.FK_slice_mk (Kd.R_reads' (Kd.R_mono (ok' := (fun k_ => some k_ ≠ (.slice Ao83 y488.length co83 : Value).ownBlock ∧ some k_ ≠ (.slice Ao84 y494.length co84 : Value).ownBlock ∧ some k_ ≠ (.slice Ao91 y502.length co91 : Value).ownBlock)) (Kd.R_apart' (Kd.R_apart' (Kd.R_apart' (HO509.out) (Kd.N_typed HO490.out) (by decide)) (Kd.N_typed HO496.out) (by decide)) (Kd.N_typed HO504.out) (by decide)) (fun k_ hk => ⟨hk.1.1.2, ⟨hk.1.2, hk.2⟩⟩))).2.1 (Kd.R_F (Kd.R_mono (ok' := (fun k_ => some k_ ≠ (.slice Ao83 y488.length co83 : Value).ownBlock ∧ some k_ ≠ (.slice Ao84 y494.length co84 : Value).ownBlock ∧ some k_ ≠ (.slice Ao91 y502.length co91 : Value).ownBlock)) (Kd.R_apart' (Kd.R_apart' (Kd.R_apart' (HO509.out) (Kd.N_typed HO490.out) (by decide)) (Kd.N_typed HO496.out) (by decide)) (Kd.N_typed HO504.out) (by decide)) (fun k_ hk => ⟨hk.1.1.2, ⟨hk.1.2, hk.2⟩⟩))))) (Reps.none _ _))); intro v511 w96 ho97 hb hg_ hnew_; clear hg_ hnew_; (first | rw [← Ny510.out] at ho97 | (simp only [Int.reduceToNat] at ho97; rw [← Ny510.out] at ho97)); have n0_ := Aside0.mk (Kd.N_elder' (by exact nF HO490.out) (Kd.N_base ho97) hb); have n1_ := Aside0.mk (Kd.N_elder' (by exact nF HO496.out) (Kd.N_base ho97) hb); have n2_ := Aside0.mk (Kd.N_elder' (by exact nF HO504.out) (Kd.N_base ho97) hb); have n3_ := Aside0.mk (Kd.N_lower ho97 (below_size (by exact lF HB.out))); have n4_ := Aside0.mk (below_step (by exact lF HB.out) hb); clear HO490; clear HO496; clear HO504; clear HB; clear HO509; have HO490 := n0_; have HO496 := n1_; have HO504 := n2_; have HO512 := n3_; have HB := n4_; clear n0_ n1_ n2_ n3_ n4_; clear hb ho97) | ((with_reducible refine gate_dst (N := 40) rfl ?_); refine Kd.R_lit k28 _ 28 ?hg (N := 40) ?hd (xs := ([(⟨0, 2⟩ : S28)] : List (S28))) (inner := [.int .u64 0, .int .u64 2]) (ok := fun _ => True) (okp := fun _ => True) ?hr ?hp (fun _ hk => hk) trivial (Below.refl _ _) (Nat.le_refl _) (by simp) ?_; (case hd => rfl); (case hg => rfl); (case hr => first | (go_simp; done) | (go_simp; rfl)); (case hp => exact (Reps.c2 (show Kd.M k28 _ _ _ (⟨0, 2⟩ : S28) [.int .u64 0, .int .u64 2] from (k28_mkM _ _ _ (⟨0, 2⟩ : S28) )) (Reps.none _ _))); intro v514 w98 ho99 hb hg_ hnew_; clear hg_ hnew_; (first | rw [← Ny513.out] at ho99 | (simp only [Int.reduceToNat] at ho99; rw [← Ny513.out] at ho99)); have n0_ := Aside0.mk (Kd.N_elder' (by exact nF HO490.out) (Kd.R_base ho99) hb); have n1_ := Aside0.mk (Kd.N_elder' (by exact nF HO496.out) (Kd.R_base ho99) hb); have n2_ := Aside0.mk (Kd.N_elder' (by exact nF HO504.out) (Kd.R_base ho99) hb); have n3_ := Aside0.mk (Kd.N_elder' (by exact nF HO512.out) (Kd.R_base ho99) hb); have n4_ := Aside0.mk (Kd.R_lower ho99 (below_size (by exact lF HB.out))); have n5_ := Aside0.mk (below_step (by exact lF HB.out) hb); clear HO490; clear HO496; clear HO504; clear HO512; clear HB; have HO490 := n0_; have HO496 := n1_; have HO504 := n2_; have HO512 := n3_; have HO515 := n4_; have HB := n5_; clear n0_ n1_ n2_ n3_ n4_ n5_; clear hb ho99; obtain ⟨Ao100, co100, eo100⟩ := Kd.N_slice HO512.out; subst eo100; obtain ⟨Ao101, co101, eo101⟩ := Kd.R_slice HO515.out; subst eo101) | ((with_reducible refine gate_callee (f := 33) rfl ?_); refine goesL_ (some 41) rfl rfl Try.func33 (by kernel_rfl) rfl #[.int .i64 1, .slice Ao83 y488.length co83, .slice Ao100 y510.length co100, .agg #[.int .u64 0, .int .u64 0], .slice Ao101 y513.length co101] rfl (by (try simp only [List.map_toArray, List.map_cons, List.map_nil]); first | done | rfl | (simp only [List.length_drop, List.length_take]; rfl)) ?_; (with_reducible refine (zero_Sum.calls k 1 _ _ y488 _ _ y510 0 0 _ _ y513 t516 t517 t518 _ ?side1 ?side2 ?side3 ?side4 ?side5 ?side6 A3.out).mono ?_); (case side1 => repeat (first | exact (Kd.N_reads' HO490.out).2.2 | (with_reducible refine Kd.C_alloc ?_ _) | (with_reducible refine Kd.C_drewN ?_ _) | (with_reducible refine Kd.C_drew ?_))); (case side2 => exact (Kd.N_reads' HO490.out).2.1); (case side3 => repeat (first | exact (Kd.N_reads' HO512.out).2.2 | (with_reducible refine Kd.C_alloc ?_ _) | (with_reducible refine Kd.C_drewN ?_ _) | (with_reducible refine Kd.C_drew ?_))); (case side4 => exact (Kd.N_reads' HO512.out).2.1); (case side5 => repeat (first | exact (Kd.R_reads' HO515.out).2.2 | (with_reducible refine Kd.C_alloc ?_ _) | (with_reducible refine Kd.C_drewN ?_ _) | (with_reducible refine Kd.C_drew ?_))); (case side6 => exact (Kd.R_reads' HO515.out).2.1); rintro e w102 ⟨rfl, hb⟩; refine ⟨_, rfl, ?_⟩; have n0_ := Aside0.mk (Kd.N_below (by exact nF HO490.out) hb); have n1_ := Aside0.mk (Kd.N_below (by exact nF HO496.out) hb); have n2_ := Aside0.mk (Kd.N_below (by exact nF HO504.out) hb); have n3_ := Aside0.mk (Kd.N_below (by exact nF HO512.out) hb); have n4_ := Aside0.mk (Kd.R_below (by exact rF HO515.out) hb); have n5_ := Aside0.mk (below_step (by exact lF HB.out) hb); clear HO490; clear HO496; clear HO504; clear HO512; clear HO515; clear HB; have HO490 := n0_; have HO496 := n1_; have HO504 := n2_; have HO512 := n3_; have HO515 := n4_; have HB := n5_; clear n0_ n1_ n2_ n3_ n4_ n5_; (try clear hb); (try clear hb2); (try clear hk); (try clear hi)) | ((with_reducible refine gate_dst (N := 6) rfl ?_); refine box_event ?hg (N := 6) ?hd (cs := #[.int .u64 0, .int .u64 0]) (t := 28) ?hr ?_; (case hd => rfl); (case hg => rfl); (case hr => first | (go_simp; done) | (go_simp; rfl)); intro gb519 hg w103 hbox hb; have n0_ := Aside0.mk (Kd.N_below (Kd.N_elderB (by exact nF HO490.out) gb519 (Nat.le_of_eq hg.symm)) hb); have n1_ := Aside0.mk (Kd.N_below (Kd.N_elderB (by exact nF HO496.out) gb519 (Nat.le_of_eq hg.symm)) hb); have n2_ := Aside0.mk (Kd.N_below (Kd.N_elderB (by exact nF HO504.out) gb519 (Nat.le_of_eq hg.symm)) hb); have n3_ := Aside0.mk (Kd.N_below (Kd.N_elderB (by exact nF HO512.out) gb519 (Nat.le_of_eq hg.symm)) hb); have n4_ := Aside0.mk (Kd.R_below (Kd.R_elderB (by exact rF HO515.out) gb519 (Nat.le_of_eq hg.symm)) hb); have n5_ := Aside0.mk (below_step (by exact lF HB.out) hb); have n6_ := Aside0.mk (hbox); have n7_ := Aside0.mk ((by rw [hg]; exact (below_size (by exact lF HB.out)) : w.heap.size ≤ gb519)); have n8_ := Aside0.mk ((by rw [hg]; exact (below_size (by exact lF HB.out)) : w.heap.size ≤ gb519)); clear HO490; clear HO496; clear HO504; clear HO512; clear HO515; clear HB; have HO490 := n0_; have HO496 := n1_; have HO504 := n2_; have HO512 := n3_; have HO515 := n4_; have HB := n5_; have BK519 := n6_; have GW519 := n7_; have GE519 := n8_; clear n0_ n1_ n2_ n3_ n4_ n5_ n6_ n7_ n8_; clear hb hbox hg; have hcz104_0 : w103.cell? ⟨gb519, 0, none⟩ = some (.int .u64 0) := (blk_cell BK519.out 0).trans rfl; have hcz104_1 : w103.cell? ⟨gb519, 1, none⟩ = some (.int .u64 0) := (blk_cell BK519.out 1).trans rfl; have hfz104_0 := blk_frozen BK519.out 0; have hfz104_1 := blk_frozen BK519.out 1))
     go_ret
     exact ⟨by first | rfl | (simp [errW_none, errW_some] <;> rfl) | (simp [*, errW_none, errW_some] <;> rfl), by repeat (first | (with_reducible first | exact HB.out | apply bA | apply bN | apply bD | refine bS ?_ GE519.out) | exact HB.out)⟩
   ·rw [if_neg c6] at H
    have c6b0 : (t518 == 0) = false := beq_eq_false_iff_ne.mpr c6
    have c6b1 : (t518 != 0) = true := bne_iff_ne.mpr c6
    obtain rfl := Option.some.inj H
    go_enter Try.func29, Try.ntmps29
    go_wp2_with (first | ((with_reducible refine gate_dst (N := 12) rfl ?_); refine Kd.R_lit k149 _ 149 ?hg (N := 12) ?hd (xs := ([(⟨2, 0, 0, (⟨0, 0⟩ : S28)⟩ : S149), (⟨1, 0, 0, (⟨0, 1⟩ : S28)⟩ : S149), (⟨3, 0, 1, (⟨0, 0⟩ : S28)⟩ : S149)] : List (S149))) (inner := [.int .i64 2, .int .i64 0, .int .i64 0, .int .u64 0, .int .u64 0, .int .i64 1, .int .i64 0, .int .i64 0, .int .u64 0, .int .u64 1, .int .i64 3, .int .i64 0, .int .i64 1, .int .u64 0, .int .u64 0]) (ok := fun _ => True) (okp := fun _ => True) ?hr ?hp (fun _ hk => hk) trivial (Below.refl _ _) (Nat.le_refl _) (by simp) ?_; (case hd => rfl); (case hg => rfl); (case hr => first | (go_simp; done) | (go_simp; rfl)); (case hp => exact (Reps.c5 (show Kd.M k149 _ _ _ (⟨2, 0, 0, (⟨0, 0⟩ : S28)⟩ : S149) [.int .i64 2, .int .i64 0, .int .i64 0, .int .u64 0, .int .u64 0] from (k149_mkM _ _ _ (⟨2, 0, 0, (⟨0, 0⟩ : S28)⟩ : S149) )) (Reps.c5 (show Kd.M k149 _ _ _ (⟨1, 0, 0, (⟨0, 1⟩ : S28)⟩ : S149) [.int .i64 1, .int .i64 0, .int .i64 0, .int .u64 0, .int .u64 1] from (k149_mkM _ _ _ (⟨1, 0, 0, (⟨0, 1⟩ : S28)⟩ : S149) )) (Reps.c5 (show Kd.M k149 _ _ _ (⟨3, 0, 1, (⟨0, 0⟩ : S28)⟩ : S149) [.int .i64 3, .int .i64 0, .int .i64 1, .int .u64 0, .int .u64 0] from (k149_mkM _ _ _ (⟨3, 0, 1, (⟨0, 0⟩ : S28)⟩ : S149) )) (Reps.none _ _))))); intro v486 w105 ho106 hb hg_ hnew_; clear hg_ hnew_; (first | rw [← Ny485.out] at ho106 | (simp only [Int.reduceToNat] at ho106; rw [← Ny485.out] at ho106)); have n0_ := Aside0.mk (Kd.R_lower ho106 (below_size (by exact lF HB.out))); have n1_ := Aside0.mk (below_step (by exact lF HB.out) hb); clear HB; have HO487 := n0_; have HB := n1_; clear n0_ n1_; clear hb ho106; obtain ⟨Ao107, co107, eo107⟩ := Kd.R_slice HO487.out; subst eo107) | ((with_reducible refine gate_dst (N := 13) rfl ?_); refine Kd.N_lit (Kd.slice 149 k149) _ 83 ?hg (N' := 13) ?hd (xs := ([y485] : List (List (S149)))) (inner := [.slice Ao107 y485.length co107]) (ok := (fun _ => True)) (okp := (fun _ => True)) ?hr ?hp (fun _ hk => hk) ((show ∀ k_, w105.heap.size ≤ k_ → (fun _ => True) k_ from fun k_ hk => trivial) _ (Nat.le_refl _)) (Below.refl _ _) (Nat.le_refl _) (by simp) ?_; (case hd => rfl); (case hg => rfl); (case hr => first | (go_simp; done) | (go_simp; rfl)); (case hp => exact (Reps.one (show Kd.FK (Kd.slice 149 k149) _ _ y485 [.slice Ao107 y485.length co107] from (Kd.FK_slice_mk (Kd.R_reads' (Kd.R_mono (ok' := (fun _ => True)) (HO487.out) (fun k_ hk => trivial))).2.1 (Kd.R_F (Kd.R_mono (ok' := (fun _ => True)) (HO487.out) (fun k_ hk => trivial))))) (Reps.none _ _))); intro v489 w108 ho109 hb hg_ hnew_; clear hg_ hnew_; (first | rw [← Ny488.out] at ho109 | (simp only [Int.reduceToNat] at ho109; rw [← Ny488.out] at ho109)); have n0_ := Aside0.mk (Kd.N_lower ho109 (below_size (by exact lF HB.out))); have n1_ := Aside0.mk (below_step (by exact lF HB.out) hb); clear HB; clear HO487; have HO490 := n0_; have HB := n1_; clear n0_ n1_; clear hb ho109) | ((with_reducible refine gate_dst (N := 18) rfl ?_); refine Kd.R_lit k28 _ 28 ?hg (N := 18) ?hd (xs := ([(⟨0, 1⟩ : S28), (⟨0, 1⟩ : S28)] : List (S28))) (inner := [.int .u64 0, .int .u64 1, .int .u64 0, .int .u64 1]) (ok := fun _ => True) (okp := fun _ => True) ?hr ?hp (fun _ hk => hk) trivial (Below.refl _ _) (Nat.le_refl _) (by simp) ?_; (case hd => rfl); (case hg => rfl); (case hr => first | (go_simp; done) | (go_simp; rfl)); (case hp => exact (Reps.c2 (show Kd.M k28 _ _ _ (⟨0, 1⟩ : S28) [.int .u64 0, .int .u64 1] from (k28_mkM _ _ _ (⟨0, 1⟩ : S28) )) (Reps.c2 (show Kd.M k28 _ _ _ (⟨0, 1⟩ : S28) [.int .u64 0, .int .u64 1] from (k28_mkM _ _ _ (⟨0, 1⟩ : S28) )) (Reps.none _ _)))); intro v492 w110 ho111 hb hg_ hnew_; clear hg_ hnew_; (first | rw [← Ny491.out] at ho111 | (simp only [Int.reduceToNat] at ho111; rw [← Ny491.out] at ho111)); have n0_ := Aside0.mk (Kd.N_elder' (by exact nF HO490.out) (Kd.R_base ho111) hb); have n1_ := Aside0.mk (Kd.R_lower ho111 (below_size (by exact lF HB.out))); have n2_ := Aside0.mk (below_step (by exact lF HB.out) hb); clear HO490; clear HB; have HO490 := n0_; have HO493 := n1_; have HB := n2_; clear n0_ n1_ n2_; clear hb ho111; obtain ⟨Ao112, co112, eo112⟩ := Kd.R_slice HO493.out; subst eo112) | ((with_reducible refine gate_dst (N := 19) rfl ?_); refine Kd.N_lit (Kd.slice 28 k28) _ 53 ?hg (N' := 19) ?hd (xs := ([y491] : List (List (S28)))) (inner := [.slice Ao112 y491.length co112]) (ok := (fun k_ => some k_ ≠ (v489 : Value).ownBlock)) (okp := (fun k_ => some k_ ≠ (v489 : Value).ownBlock)) ?hr ?hp (fun _ hk => hk) ((show ∀ k_, w110.heap.size ≤ k_ → (fun k_ => some k_ ≠ (v489 : Value).ownBlock) k_ from fun k_ hk => Kd.fresh' (Kd.N_lt (by exact nF HO490.out)) k_ hk) _ (Nat.le_refl _)) (Below.refl _ _) (Nat.le_refl _) (by simp) ?_; (case hd => rfl); (case hg => rfl); (case hr => first | (go_simp; done) | (go_simp; rfl)); (case hp => exact (Reps.one (show Kd.FK (Kd.slice 28 k28) _ _ y491 [.slice Ao112 y491.length co112] from (Kd.FK_slice_mk (Kd.R_reads' (Kd.R_mono (ok' := (fun k_ => some k_ ≠ (v489 : Value).ownBlock)) (Kd.R_apart' (HO493.out) (Kd.N_typed HO490.out) (by decide)) (fun k_ hk => hk.2))).2.1 (Kd.R_F (Kd.R_mono (ok' := (fun k_ => some k_ ≠ (v489 : Value).ownBlock)) (Kd.R_apart' (HO493.out) (Kd.N_typed HO490.out) (by decide)) (fun k_ hk => hk.2))))) (Reps.none _ _))); intro v495 w113 ho114 hb hg_ hnew_; clear hg_ hnew_; (first | rw [← Ny494.out] at ho114 | (simp only [Int.reduceToNat] at ho114; rw [← Ny494.out] at ho114)); have n0_ := Aside0.mk (Kd.N_elder' (by exact nF HO490.out) (Kd.N_base ho114) hb); have n1_ := Aside0.mk (Kd.N_lower ho114 (below_size (by exact lF HB.out))); have n2_ := Aside0.mk (below_step (by exact lF HB.out) hb); clear HO490; clear HB; clear HO493; have HO490 := n0_; have HO496 := n1_; have HB := n2_; clear n0_ n1_ n2_; clear hb ho114; obtain ⟨Ao115, co115, eo115⟩ := Kd.N_slice HO490.out; subst eo115; obtain ⟨Ao116, co116, eo116⟩ := Kd.N_slice HO496.out; subst eo116) | ((with_reducible refine gate_callee (f := 32) rfl ?_); refine goesL_ (some 20) rfl rfl Try.func32 (by kernel_rfl) rfl #[.int .i64 1, .slice Ao115 y488.length co115, .slice Ao116 y494.length co116] rfl (by (try simp only [List.map_toArray, List.map_cons, List.map_nil]); first | done | rfl | (simp only [List.length_drop, List.length_take]; rfl)) ?_; (with_reducible refine (zero_Holds.calls k 1 _ _ y488 _ _ y494 t497 t498 _ ?side1 ?side2 ?side3 ?side4 A1.out).mono ?_); (case side1 => repeat (first | exact (Kd.N_reads' HO490.out).2.2 | (with_reducible refine Kd.C_alloc ?_ _) | (with_reducible refine Kd.C_drewN ?_ _) | (with_reducible refine Kd.C_drew ?_))); (case side2 => exact (Kd.N_reads' HO490.out).2.1); (case side3 => repeat (first | exact (Kd.N_reads' HO496.out).2.2 | (with_reducible refine Kd.C_alloc ?_ _) | (with_reducible refine Kd.C_drewN ?_ _) | (with_reducible refine Kd.C_drew ?_))); (case side4 => exact (Kd.N_reads' HO496.out).2.1); rintro e w117 ⟨rfl, hb⟩; refine ⟨_, rfl, ?_⟩; have n0_ := Aside0.mk (Kd.N_below (by exact nF HO490.out) hb); have n1_ := Aside0.mk (Kd.N_below (by exact nF HO496.out) hb); have n2_ := Aside0.mk (below_step (by exact lF HB.out) hb); clear HO490; clear HO496; clear HB; have HO490 := n0_; have HO496 := n1_; have HB := n2_; clear n0_ n1_ n2_; (try clear hb); (try clear hb2); (try clear hk); (try clear hi)) | ((with_reducible refine gate_dst (N := 27) rfl ?_); refine Kd.R_lit k28 _ 28 ?hg (N := 27) ?hd (xs := ([(⟨0, 1⟩ : S28), (⟨0, 0⟩ : S28)] : List (S28))) (inner := [.int .u64 0, .int .u64 1, .int .u64 0, .int .u64 0]) (ok := fun _ => True) (okp := fun _ => True) ?hr ?hp (fun _ hk => hk) trivial (Below.refl _ _) (Nat.le_refl _) (by simp) ?_; (case hd => rfl); (case hg => rfl); (case hr => first | (go_simp; done) | (go_simp; rfl)); (case hp => exact (Reps.c2 (show Kd.M k28 _ _ _ (⟨0, 1⟩ : S28) [.int .u64 0, .int .u64 1] from (k28_mkM _ _ _ (⟨0, 1⟩ : S28) )) (Reps.c2 (show Kd.M k28 _ _ _ (⟨0, 0⟩ : S28) [.int .u64 0, .int .u64 0] from (k28_mkM _ _ _ (⟨0, 0⟩ : S28) )) (Reps.none _ _)))); intro v500 w118 ho119 hb hg_ hnew_; clear hg_ hnew_; (first | rw [← Ny499.out] at ho119 | (simp only [Int.reduceToNat] at ho119; rw [← Ny499.out] at ho119)); have n0_ := Aside0.mk (Kd.N_elder' (by exact nF HO490.out) (Kd.R_base ho119) hb); have n1_ := Aside0.mk (Kd.N_elder' (by exact nF HO496.out) (Kd.R_base ho119) hb); have n2_ := Aside0.mk (Kd.R_lower ho119 (below_size (by exact lF HB.out))); have n3_ := Aside0.mk (below_step (by exact lF HB.out) hb); clear HO490; clear HO496; clear HB; have HO490 := n0_; have HO496 := n1_; have HO501 := n2_; have HB := n3_; clear n0_ n1_ n2_ n3_; clear hb ho119; obtain ⟨Ao120, co120, eo120⟩ := Kd.R_slice HO501.out; subst eo120) | ((with_reducible refine gate_dst (N := 28) rfl ?_); refine Kd.N_lit (Kd.slice 28 k28) _ 53 ?hg (N' := 28) ?hd (xs := ([y499] : List (List (S28)))) (inner := [.slice Ao120 y499.length co120]) (ok := (fun k_ => some k_ ≠ (.slice Ao115 y488.length co115 : Value).ownBlock ∧ some k_ ≠ (.slice Ao116 y494.length co116 : Value).ownBlock)) (okp := (fun k_ => some k_ ≠ (.slice Ao115 y488.length co115 : Value).ownBlock ∧ some k_ ≠ (.slice Ao116 y494.length co116 : Value).ownBlock)) ?hr ?hp (fun _ hk => hk) ((show ∀ k_, w118.heap.size ≤ k_ → (fun k_ => some k_ ≠ (.slice Ao115 y488.length co115 : Value).ownBlock ∧ some k_ ≠ (.slice Ao116 y494.length co116 : Value).ownBlock) k_ from fun k_ hk => ⟨Kd.fresh' (Kd.N_lt (by exact nF HO490.out)) k_ hk, Kd.fresh' (Kd.N_lt (by exact nF HO496.out)) k_ hk⟩) _ (Nat.le_refl _)) (Below.refl _ _) (Nat.le_refl _) (by simp) ?_; (case hd => rfl); (case hg => rfl); (case hr => first | (go_simp; done) | (go_simp; rfl)); (case hp => exact (Reps.one (show Kd.FK (Kd.slice 28 k28) _ _ y499 [.slice Ao120 y499.length co120] from (Kd.FK_slice_mk (Kd.R_reads' (Kd.R_mono (ok' := (fun k_ => some k_ ≠ (.slice Ao115 y488.length co115 : Value).ownBlock ∧ some k_ ≠ (.slice Ao116 y494.length co116 : Value).ownBlock)) (Kd.R_apart' (Kd.R_apart' (HO501.out) (Kd.N_typed HO490.out) (by decide)) (Kd.N_typed HO496.out) (by decide)) (fun k_ hk => ⟨hk.1.2, hk.2⟩))).2.1 (Kd.R_F (Kd.R_mono (ok' := (fun k_ => some k_ ≠ (.slice Ao115 y488.length co115 : Value).ownBlock ∧ some k_ ≠ (.slice Ao116 y494.length co116 : Value).ownBlock)) (Kd.R_apart' (Kd.R_apart' (HO501.out) (Kd.N_typed HO490.out) (by decide)) (Kd.N_typed HO496.out) (by decide)) (fun k_ hk => ⟨hk.1.2, hk.2⟩))))) (Reps.none _ _))); intro v503 w121 ho122 hb hg_ hnew_; clear hg_ hnew_; (first | rw [← Ny502.out] at ho122 | (simp only [Int.reduceToNat] at ho122; rw [← Ny502.out] at ho122)); have n0_ := Aside0.mk (Kd.N_elder' (by exact nF HO490.out) (Kd.N_base ho122) hb); have n1_ := Aside0.mk (Kd.N_elder' (by exact nF HO496.out) (Kd.N_base ho122) hb); have n2_ := Aside0.mk (Kd.N_lower ho122 (below_size (by exact lF HB.out))); have n3_ := Aside0.mk (below_step (by exact lF HB.out) hb); clear HO490; clear HO496; clear HB; clear HO501; have HO490 := n0_; have HO496 := n1_; have HO504 := n2_; have HB := n3_; clear n0_ n1_ n2_ n3_; clear hb ho122; obtain ⟨Ao123, co123, eo123⟩ := Kd.N_slice HO504.out; subst eo123) | ((with_reducible refine gate_callee (f := 32) rfl ?_); refine goesL_ (some 29) rfl rfl Try.func32 (by kernel_rfl) rfl #[.int .i64 1, .slice Ao115 y488.length co115, .slice Ao123 y502.length co123] rfl (by (try simp only [List.map_toArray, List.map_cons, List.map_nil]); first | done | rfl | (simp only [List.length_drop, List.length_take]; rfl)) ?_; (with_reducible refine (zero_Holds.calls k 1 _ _ y488 _ _ y502 t505 t506 _ ?side1 ?side2 ?side3 ?side4 A2.out).mono ?_); (case side1 => repeat (first | exact (Kd.N_reads' HO490.out).2.2 | (with_reducible refine Kd.C_alloc ?_ _) | (with_reducible refine Kd.C_drewN ?_ _) | (with_reducible refine Kd.C_drew ?_))); (case side2 => exact (Kd.N_reads' HO490.out).2.1); (case side3 => repeat (first | exact (Kd.N_reads' HO504.out).2.2 | (with_reducible refine Kd.C_alloc ?_ _) | (with_reducible refine Kd.C_drewN ?_ _) | (with_reducible refine Kd.C_drew ?_))); (case side4 => exact (Kd.N_reads' HO504.out).2.1); rintro e w124 ⟨rfl, hb⟩; refine ⟨_, rfl, ?_⟩; have n0_ := Aside0.mk (Kd.N_below (by exact nF HO490.out) hb); have n1_ := Aside0.mk (Kd.N_below (by exact nF HO496.out) hb); have n2_ := Aside0.mk (Kd.N_below (by exact nF HO504.out) hb); have n3_ := Aside0.mk (below_step (by exact lF HB.out) hb); clear HO490; clear HO496; clear HO504; clear HB; have HO490 := n0_; have HO496 := n1_; have HO504 := n2_; have HB := n3_; clear n0_ n1_ n2_ n3_; (try clear hb); (try clear hb2); (try clear hk); (try clear hi)) | ((with_reducible refine gate_dst (N := 36) rfl ?_); refine Kd.R_lit k28 _ 28 ?hg (N := 36) ?hd (xs := ([(⟨0, 1⟩ : S28), (⟨0, 0⟩ : S28)] : List (S28))) (inner := [.int .u64 0, .int .u64 1, .int .u64 0, .int .u64 0]) (ok := fun _ => True) (okp := fun _ => True) ?hr ?hp (fun _ hk => hk) trivial (Below.refl _ _) (Nat.le_refl _) (by simp) ?_; (case hd => rfl); (case hg => rfl); (case hr => first | (go_simp; done) | (go_simp; rfl)); (case hp => exact (Reps.c2 (show Kd.M k28 _ _ _ (⟨0, 1⟩ : S28) [.int .u64 0, .int .u64 1] from (k28_mkM _ _ _ (⟨0, 1⟩ : S28) )) (Reps.c2 (show Kd.M k28 _ _ _ (⟨0, 0⟩ : S28) [.int .u64 0, .int .u64 0] from (k28_mkM _ _ _ (⟨0, 0⟩ : S28) )) (Reps.none _ _)))); intro v508 w125 ho126 hb hg_ hnew_; clear hg_ hnew_; (first | rw [← Ny507.out] at ho126 | (simp only [Int.reduceToNat] at ho126; rw [← Ny507.out] at ho126)); have n0_ := Aside0.mk (Kd.N_elder' (by exact nF HO490.out) (Kd.R_base ho126) hb); have n1_ := Aside0.mk (Kd.N_elder' (by exact nF HO496.out) (Kd.R_base ho126) hb); have n2_ := Aside0.mk (Kd.N_elder' (by exact nF HO504.out) (Kd.R_base ho126) hb); have n3_ := Aside0.mk (Kd.R_lower ho126 (below_size (by exact lF HB.out))); have n4_ := Aside0.mk (below_step (by exact lF HB.out) hb); clear HO490; clear HO496; clear HO504; clear HB; have HO490 := n0_; have HO496 := n1_; have HO504 := n2_; have HO509 := n3_; have HB := n4_; clear n0_ n1_ n2_ n3_ n4_; clear hb ho126; obtain ⟨Ao127, co127, eo127⟩ := Kd.R_slice HO509.out; subst eo127) | ((with_reducible refine gate_dst (N := 37) rfl ?_); refine Kd.N_lit (Kd.slice 28 k28) _ 53 ?hg (N' := 37) ?hd (xs := ([y507] : List (List (S28)))) (inner := [.slice Ao127 y507.length co127]) (ok := (fun k_ => some k_ ≠ (.slice Ao115 y488.length co115 : Value).ownBlock ∧ some k_ ≠ (.slice Ao116 y494.length co116 : Value).ownBlock ∧ some k_ ≠ (.slice Ao123 y502.length co123 : Value).ownBlock)) (okp := (fun k_ => some k_ ≠ (.slice Ao115 y488.length co115 : Value).ownBlock ∧ some k_ ≠ (.slice Ao116 y494.length co116 : Value).ownBlock ∧ some k_ ≠ (.slice Ao123 y502.length co123 : Value).ownBlock)) ?hr ?hp (fun _ hk => hk) ((show ∀ k_, w125.heap.size ≤ k_ → (fun k_ => some k_ ≠ (.slice Ao115 y488.length co115 : Value).ownBlock ∧ some k_ ≠ (.slice Ao116 y494.length co116 : Value).ownBlock ∧ some k_ ≠ (.slice Ao123 y502.length co123 : Value).ownBlock) k_ from fun k_ hk => ⟨Kd.fresh' (Kd.N_lt (by exact nF HO490.out)) k_ hk, Kd.fresh' (Kd.N_lt (by exact nF HO496.out)) k_ hk, Kd.fresh' (Kd.N_lt (by exact nF HO504.out)) k_ hk⟩) _ (Nat.le_refl _)) (Below.refl _ _) (Nat.le_refl _) (by simp) ?_; (case hd => rfl); (case hg => rfl); (case hr => first | (go_simp; done) | (go_simp; rfl)); (case hp => exact (Reps.one (show Kd.FK (Kd.slice 28 k28) _ _ y507 [.slice Ao127 y507.length co127] from (Kd.FK_slice_mk (Kd.R_reads' (Kd.R_mono (ok' := (fun k_ => some k_ ≠ (.slice Ao115 y488.length co115 : Value).ownBlock ∧ some k_ ≠ (.slice Ao116 y494.length co116 : Value).ownBlock ∧ some k_ ≠ (.slice Ao123 y502.length co123 : Value).ownBlock)) (Kd.R_apart' (Kd.R_apart' (Kd.R_apart' (HO509.out) (Kd.N_typed HO490.out) (by decide)) (Kd.N_typed HO496.out) (by decide)) (Kd.N_typed HO504.out) (by decide)) (fun k_ hk => ⟨hk.1.1.2, ⟨hk.1.2, hk.2⟩⟩))).2.1 (Kd.R_F (Kd.R_mono (ok' := (fun k_ => some k_ ≠ (.slice Ao115 y488.length co115 : Value).ownBlock ∧ some k_ ≠ (.slice Ao116 y494.length co116 : Value).ownBlock ∧ some k_ ≠ (.slice Ao123 y502.length co123 : Value).ownBlock)) (Kd.R_apart' (Kd.R_apart' (Kd.R_apart' (HO509.out) (Kd.N_typed HO490.out) (by decide)) (Kd.N_typed HO496.out) (by decide)) (Kd.N_typed HO504.out) (by decide)) (fun k_ hk => ⟨hk.1.1.2, ⟨hk.1.2, hk.2⟩⟩))))) (Reps.none _ _))); intro v511 w128 ho129 hb hg_ hnew_; clear hg_ hnew_; (first | rw [← Ny510.out] at ho129 | (simp only [Int.reduceToNat] at ho129; rw [← Ny510.out] at ho129)); have n0_ := Aside0.mk (Kd.N_elder' (by exact nF HO490.out) (Kd.N_base ho129) hb); have n1_ := Aside0.mk (Kd.N_elder' (by exact nF HO496.out) (Kd.N_base ho129) hb); have n2_ := Aside0.mk (Kd.N_elder' (by exact nF HO504.out) (Kd.N_base ho129) hb); have n3_ := Aside0.mk (Kd.N_lower ho129 (below_size (by exact lF HB.out))); have n4_ := Aside0.mk (below_step (by exact lF HB.out) hb); clear HO490; clear HO496; clear HO504; clear HB; clear HO509; have HO490 := n0_; have HO496 := n1_; have HO504 := n2_; have HO512 := n3_; have HB := n4_; clear n0_ n1_ n2_ n3_ n4_; clear hb ho129) | ((with_reducible refine gate_dst (N := 40) rfl ?_); refine Kd.R_lit k28 _ 28 ?hg (N := 40) ?hd (xs := ([(⟨0, 2⟩ : S28)] : List (S28))) (inner := [.int .u64 0, .int .u64 2]) (ok := fun _ => True) (okp := fun _ => True) ?hr ?hp (fun _ hk => hk) trivial (Below.refl _ _) (Nat.le_refl _) (by simp) ?_; (case hd => rfl); (case hg => rfl); (case hr => first | (go_simp; done) | (go_simp; rfl)); (case hp => exact (Reps.c2 (show Kd.M k28 _ _ _ (⟨0, 2⟩ : S28) [.int .u64 0, .int .u64 2] from (k28_mkM _ _ _ (⟨0, 2⟩ : S28) )) (Reps.none _ _))); intro v514 w130 ho131 hb hg_ hnew_; clear hg_ hnew_; (first | rw [← Ny513.out] at ho131 | (simp only [Int.reduceToNat] at ho131; rw [← Ny513.out] at ho131)); have n0_ := Aside0.mk (Kd.N_elder' (by exact nF HO490.out) (Kd.R_base ho131) hb); have n1_ := Aside0.mk (Kd.N_elder' (by exact nF HO496.out) (Kd.R_base ho131) hb); have n2_ := Aside0.mk (Kd.N_elder' (by exact nF HO504.out) (Kd.R_base ho131) hb); have n3_ := Aside0.mk (Kd.N_elder' (by exact nF HO512.out) (Kd.R_base ho131) hb); have n4_ := Aside0.mk (Kd.R_lower ho131 (below_size (by exact lF HB.out))); have n5_ := Aside0.mk (below_step (by exact lF HB.out) hb); clear HO490; clear HO496; clear HO504; clear HO512; clear HB; have HO490 := n0_; have HO496 := n1_; have HO504 := n2_; have HO512 := n3_; have HO515 := n4_; have HB := n5_; clear n0_ n1_ n2_ n3_ n4_ n5_; clear hb ho131; obtain ⟨Ao132, co132, eo132⟩ := Kd.N_slice HO512.out; subst eo132; obtain ⟨Ao133, co133, eo133⟩ := Kd.R_slice HO515.out; subst eo133) | ((with_reducible refine gate_callee (f := 33) rfl ?_); refine goesL_ (some 41) rfl rfl Try.func33 (by kernel_rfl) rfl #[.int .i64 1, .slice Ao115 y488.length co115, .slice Ao132 y510.length co132, .agg #[.int .u64 0, .int .u64 0], .slice Ao133 y513.length co133] rfl (by (try simp only [List.map_toArray, List.map_cons, List.map_nil]); first | done | rfl | (simp only [List.length_drop, List.length_take]; rfl)) ?_; (with_reducible refine (zero_Sum.calls k 1 _ _ y488 _ _ y510 0 0 _ _ y513 t516 t517 t518 _ ?side1 ?side2 ?side3 ?side4 ?side5 ?side6 A3.out).mono ?_); (case side1 => repeat (first | exact (Kd.N_reads' HO490.out).2.2 | (with_reducible refine Kd.C_alloc ?_ _) | (with_reducible refine Kd.C_drewN ?_ _) | (with_reducible refine Kd.C_drew ?_))); (case side2 => exact (Kd.N_reads' HO490.out).2.1); (case side3 => repeat (first | exact (Kd.N_reads' HO512.out).2.2 | (with_reducible refine Kd.C_alloc ?_ _) | (with_reducible refine Kd.C_drewN ?_ _) | (with_reducible refine Kd.C_drew ?_))); (case side4 => exact (Kd.N_reads' HO512.out).2.1); (case side5 => repeat (first | exact (Kd.R_reads' HO515.out).2.2 | (with_reducible refine Kd.C_alloc ?_ _) | (with_reducible refine Kd.C_drewN ?_ _) | (with_reducible refine Kd.C_drew ?_))); (case side6 => exact (Kd.R_reads' HO515.out).2.1); rintro e w134 ⟨rfl, hb⟩; refine ⟨_, rfl, ?_⟩; have n0_ := Aside0.mk (Kd.N_below (by exact nF HO490.out) hb); have n1_ := Aside0.mk (Kd.N_below (by exact nF HO496.out) hb); have n2_ := Aside0.mk (Kd.N_below (by exact nF HO504.out) hb); have n3_ := Aside0.mk (Kd.N_below (by exact nF HO512.out) hb); have n4_ := Aside0.mk (Kd.R_below (by exact rF HO515.out) hb); have n5_ := Aside0.mk (below_step (by exact lF HB.out) hb); clear HO490; clear HO496; clear HO504; clear HO512; clear HO515; clear HB; have HO490 := n0_; have HO496 := n1_; have HO504 := n2_; have HO512 := n3_; have HO515 := n4_; have HB := n5_; clear n0_ n1_ n2_ n3_ n4_ n5_; (try clear hb); (try clear hb2); (try clear hk); (try clear hi)) | ((with_reducible refine gate_dst (N := 6) rfl ?_); refine box_event ?hg (N := 6) ?hd (cs := #[.int .u64 0, .int .u64 0]) (t := 28) ?hr ?_; (case hd => rfl); (case hg => rfl); (case hr => first | (go_simp; done) | (go_simp; rfl)); intro gb519 hg w135 hbox hb; have n0_ := Aside0.mk (Kd.N_below (Kd.N_elderB (by exact nF HO490.out) gb519 (Nat.le_of_eq hg.symm)) hb); have n1_ := Aside0.mk (Kd.N_below (Kd.N_elderB (by exact nF HO496.out) gb519 (Nat.le_of_eq hg.symm)) hb); have n2_ := Aside0.mk (Kd.N_below (Kd.N_elderB (by exact nF HO504.out) gb519 (Nat.le_of_eq hg.symm)) hb); have n3_ := Aside0.mk (Kd.N_below (Kd.N_elderB (by exact nF HO512.out) gb519 (Nat.le_of_eq hg.symm)) hb); have n4_ := Aside0.mk (Kd.R_below (Kd.R_elderB (by exact rF HO515.out) gb519 (Nat.le_of_eq hg.symm)) hb); have n5_ := Aside0.mk (below_step (by exact lF HB.out) hb); have n6_ := Aside0.mk (hbox); have n7_ := Aside0.mk ((by rw [hg]; exact (below_size (by exact lF HB.out)) : w.heap.size ≤ gb519)); have n8_ := Aside0.mk ((by rw [hg]; exact (below_size (by exact lF HB.out)) : w.heap.size ≤ gb519)); clear HO490; clear HO496; clear HO504; clear HO512; clear HO515; clear HB; have HO490 := n0_; have HO496 := n1_; have HO504 := n2_; have HO512 := n3_; have HO515 := n4_; have HB := n5_; have BK519 := n6_; have GW519 := n7_; have GE519 := n8_; clear n0_ n1_ n2_ n3_ n4_ n5_ n6_ n7_ n8_; clear hb hbox hg; have hcz136_0 : w135.cell? ⟨gb519, 0, none⟩ = some (.int .u64 0) := (blk_cell BK519.out 0).trans rfl; have hcz136_1 : w135.cell? ⟨gb519, 1, none⟩ = some (.int .u64 0) := (blk_cell BK519.out 1).trans rfl; have hfz136_0 := blk_frozen BK519.out 0; have hfz136_1 := blk_frozen BK519.out 1))
    go_ret
    exact ⟨by first | rfl | (simp [errW_none, errW_some] <;> rfl) | (simp [*, errW_none, errW_some] <;> rfl), by repeat (first | (with_reducible first | exact HB.out | apply bA | apply bN | apply bD | refine bS ?_ GE519.out) | exact HB.out)⟩
  ·rw [if_neg c5] at H
   have c5b0 : (t506 == 0) = false := beq_eq_false_iff_ne.mpr c5
   have c5b1 : (t506 != 0) = true := bne_iff_ne.mpr c5
   obtain rfl := Option.some.inj H
   go_enter Try.func29, Try.ntmps29
   go_wp2_with (first | ((with_reducible refine gate_dst (N := 12) rfl ?_); refine Kd.R_lit k149 _ 149 ?hg (N := 12) ?hd (xs := ([(⟨2, 0, 0, (⟨0, 0⟩ : S28)⟩ : S149), (⟨1, 0, 0, (⟨0, 1⟩ : S28)⟩ : S149), (⟨3, 0, 1, (⟨0, 0⟩ : S28)⟩ : S149)] : List (S149))) (inner := [.int .i64 2, .int .i64 0, .int .i64 0, .int .u64 0, .int .u64 0, .int .i64 1, .int .i64 0, .int .i64 0, .int .u64 0, .int .u64 1, .int .i64 3, .int .i64 0, .int .i64 1, .int .u64 0, .int .u64 0]) (ok := fun _ => True) (okp := fun _ => True) ?hr ?hp (fun _ hk => hk) trivial (Below.refl _ _) (Nat.le_refl _) (by simp) ?_; (case hd => rfl); (case hg => rfl); (case hr => first | (go_simp; done) | (go_simp; rfl)); (case hp => exact (Reps.c5 (show Kd.M k149 _ _ _ (⟨2, 0, 0, (⟨0, 0⟩ : S28)⟩ : S149) [.int .i64 2, .int .i64 0, .int .i64 0, .int .u64 0, .int .u64 0] from (k149_mkM _ _ _ (⟨2, 0, 0, (⟨0, 0⟩ : S28)⟩ : S149) )) (Reps.c5 (show Kd.M k149 _ _ _ (⟨1, 0, 0, (⟨0, 1⟩ : S28)⟩ : S149) [.int .i64 1, .int .i64 0, .int .i64 0, .int .u64 0, .int .u64 1] from (k149_mkM _ _ _ (⟨1, 0, 0, (⟨0, 1⟩ : S28)⟩ : S149) )) (Reps.c5 (show Kd.M k149 _ _ _ (⟨3, 0, 1, (⟨0, 0⟩ : S28)⟩ : S149) [.int .i64 3, .int .i64 0, .int .i64 1, .int .u64 0, .int .u64 0] from (k149_mkM _ _ _ (⟨3, 0, 1, (⟨0, 0⟩ : S28)⟩ : S149) )) (Reps.none _ _))))); intro v486 w137 ho138 hb hg_ hnew_; clear hg_ hnew_; (first | rw [← Ny485.out] at ho138 | (simp only [Int.reduceToNat] at ho138; rw [← Ny485.out] at ho138)); have n0_ := Aside0.mk (Kd.R_lower ho138 (below_size (by exact lF HB.out))); have n1_ := Aside0.mk (below_step (by exact lF HB.out) hb); clear HB; have HO487 := n0_; have HB := n1_; clear n0_ n1_; clear hb ho138; obtain ⟨Ao139, co139, eo139⟩ := Kd.R_slice HO487.out; subst eo139) | ((with_reducible refine gate_dst (N := 13) rfl ?_); refine Kd.N_lit (Kd.slice 149 k149) _ 83 ?hg (N' := 13) ?hd (xs := ([y485] : List (List (S149)))) (inner := [.slice Ao139 y485.length co139]) (ok := (fun _ => True)) (okp := (fun _ => True)) ?hr ?hp (fun _ hk => hk) ((show ∀ k_, w137.heap.size ≤ k_ → (fun _ => True) k_ from fun k_ hk => trivial) _ (Nat.le_refl _)) (Below.refl _ _) (Nat.le_refl _) (by simp) ?_; (case hd => rfl); (case hg => rfl); (case hr => first | (go_simp; done) | (go_simp; rfl)); (case hp => exact (Reps.one (show Kd.FK (Kd.slice 149 k149) _ _ y485 [.slice Ao139 y485.length co139] from (Kd.FK_slice_mk (Kd.R_reads' (Kd.R_mono (ok' := (fun _ => True)) (HO487.out) (fun k_ hk => trivial))).2.1 (Kd.R_F (Kd.R_mono (ok' := (fun _ => True)) (HO487.out) (fun k_ hk => trivial))))) (Reps.none _ _))); intro v489 w140 ho141 hb hg_ hnew_; clear hg_ hnew_; (first | rw [← Ny488.out] at ho141 | (simp only [Int.reduceToNat] at ho141; rw [← Ny488.out] at ho141)); have n0_ := Aside0.mk (Kd.N_lower ho141 (below_size (by exact lF HB.out))); have n1_ := Aside0.mk (below_step (by exact lF HB.out) hb); clear HB; clear HO487; have HO490 := n0_; have HB := n1_; clear n0_ n1_; clear hb ho141) | ((with_reducible refine gate_dst (N := 18) rfl ?_); refine Kd.R_lit k28 _ 28 ?hg (N := 18) ?hd (xs := ([(⟨0, 1⟩ : S28), (⟨0, 1⟩ : S28)] : List (S28))) (inner := [.int .u64 0, .int .u64 1, .int .u64 0, .int .u64 1]) (ok := fun _ => True) (okp := fun _ => True) ?hr ?hp (fun _ hk => hk) trivial (Below.refl _ _) (Nat.le_refl _) (by simp) ?_; (case hd => rfl); (case hg => rfl); (case hr => first | (go_simp; done) | (go_simp; rfl)); (case hp => exact (Reps.c2 (show Kd.M k28 _ _ _ (⟨0, 1⟩ : S28) [.int .u64 0, .int .u64 1] from (k28_mkM _ _ _ (⟨0, 1⟩ : S28) )) (Reps.c2 (show Kd.M k28 _ _ _ (⟨0, 1⟩ : S28) [.int .u64 0, .int .u64 1] from (k28_mkM _ _ _ (⟨0, 1⟩ : S28) )) (Reps.none _ _)))); intro v492 w142 ho143 hb hg_ hnew_; clear hg_ hnew_; (first | rw [← Ny491.out] at ho143 | (simp only [Int.reduceToNat] at ho143; rw [← Ny491.out] at ho143)); have n0_ := Aside0.mk (Kd.N_elder' (by exact nF HO490.out) (Kd.R_base ho143) hb); have n1_ := Aside0.mk (Kd.R_lower ho143 (below_size (by exact lF HB.out))); have n2_ := Aside0.mk (below_step (by exact lF HB.out) hb); clear HO490; clear HB; have HO490 := n0_; have HO493 := n1_; have HB := n2_; clear n0_ n1_ n2_; clear hb ho143; obtain ⟨Ao144, co144, eo144⟩ := Kd.R_slice HO493.out; subst eo144) | ((with_reducible refine gate_dst (N := 19) rfl ?_); refine Kd.N_lit (Kd.slice 28 k28) _ 53 ?hg (N' := 19) ?hd (xs := ([y491] : List (List (S28)))) (inner := [.slice Ao144 y491.length co144]) (ok := (fun k_ => some k_ ≠ (v489 : Value).ownBlock)) (okp := (fun k_ => some k_ ≠ (v489 : Value).ownBlock)) ?hr ?hp (fun _ hk => hk) ((show ∀ k_, w142.heap.size ≤ k_ → (fun k_ => some k_ ≠ (v489 : Value).ownBlock) k_ from fun k_ hk => Kd.fresh' (Kd.N_lt (by exact nF HO490.out)) k_ hk) _ (Nat.le_refl _)) (Below.refl _ _) (Nat.le_refl _) (by simp) ?_; (case hd => rfl); (case hg => rfl); (case hr => first | (go_simp; done) | (go_simp; rfl)); (case hp => exact (Reps.one (show Kd.FK (Kd.slice 28 k28) _ _ y491 [.slice Ao144 y491.length co144] from (Kd.FK_slice_mk (Kd.R_reads' (Kd.R_mono (ok' := (fun k_ => some k_ ≠ (v489 : Value).ownBlock)) (Kd.R_apart' (HO493.out) (Kd.N_typed HO490.out) (by decide)) (fun k_ hk => hk.2))).2.1 (Kd.R_F (Kd.R_mono (ok' := (fun k_ => some k_ ≠ (v489 : Value).ownBlock)) (Kd.R_apart' (HO493.out) (Kd.N_typed HO490.out) (by decide)) (fun k_ hk => hk.2))))) (Reps.none _ _))); intro v495 w145 ho146 hb hg_ hnew_; clear hg_ hnew_; (first | rw [← Ny494.out] at ho146 | (simp only [Int.reduceToNat] at ho146; rw [← Ny494.out] at ho146)); have n0_ := Aside0.mk (Kd.N_elder' (by exact nF HO490.out) (Kd.N_base ho146) hb); have n1_ := Aside0.mk (Kd.N_lower ho146 (below_size (by exact lF HB.out))); have n2_ := Aside0.mk (below_step (by exact lF HB.out) hb); clear HO490; clear HB; clear HO493; have HO490 := n0_; have HO496 := n1_; have HB := n2_; clear n0_ n1_ n2_; clear hb ho146; obtain ⟨Ao147, co147, eo147⟩ := Kd.N_slice HO490.out; subst eo147; obtain ⟨Ao148, co148, eo148⟩ := Kd.N_slice HO496.out; subst eo148) | ((with_reducible refine gate_callee (f := 32) rfl ?_); refine goesL_ (some 20) rfl rfl Try.func32 (by kernel_rfl) rfl #[.int .i64 1, .slice Ao147 y488.length co147, .slice Ao148 y494.length co148] rfl (by (try simp only [List.map_toArray, List.map_cons, List.map_nil]); first | done | rfl | (simp only [List.length_drop, List.length_take]; rfl)) ?_; (with_reducible refine (zero_Holds.calls k 1 _ _ y488 _ _ y494 t497 t498 _ ?side1 ?side2 ?side3 ?side4 A1.out).mono ?_); (case side1 => repeat (first | exact (Kd.N_reads' HO490.out).2.2 | (with_reducible refine Kd.C_alloc ?_ _) | (with_reducible refine Kd.C_drewN ?_ _) | (with_reducible refine Kd.C_drew ?_))); (case side2 => exact (Kd.N_reads' HO490.out).2.1); (case side3 => repeat (first | exact (Kd.N_reads' HO496.out).2.2 | (with_reducible refine Kd.C_alloc ?_ _) | (with_reducible refine Kd.C_drewN ?_ _) | (with_reducible refine Kd.C_drew ?_))); (case side4 => exact (Kd.N_reads' HO496.out).2.1); rintro e w149 ⟨rfl, hb⟩; refine ⟨_, rfl, ?_⟩; have n0_ := Aside0.mk (Kd.N_below (by exact nF HO490.out) hb); have n1_ := Aside0.mk (Kd.N_below (by exact nF HO496.out) hb); have n2_ := Aside0.mk (below_step (by exact lF HB.out) hb); clear HO490; clear HO496; clear HB; have HO490 := n0_; have HO496 := n1_; have HB := n2_; clear n0_ n1_ n2_; (try clear hb); (try clear hb2); (try clear hk); (try clear hi)) | ((with_reducible refine gate_dst (N := 27) rfl ?_); refine Kd.R_lit k28 _ 28 ?hg (N := 27) ?hd (xs := ([(⟨0, 1⟩ : S28), (⟨0, 0⟩ : S28)] : List (S28))) (inner := [.int .u64 0, .int .u64 1, .int .u64 0, .int .u64 0]) (ok := fun _ => True) (okp := fun _ => True) ?hr ?hp (fun _ hk => hk) trivial (Below.refl _ _) (Nat.le_refl _) (by simp) ?_; (case hd => rfl); (case hg => rfl); (case hr => first | (go_simp; done) | (go_simp; rfl)); (case hp => exact (Reps.c2 (show Kd.M k28 _ _ _ (⟨0, 1⟩ : S28) [.int .u64 0, .int .u64 1] from (k28_mkM _ _ _ (⟨0, 1⟩ : S28) )) (Reps.c2 (show Kd.M k28 _ _ _ (⟨0, 0⟩ : S28) [.int .u64 0, .int .u64 0] from (k28_mkM _ _ _ (⟨0, 0⟩ : S28) )) (Reps.none _ _)))); intro v500 w150 ho151 hb hg_ hnew_; clear hg_ hnew_; (first | rw [← Ny499.out] at ho151 | (simp only [Int.reduceToNat] at ho151; rw [← Ny499.out] at ho151)); have n0_ := Aside0.mk (Kd.N_elder' (by exact nF HO490.out) (Kd.R_base ho151) hb); have n1_ := Aside0.mk (Kd.N_elder' (by exact nF HO496.out) (Kd.R_base ho151) hb); have n2_ := Aside0.mk (Kd.R_lower ho151 (below_size (by exact lF HB.out))); have n3_ := Aside0.mk (below_step (by exact lF HB.out) hb); clear HO490; clear HO496; clear HB; have HO490 := n0_; have HO496 := n1_; have HO501 := n2_; have HB := n3_; clear n0_ n1_ n2_ n3_; clear hb ho151; obtain ⟨Ao152, co152, eo152⟩ := Kd.R_slice HO501.out; subst eo152) | ((with_reducible refine gate_dst (N := 28) rfl ?_); refine Kd.N_lit (Kd.slice 28 k28) _ 53 ?hg (N' := 28) ?hd (xs := ([y499] : List (List (S28)))) (inner := [.slice Ao152 y499.length co152]) (ok := (fun k_ => some k_ ≠ (.slice Ao147 y488.length co147 : Value).ownBlock ∧ some k_ ≠ (.slice Ao148 y494.length co148 : Value).ownBlock)) (okp := (fun k_ => some k_ ≠ (.slice Ao147 y488.length co147 : Value).ownBlock ∧ some k_ ≠ (.slice Ao148 y494.length co148 : Value).ownBlock)) ?hr ?hp (fun _ hk => hk) ((show ∀ k_, w150.heap.size ≤ k_ → (fun k_ => some k_ ≠ (.slice Ao147 y488.length co147 : Value).ownBlock ∧ some k_ ≠ (.slice Ao148 y494.length co148 : Value).ownBlock) k_ from fun k_ hk => ⟨Kd.fresh' (Kd.N_lt (by exact nF HO490.out)) k_ hk, Kd.fresh' (Kd.N_lt (by exact nF HO496.out)) k_ hk⟩) _ (Nat.le_refl _)) (Below.refl _ _) (Nat.le_refl _) (by simp) ?_; (case hd => rfl); (case hg => rfl); (case hr => first | (go_simp; done) | (go_simp; rfl)); (case hp => exact (Reps.one (show Kd.FK (Kd.slice 28 k28) _ _ y499 [.slice Ao152 y499.length co152] from (Kd.FK_slice_mk (Kd.R_reads' (Kd.R_mono (ok' := (fun k_ => some k_ ≠ (.slice Ao147 y488.length co147 : Value).ownBlock ∧ some k_ ≠ (.slice Ao148 y494.length co148 : Value).ownBlock)) (Kd.R_apart' (Kd.R_apart' (HO501.out) (Kd.N_typed HO490.out) (by decide)) (Kd.N_typed HO496.out) (by decide)) (fun k_ hk => ⟨hk.1.2, hk.2⟩))).2.1 (Kd.R_F (Kd.R_mono (ok' := (fun k_ => some k_ ≠ (.slice Ao147 y488.length co147 : Value).ownBlock ∧ some k_ ≠ (.slice Ao148 y494.length co148 : Value).ownBlock)) (Kd.R_apart' (Kd.R_apart' (HO501.out) (Kd.N_typed HO490.out) (by decide)) (Kd.N_typed HO496.out) (by decide)) (fun k_ hk => ⟨hk.1.2, hk.2⟩))))) (Reps.none _ _))); intro v503 w153 ho154 hb hg_ hnew_; clear hg_ hnew_; (first | rw [← Ny502.out] at ho154 | (simp only [Int.reduceToNat] at ho154; rw [← Ny502.out] at ho154)); have n0_ := Aside0.mk (Kd.N_elder' (by exact nF HO490.out) (Kd.N_base ho154) hb); have n1_ := Aside0.mk (Kd.N_elder' (by exact nF HO496.out) (Kd.N_base ho154) hb); have n2_ := Aside0.mk (Kd.N_lower ho154 (below_size (by exact lF HB.out))); have n3_ := Aside0.mk (below_step (by exact lF HB.out) hb); clear HO490; clear HO496; clear HB; clear HO501; have HO490 := n0_; have HO496 := n1_; have HO504 := n2_; have HB := n3_; clear n0_ n1_ n2_ n3_; clear hb ho154; obtain ⟨Ao155, co155, eo155⟩ := Kd.N_slice HO504.out; subst eo155) | ((with_reducible refine gate_callee (f := 32) rfl ?_); refine goesL_ (some 29) rfl rfl Try.func32 (by kernel_rfl) rfl #[.int .i64 1, .slice Ao147 y488.length co147, .slice Ao155 y502.length co155] rfl (by (try simp only [List.map_toArray, List.map_cons, List.map_nil]); first | done | rfl | (simp only [List.length_drop, List.length_take]; rfl)) ?_; (with_reducible refine (zero_Holds.calls k 1 _ _ y488 _ _ y502 t505 t506 _ ?side1 ?side2 ?side3 ?side4 A2.out).mono ?_); (case side1 => repeat (first | exact (Kd.N_reads' HO490.out).2.2 | (with_reducible refine Kd.C_alloc ?_ _) | (with_reducible refine Kd.C_drewN ?_ _) | (with_reducible refine Kd.C_drew ?_))); (case side2 => exact (Kd.N_reads' HO490.out).2.1); (case side3 => repeat (first | exact (Kd.N_reads' HO504.out).2.2 | (with_reducible refine Kd.C_alloc ?_ _) | (with_reducible refine Kd.C_drewN ?_ _) | (with_reducible refine Kd.C_drew ?_))); (case side4 => exact (Kd.N_reads' HO504.out).2.1); rintro e w156 ⟨rfl, hb⟩; refine ⟨_, rfl, ?_⟩; have n0_ := Aside0.mk (Kd.N_below (by exact nF HO490.out) hb); have n1_ := Aside0.mk (Kd.N_below (by exact nF HO496.out) hb); have n2_ := Aside0.mk (Kd.N_below (by exact nF HO504.out) hb); have n3_ := Aside0.mk (below_step (by exact lF HB.out) hb); clear HO490; clear HO496; clear HO504; clear HB; have HO490 := n0_; have HO496 := n1_; have HO504 := n2_; have HB := n3_; clear n0_ n1_ n2_ n3_; (try clear hb); (try clear hb2); (try clear hk); (try clear hi)) | ((with_reducible refine gate_dst (N := 36) rfl ?_); refine Kd.R_lit k28 _ 28 ?hg (N := 36) ?hd (xs := ([(⟨0, 1⟩ : S28), (⟨0, 0⟩ : S28)] : List (S28))) (inner := [.int .u64 0, .int .u64 1, .int .u64 0, .int .u64 0]) (ok := fun _ => True) (okp := fun _ => True) ?hr ?hp (fun _ hk => hk) trivial (Below.refl _ _) (Nat.le_refl _) (by simp) ?_; (case hd => rfl); (case hg => rfl); (case hr => first | (go_simp; done) | (go_simp; rfl)); (case hp => exact (Reps.c2 (show Kd.M k28 _ _ _ (⟨0, 1⟩ : S28) [.int .u64 0, .int .u64 1] from (k28_mkM _ _ _ (⟨0, 1⟩ : S28) )) (Reps.c2 (show Kd.M k28 _ _ _ (⟨0, 0⟩ : S28) [.int .u64 0, .int .u64 0] from (k28_mkM _ _ _ (⟨0, 0⟩ : S28) )) (Reps.none _ _)))); intro v508 w157 ho158 hb hg_ hnew_; clear hg_ hnew_; (first | rw [← Ny507.out] at ho158 | (simp only [Int.reduceToNat] at ho158; rw [← Ny507.out] at ho158)); have n0_ := Aside0.mk (Kd.N_elder' (by exact nF HO490.out) (Kd.R_base ho158) hb); have n1_ := Aside0.mk (Kd.N_elder' (by exact nF HO496.out) (Kd.R_base ho158) hb); have n2_ := Aside0.mk (Kd.N_elder' (by exact nF HO504.out) (Kd.R_base ho158) hb); have n3_ := Aside0.mk (Kd.R_lower ho158 (below_size (by exact lF HB.out))); have n4_ := Aside0.mk (below_step (by exact lF HB.out) hb); clear HO490; clear HO496; clear HO504; clear HB; have HO490 := n0_; have HO496 := n1_; have HO504 := n2_; have HO509 := n3_; have HB := n4_; clear n0_ n1_ n2_ n3_ n4_; clear hb ho158; obtain ⟨Ao159, co159, eo159⟩ := Kd.R_slice HO509.out; subst eo159) | ((with_reducible refine gate_dst (N := 37) rfl ?_); refine Kd.N_lit (Kd.slice 28 k28) _ 53 ?hg (N' := 37) ?hd (xs := ([y507] : List (List (S28)))) (inner := [.slice Ao159 y507.length co159]) (ok := (fun k_ => some k_ ≠ (.slice Ao147 y488.length co147 : Value).ownBlock ∧ some k_ ≠ (.slice Ao148 y494.length co148 : Value).ownBlock ∧ some k_ ≠ (.slice Ao155 y502.length co155 : Value).ownBlock)) (okp := (fun k_ => some k_ ≠ (.slice Ao147 y488.length co147 : Value).ownBlock ∧ some k_ ≠ (.slice Ao148 y494.length co148 : Value).ownBlock ∧ some k_ ≠ (.slice Ao155 y502.length co155 : Value).ownBlock)) ?hr ?hp (fun _ hk => hk) ((show ∀ k_, w157.heap.size ≤ k_ → (fun k_ => some k_ ≠ (.slice Ao147 y488.length co147 : Value).ownBlock ∧ some k_ ≠ (.slice Ao148 y494.length co148 : Value).ownBlock ∧ some k_ ≠ (.slice Ao155 y502.length co155 : Value).ownBlock) k_ from fun k_ hk => ⟨Kd.fresh' (Kd.N_lt (by exact nF HO490.out)) k_ hk, Kd.fresh' (Kd.N_lt (by exact nF HO496.out)) k_ hk, Kd.fresh' (Kd.N_lt (by exact nF HO504.out)) k_ hk⟩) _ (Nat.le_refl _)) (Below.refl _ _) (Nat.le_refl _) (by simp) ?_; (case hd => rfl); (case hg => rfl); (case hr => first | (go_simp; done) | (go_simp; rfl)); (case hp => exact (Reps.one (show Kd.FK (Kd.slice 28 k28) _ _ y507 [.slice Ao159 y507.length co159] from (Kd.FK_slice_mk (Kd.R_reads' (Kd.R_mono (ok' := (fun k_ => some k_ ≠ (.slice Ao147 y488.length co147 : Value).ownBlock ∧ some k_ ≠ (.slice Ao148 y494.length co148 : Value).ownBlock ∧ some k_ ≠ (.slice Ao155 y502.length co155 : Value).ownBlock)) (Kd.R_apart' (Kd.R_apart' (Kd.R_apart' (HO509.out) (Kd.N_typed HO490.out) (by decide)) (Kd.N_typed HO496.out) (by decide)) (Kd.N_typed HO504.out) (by decide)) (fun k_ hk => ⟨hk.1.1.2, ⟨hk.1.2, hk.2⟩⟩))).2.1 (Kd.R_F (Kd.R_mono (ok' := (fun k_ => some k_ ≠ (.slice Ao147 y488.length co147 : Value).ownBlock ∧ some k_ ≠ (.slice Ao148 y494.length co148 : Value).ownBlock ∧ some k_ ≠ (.slice Ao155 y502.length co155 : Value).ownBlock)) (Kd.R_apart' (Kd.R_apart' (Kd.R_apart' (HO509.out) (Kd.N_typed HO490.out) (by decide)) (Kd.N_typed HO496.out) (by decide)) (Kd.N_typed HO504.out) (by decide)) (fun k_ hk => ⟨hk.1.1.2, ⟨hk.1.2, hk.2⟩⟩))))) (Reps.none _ _))); intro v511 w160 ho161 hb hg_ hnew_; clear hg_ hnew_; (first | rw [← Ny510.out] at ho161 | (simp only [Int.reduceToNat] at ho161; rw [← Ny510.out] at ho161)); have n0_ := Aside0.mk (Kd.N_elder' (by exact nF HO490.out) (Kd.N_base ho161) hb); have n1_ := Aside0.mk (Kd.N_elder' (by exact nF HO496.out) (Kd.N_base ho161) hb); have n2_ := Aside0.mk (Kd.N_elder' (by exact nF HO504.out) (Kd.N_base ho161) hb); have n3_ := Aside0.mk (Kd.N_lower ho161 (below_size (by exact lF HB.out))); have n4_ := Aside0.mk (below_step (by exact lF HB.out) hb); clear HO490; clear HO496; clear HO504; clear HB; clear HO509; have HO490 := n0_; have HO496 := n1_; have HO504 := n2_; have HO512 := n3_; have HB := n4_; clear n0_ n1_ n2_ n3_ n4_; clear hb ho161) | ((with_reducible refine gate_dst (N := 40) rfl ?_); refine Kd.R_lit k28 _ 28 ?hg (N := 40) ?hd (xs := ([(⟨0, 2⟩ : S28)] : List (S28))) (inner := [.int .u64 0, .int .u64 2]) (ok := fun _ => True) (okp := fun _ => True) ?hr ?hp (fun _ hk => hk) trivial (Below.refl _ _) (Nat.le_refl _) (by simp) ?_; (case hd => rfl); (case hg => rfl); (case hr => first | (go_simp; done) | (go_simp; rfl)); (case hp => exact (Reps.c2 (show Kd.M k28 _ _ _ (⟨0, 2⟩ : S28) [.int .u64 0, .int .u64 2] from (k28_mkM _ _ _ (⟨0, 2⟩ : S28) )) (Reps.none _ _))); intro v514 w162 ho163 hb hg_ hnew_; clear hg_ hnew_; (first | rw [← Ny513.out] at ho163 | (simp only [Int.reduceToNat] at ho163; rw [← Ny513.out] at ho163)); have n0_ := Aside0.mk (Kd.N_elder' (by exact nF HO490.out) (Kd.R_base ho163) hb); have n1_ := Aside0.mk (Kd.N_elder' (by exact nF HO496.out) (Kd.R_base ho163) hb); have n2_ := Aside0.mk (Kd.N_elder' (by exact nF HO504.out) (Kd.R_base ho163) hb); have n3_ := Aside0.mk (Kd.N_elder' (by exact nF HO512.out) (Kd.R_base ho163) hb); have n4_ := Aside0.mk (Kd.R_lower ho163 (below_size (by exact lF HB.out))); have n5_ := Aside0.mk (below_step (by exact lF HB.out) hb); clear HO490; clear HO496; clear HO504; clear HO512; clear HB; have HO490 := n0_; have HO496 := n1_; have HO504 := n2_; have HO512 := n3_; have HO515 := n4_; have HB := n5_; clear n0_ n1_ n2_ n3_ n4_ n5_; clear hb ho163; obtain ⟨Ao164, co164, eo164⟩ := Kd.N_slice HO512.out; subst eo164; obtain ⟨Ao165, co165, eo165⟩ := Kd.R_slice HO515.out; subst eo165) | ((with_reducible refine gate_callee (f := 33) rfl ?_); refine goesL_ (some 41) rfl rfl Try.func33 (by kernel_rfl) rfl #[.int .i64 1, .slice Ao147 y488.length co147, .slice Ao164 y510.length co164, .agg #[.int .u64 0, .int .u64 0], .slice Ao165 y513.length co165] rfl (by (try simp only [List.map_toArray, List.map_cons, List.map_nil]); first | done | rfl | (simp only [List.length_drop, List.length_take]; rfl)) ?_; (with_reducible refine (zero_Sum.calls k 1 _ _ y488 _ _ y510 0 0 _ _ y513 t516 t517 t518 _ ?side1 ?side2 ?side3 ?side4 ?side5 ?side6 A3.out).mono ?_); (case side1 => repeat (first | exact (Kd.N_reads' HO490.out).2.2 | (with_reducible refine Kd.C_alloc ?_ _) | (with_reducible refine Kd.C_drewN ?_ _) | (with_reducible refine Kd.C_drew ?_))); (case side2 => exact (Kd.N_reads' HO490.out).2.1); (case side3 => repeat (first | exact (Kd.N_reads' HO512.out).2.2 | (with_reducible refine Kd.C_alloc ?_ _) | (with_reducible refine Kd.C_drewN ?_ _) | (with_reducible refine Kd.C_drew ?_))); (case side4 => exact (Kd.N_reads' HO512.out).2.1); (case side5 => repeat (first | exact (Kd.R_reads' HO515.out).2.2 | (with_reducible refine Kd.C_alloc ?_ _) | (with_reducible refine Kd.C_drewN ?_ _) | (with_reducible refine Kd.C_drew ?_))); (case side6 => exact (Kd.R_reads' HO515.out).2.1); rintro e w166 ⟨rfl, hb⟩; refine ⟨_, rfl, ?_⟩; have n0_ := Aside0.mk (Kd.N_below (by exact nF HO490.out) hb); have n1_ := Aside0.mk (Kd.N_below (by exact nF HO496.out) hb); have n2_ := Aside0.mk (Kd.N_below (by exact nF HO504.out) hb); have n3_ := Aside0.mk (Kd.N_below (by exact nF HO512.out) hb); have n4_ := Aside0.mk (Kd.R_below (by exact rF HO515.out) hb); have n5_ := Aside0.mk (below_step (by exact lF HB.out) hb); clear HO490; clear HO496; clear HO504; clear HO512; clear HO515; clear HB; have HO490 := n0_; have HO496 := n1_; have HO504 := n2_; have HO512 := n3_; have HO515 := n4_; have HB := n5_; clear n0_ n1_ n2_ n3_ n4_ n5_; (try clear hb); (try clear hb2); (try clear hk); (try clear hi)) | ((with_reducible refine gate_dst (N := 6) rfl ?_); refine box_event ?hg (N := 6) ?hd (cs := #[.int .u64 0, .int .u64 0]) (t := 28) ?hr ?_; (case hd => rfl); (case hg => rfl); (case hr => first | (go_simp; done) | (go_simp; rfl)); intro gb519 hg w167 hbox hb; have n0_ := Aside0.mk (Kd.N_below (Kd.N_elderB (by exact nF HO490.out) gb519 (Nat.le_of_eq hg.symm)) hb); have n1_ := Aside0.mk (Kd.N_below (Kd.N_elderB (by exact nF HO496.out) gb519 (Nat.le_of_eq hg.symm)) hb); have n2_ := Aside0.mk (Kd.N_below (Kd.N_elderB (by exact nF HO504.out) gb519 (Nat.le_of_eq hg.symm)) hb); have n3_ := Aside0.mk (Kd.N_below (Kd.N_elderB (by exact nF HO512.out) gb519 (Nat.le_of_eq hg.symm)) hb); have n4_ := Aside0.mk (Kd.R_below (Kd.R_elderB (by exact rF HO515.out) gb519 (Nat.le_of_eq hg.symm)) hb); have n5_ := Aside0.mk (below_step (by exact lF HB.out) hb); have n6_ := Aside0.mk (hbox); have n7_ := Aside0.mk ((by rw [hg]; exact (below_size (by exact lF HB.out)) : w.heap.size ≤ gb519)); have n8_ := Aside0.mk ((by rw [hg]; exact (below_size (by exact lF HB.out)) : w.heap.size ≤ gb519)); clear HO490; clear HO496; clear HO504; clear HO512; clear HO515; clear HB; have HO490 := n0_; have HO496 := n1_; have HO504 := n2_; have HO512 := n3_; have HO515 := n4_; have HB := n5_; have BK519 := n6_; have GW519 := n7_; have GE519 := n8_; clear n0_ n1_ n2_ n3_ n4_ n5_ n6_ n7_ n8_; clear hb hbox hg; have hcz168_0 : w167.cell? ⟨gb519, 0, none⟩ = some (.int .u64 0) := (blk_cell BK519.out 0).trans rfl; have hcz168_1 : w167.cell? ⟨gb519, 1, none⟩ = some (.int .u64 0) := (blk_cell BK519.out 1).trans rfl; have hfz168_0 := blk_frozen BK519.out 0; have hfz168_1 := blk_frozen BK519.out 1))
   go_ret
   exact ⟨by first | rfl | (simp [errW_none, errW_some] <;> rfl) | (simp [*, errW_none, errW_some] <;> rfl), by repeat (first | (with_reducible first | exact HB.out | apply bA | apply bN | apply bD | refine bS ?_ GE519.out) | exact HB.out)⟩
 ·rw [if_neg c4] at H
  have c4b0 : (t498 == 0) = false := beq_eq_false_iff_ne.mpr c4
  have c4b1 : (t498 != 0) = true := bne_iff_ne.mpr c4
  obtain rfl := Option.some.inj H
  go_enter Try.func29, Try.ntmps29
  go_wp2_with (first | ((with_reducible refine gate_dst (N := 12) rfl ?_); refine Kd.R_lit k149 _ 149 ?hg (N := 12) ?hd (xs := ([(⟨2, 0, 0, (⟨0, 0⟩ : S28)⟩ : S149), (⟨1, 0, 0, (⟨0, 1⟩ : S28)⟩ : S149), (⟨3, 0, 1, (⟨0, 0⟩ : S28)⟩ : S149)] : List (S149))) (inner := [.int .i64 2, .int .i64 0, .int .i64 0, .int .u64 0, .int .u64 0, .int .i64 1, .int .i64 0, .int .i64 0, .int .u64 0, .int .u64 1, .int .i64 3, .int .i64 0, .int .i64 1, .int .u64 0, .int .u64 0]) (ok := fun _ => True) (okp := fun _ => True) ?hr ?hp (fun _ hk => hk) trivial (Below.refl _ _) (Nat.le_refl _) (by simp) ?_; (case hd => rfl); (case hg => rfl); (case hr => first | (go_simp; done) | (go_simp; rfl)); (case hp => exact (Reps.c5 (show Kd.M k149 _ _ _ (⟨2, 0, 0, (⟨0, 0⟩ : S28)⟩ : S149) [.int .i64 2, .int .i64 0, .int .i64 0, .int .u64 0, .int .u64 0] from (k149_mkM _ _ _ (⟨2, 0, 0, (⟨0, 0⟩ : S28)⟩ : S149) )) (Reps.c5 (show Kd.M k149 _ _ _ (⟨1, 0, 0, (⟨0, 1⟩ : S28)⟩ : S149) [.int .i64 1, .int .i64 0, .int .i64 0, .int .u64 0, .int .u64 1] from (k149_mkM _ _ _ (⟨1, 0, 0, (⟨0, 1⟩ : S28)⟩ : S149) )) (Reps.c5 (show Kd.M k149 _ _ _ (⟨3, 0, 1, (⟨0, 0⟩ : S28)⟩ : S149) [.int .i64 3, .int .i64 0, .int .i64 1, .int .u64 0, .int .u64 0] from (k149_mkM _ _ _ (⟨3, 0, 1, (⟨0, 0⟩ : S28)⟩ : S149) )) (Reps.none _ _))))); intro v486 w169 ho170 hb hg_ hnew_; clear hg_ hnew_; (first | rw [← Ny485.out] at ho170 | (simp only [Int.reduceToNat] at ho170; rw [← Ny485.out] at ho170)); have n0_ := Aside0.mk (Kd.R_lower ho170 (below_size (by exact lF HB.out))); have n1_ := Aside0.mk (below_step (by exact lF HB.out) hb); clear HB; have HO487 := n0_; have HB := n1_; clear n0_ n1_; clear hb ho170; obtain ⟨Ao171, co171, eo171⟩ := Kd.R_slice HO487.out; subst eo171) | ((with_reducible refine gate_dst (N := 13) rfl ?_); refine Kd.N_lit (Kd.slice 149 k149) _ 83 ?hg (N' := 13) ?hd (xs := ([y485] : List (List (S149)))) (inner := [.slice Ao171 y485.length co171]) (ok := (fun _ => True)) (okp := (fun _ => True)) ?hr ?hp (fun _ hk => hk) ((show ∀ k_, w169.heap.size ≤ k_ → (fun _ => True) k_ from fun k_ hk => trivial) _ (Nat.le_refl _)) (Below.refl _ _) (Nat.le_refl _) (by simp) ?_; (case hd => rfl); (case hg => rfl); (case hr => first | (go_simp; done) | (go_simp; rfl)); (case hp => exact (Reps.one (show Kd.FK (Kd.slice 149 k149) _ _ y485 [.slice Ao171 y485.length co171] from (Kd.FK_slice_mk (Kd.R_reads' (Kd.R_mono (ok' := (fun _ => True)) (HO487.out) (fun k_ hk => trivial))).2.1 (Kd.R_F (Kd.R_mono (ok' := (fun _ => True)) (HO487.out) (fun k_ hk => trivial))))) (Reps.none _ _))); intro v489 w172 ho173 hb hg_ hnew_; clear hg_ hnew_; (first | rw [← Ny488.out] at ho173 | (simp only [Int.reduceToNat] at ho173; rw [← Ny488.out] at ho173)); have n0_ := Aside0.mk (Kd.N_lower ho173 (below_size (by exact lF HB.out))); have n1_ := Aside0.mk (below_step (by exact lF HB.out) hb); clear HB; clear HO487; have HO490 := n0_; have HB := n1_; clear n0_ n1_; clear hb ho173) | ((with_reducible refine gate_dst (N := 18) rfl ?_); refine Kd.R_lit k28 _ 28 ?hg (N := 18) ?hd (xs := ([(⟨0, 1⟩ : S28), (⟨0, 1⟩ : S28)] : List (S28))) (inner := [.int .u64 0, .int .u64 1, .int .u64 0, .int .u64 1]) (ok := fun _ => True) (okp := fun _ => True) ?hr ?hp (fun _ hk => hk) trivial (Below.refl _ _) (Nat.le_refl _) (by simp) ?_; (case hd => rfl); (case hg => rfl); (case hr => first | (go_simp; done) | (go_simp; rfl)); (case hp => exact (Reps.c2 (show Kd.M k28 _ _ _ (⟨0, 1⟩ : S28) [.int .u64 0, .int .u64 1] from (k28_mkM _ _ _ (⟨0, 1⟩ : S28) )) (Reps.c2 (show Kd.M k28 _ _ _ (⟨0, 1⟩ : S28) [.int .u64 0, .int .u64 1] from (k28_mkM _ _ _ (⟨0, 1⟩ : S28) )) (Reps.none _ _)))); intro v492 w174 ho175 hb hg_ hnew_; clear hg_ hnew_; (first | rw [← Ny491.out] at ho175 | (simp only [Int.reduceToNat] at ho175; rw [← Ny491.out] at ho175)); have n0_ := Aside0.mk (Kd.N_elder' (by exact nF HO490.out) (Kd.R_base ho175) hb); have n1_ := Aside0.mk (Kd.R_lower ho175 (below_size (by exact lF HB.out))); have n2_ := Aside0.mk (below_step (by exact lF HB.out) hb); clear HO490; clear HB; have HO490 := n0_; have HO493 := n1_; have HB := n2_; clear n0_ n1_ n2_; clear hb ho175; obtain ⟨Ao176, co176, eo176⟩ := Kd.R_slice HO493.out; subst eo176) | ((with_reducible refine gate_dst (N := 19) rfl ?_); refine Kd.N_lit (Kd.slice 28 k28) _ 53 ?hg (N' := 19) ?hd (xs := ([y491] : List (List (S28)))) (inner := [.slice Ao176 y491.length co176]) (ok := (fun k_ => some k_ ≠ (v489 : Value).ownBlock)) (okp := (fun k_ => some k_ ≠ (v489 : Value).ownBlock)) ?hr ?hp (fun _ hk => hk) ((show ∀ k_, w174.heap.size ≤ k_ → (fun k_ => some k_ ≠ (v489 : Value).ownBlock) k_ from fun k_ hk => Kd.fresh' (Kd.N_lt (by exact nF HO490.out)) k_ hk) _ (Nat.le_refl _)) (Below.refl _ _) (Nat.le_refl _) (by simp) ?_; (case hd => rfl); (case hg => rfl); (case hr => first | (go_simp; done) | (go_simp; rfl)); (case hp => exact (Reps.one (show Kd.FK (Kd.slice 28 k28) _ _ y491 [.slice Ao176 y491.length co176] from (Kd.FK_slice_mk (Kd.R_reads' (Kd.R_mono (ok' := (fun k_ => some k_ ≠ (v489 : Value).ownBlock)) (Kd.R_apart' (HO493.out) (Kd.N_typed HO490.out) (by decide)) (fun k_ hk => hk.2))).2.1 (Kd.R_F (Kd.R_mono (ok' := (fun k_ => some k_ ≠ (v489 : Value).ownBlock)) (Kd.R_apart' (HO493.out) (Kd.N_typed HO490.out) (by decide)) (fun k_ hk => hk.2))))) (Reps.none _ _))); intro v495 w177 ho178 hb hg_ hnew_; clear hg_ hnew_; (first | rw [← Ny494.out] at ho178 | (simp only [Int.reduceToNat] at ho178; rw [← Ny494.out] at ho178)); have n0_ := Aside0.mk (Kd.N_elder' (by exact nF HO490.out) (Kd.N_base ho178) hb); have n1_ := Aside0.mk (Kd.N_lower ho178 (below_size (by exact lF HB.out))); have n2_ := Aside0.mk (below_step (by exact lF HB.out) hb); clear HO490; clear HB; clear HO493; have HO490 := n0_; have HO496 := n1_; have HB := n2_; clear n0_ n1_ n2_; clear hb ho178; obtain ⟨Ao179, co179, eo179⟩ := Kd.N_slice HO490.out; subst eo179; obtain ⟨Ao180, co180, eo180⟩ := Kd.N_slice HO496.out; subst eo180) | ((with_reducible refine gate_callee (f := 32) rfl ?_); refine goesL_ (some 20) rfl rfl Try.func32 (by kernel_rfl) rfl #[.int .i64 1, .slice Ao179 y488.length co179, .slice Ao180 y494.length co180] rfl (by (try simp only [List.map_toArray, List.map_cons, List.map_nil]); first | done | rfl | (simp only [List.length_drop, List.length_take]; rfl)) ?_; (with_reducible refine (zero_Holds.calls k 1 _ _ y488 _ _ y494 t497 t498 _ ?side1 ?side2 ?side3 ?side4 A1.out).mono ?_); (case side1 => repeat (first | exact (Kd.N_reads' HO490.out).2.2 | (with_reducible refine Kd.C_alloc ?_ _) | (with_reducible refine Kd.C_drewN ?_ _) | (with_reducible refine Kd.C_drew ?_))); (case side2 => exact (Kd.N_reads' HO490.out).2.1); (case side3 => repeat (first | exact (Kd.N_reads' HO496.out).2.2 | (with_reducible refine Kd.C_alloc ?_ _) | (with_reducible refine Kd.C_drewN ?_ _) | (with_reducible refine Kd.C_drew ?_))); (case side4 => exact (Kd.N_reads' HO496.out).2.1); rintro e w181 ⟨rfl, hb⟩; refine ⟨_, rfl, ?_⟩; have n0_ := Aside0.mk (Kd.N_below (by exact nF HO490.out) hb); have n1_ := Aside0.mk (Kd.N_below (by exact nF HO496.out) hb); have n2_ := Aside0.mk (below_step (by exact lF HB.out) hb); clear HO490; clear HO496; clear HB; have HO490 := n0_; have HO496 := n1_; have HB := n2_; clear n0_ n1_ n2_; (try clear hb); (try clear hb2); (try clear hk); (try clear hi)) | ((with_reducible refine gate_dst (N := 27) rfl ?_); refine Kd.R_lit k28 _ 28 ?hg (N := 27) ?hd (xs := ([(⟨0, 1⟩ : S28), (⟨0, 0⟩ : S28)] : List (S28))) (inner := [.int .u64 0, .int .u64 1, .int .u64 0, .int .u64 0]) (ok := fun _ => True) (okp := fun _ => True) ?hr ?hp (fun _ hk => hk) trivial (Below.refl _ _) (Nat.le_refl _) (by simp) ?_; (case hd => rfl); (case hg => rfl); (case hr => first | (go_simp; done) | (go_simp; rfl)); (case hp => exact (Reps.c2 (show Kd.M k28 _ _ _ (⟨0, 1⟩ : S28) [.int .u64 0, .int .u64 1] from (k28_mkM _ _ _ (⟨0, 1⟩ : S28) )) (Reps.c2 (show Kd.M k28 _ _ _ (⟨0, 0⟩ : S28) [.int .u64 0, .int .u64 0] from (k28_mkM _ _ _ (⟨0, 0⟩ : S28) )) (Reps.none _ _)))); intro v500 w182 ho183 hb hg_ hnew_; clear hg_ hnew_; (first | rw [← Ny499.out] at ho183 | (simp only [Int.reduceToNat] at ho183; rw [← Ny499.out] at ho183)); have n0_ := Aside0.mk (Kd.N_elder' (by exact nF HO490.out) (Kd.R_base ho183) hb); have n1_ := Aside0.mk (Kd.N_elder' (by exact nF HO496.out) (Kd.R_base ho183) hb); have n2_ := Aside0.mk (Kd.R_lower ho183 (below_size (by exact lF HB.out))); have n3_ := Aside0.mk (below_step (by exact lF HB.out) hb); clear HO490; clear HO496; clear HB; have HO490 := n0_; have HO496 := n1_; have HO501 := n2_; have HB := n3_; clear n0_ n1_ n2_ n3_; clear hb ho183; obtain ⟨Ao184, co184, eo184⟩ := Kd.R_slice HO501.out; subst eo184) | ((with_reducible refine gate_dst (N := 28) rfl ?_); refine Kd.N_lit (Kd.slice 28 k28) _ 53 ?hg (N' := 28) ?hd (xs := ([y499] : List (List (S28)))) (inner := [.slice Ao184 y499.length co184]) (ok := (fun k_ => some k_ ≠ (.slice Ao179 y488.length co179 : Value).ownBlock ∧ some k_ ≠ (.slice Ao180 y494.length co180 : Value).ownBlock)) (okp := (fun k_ => some k_ ≠ (.slice Ao179 y488.length co179 : Value).ownBlock ∧ some k_ ≠ (.slice Ao180 y494.length co180 : Value).ownBlock)) ?hr ?hp (fun _ hk => hk) ((show ∀ k_, w182.heap.size ≤ k_ → (fun k_ => some k_ ≠ (.slice Ao179 y488.length co179 : Value).ownBlock ∧ some k_ ≠ (.slice Ao180 y494.length co180 : Value).ownBlock) k_ from fun k_ hk => ⟨Kd.fresh' (Kd.N_lt (by exact nF HO490.out)) k_ hk, Kd.fresh' (Kd.N_lt (by exact nF HO496.out)) k_ hk⟩) _ (Nat.le_refl _)) (Below.refl _ _) (Nat.le_refl _) (by simp) ?_; (case hd => rfl); (case hg => rfl); (case hr => first | (go_simp; done) | (go_simp; rfl)); (case hp => exact (Reps.one (show Kd.FK (Kd.slice 28 k28) _ _ y499 [.slice Ao184 y499.length co184] from (Kd.FK_slice_mk (Kd.R_reads' (Kd.R_mono (ok' := (fun k_ => some k_ ≠ (.slice Ao179 y488.length co179 : Value).ownBlock ∧ some k_ ≠ (.slice Ao180 y494.length co180 : Value).ownBlock)) (Kd.R_apart' (Kd.R_apart' (HO501.out) (Kd.N_typed HO490.out) (by decide)) (Kd.N_typed HO496.out) (by decide)) (fun k_ hk => ⟨hk.1.2, hk.2⟩))).2.1 (Kd.R_F (Kd.R_mono (ok' := (fun k_ => some k_ ≠ (.slice Ao179 y488.length co179 : Value).ownBlock ∧ some k_ ≠ (.slice Ao180 y494.length co180 : Value).ownBlock)) (Kd.R_apart' (Kd.R_apart' (HO501.out) (Kd.N_typed HO490.out) (by decide)) (Kd.N_typed HO496.out) (by decide)) (fun k_ hk => ⟨hk.1.2, hk.2⟩))))) (Reps.none _ _))); intro v503 w185 ho186 hb hg_ hnew_; clear hg_ hnew_; (first | rw [← Ny502.out] at ho186 | (simp only [Int.reduceToNat] at ho186; rw [← Ny502.out] at ho186)); have n0_ := Aside0.mk (Kd.N_elder' (by exact nF HO490.out) (Kd.N_base ho186) hb); have n1_ := Aside0.mk (Kd.N_elder' (by exact nF HO496.out) (Kd.N_base ho186) hb); have n2_ := Aside0.mk (Kd.N_lower ho186 (below_size (by exact lF HB.out))); have n3_ := Aside0.mk (below_step (by exact lF HB.out) hb); clear HO490; clear HO496; clear HB; clear HO501; have HO490 := n0_; have HO496 := n1_; have HO504 := n2_; have HB := n3_; clear n0_ n1_ n2_ n3_; clear hb ho186; obtain ⟨Ao187, co187, eo187⟩ := Kd.N_slice HO504.out; subst eo187) | ((with_reducible refine gate_callee (f := 32) rfl ?_); refine goesL_ (some 29) rfl rfl Try.func32 (by kernel_rfl) rfl #[.int .i64 1, .slice Ao179 y488.length co179, .slice Ao187 y502.length co187] rfl (by (try simp only [List.map_toArray, List.map_cons, List.map_nil]); first | done | rfl | (simp only [List.length_drop, List.length_take]; rfl)) ?_; (with_reducible refine (zero_Holds.calls k 1 _ _ y488 _ _ y502 t505 t506 _ ?side1 ?side2 ?side3 ?side4 A2.out).mono ?_); (case side1 => repeat (first | exact (Kd.N_reads' HO490.out).2.2 | (with_reducible refine Kd.C_alloc ?_ _) | (with_reducible refine Kd.C_drewN ?_ _) | (with_reducible refine Kd.C_drew ?_))); (case side2 => exact (Kd.N_reads' HO490.out).2.1); (case side3 => repeat (first | exact (Kd.N_reads' HO504.out).2.2 | (with_reducible refine Kd.C_alloc ?_ _) | (with_reducible refine Kd.C_drewN ?_ _) | (with_reducible refine Kd.C_drew ?_))); (case side4 => exact (Kd.N_reads' HO504.out).2.1); rintro e w188 ⟨rfl, hb⟩; refine ⟨_, rfl, ?_⟩; have n0_ := Aside0.mk (Kd.N_below (by exact nF HO490.out) hb); have n1_ := Aside0.mk (Kd.N_below (by exact nF HO496.out) hb); have n2_ := Aside0.mk (Kd.N_below (by exact nF HO504.out) hb); have n3_ := Aside0.mk (below_step (by exact lF HB.out) hb); clear HO490; clear HO496; clear HO504; clear HB; have HO490 := n0_; have HO496 := n1_; have HO504 := n2_; have HB := n3_; clear n0_ n1_ n2_ n3_; (try clear hb); (try clear hb2); (try clear hk); (try clear hi)) | ((with_reducible refine gate_dst (N := 36) rfl ?_); refine Kd.R_lit k28 _ 28 ?hg (N := 36) ?hd (xs := ([(⟨0, 1⟩ : S28), (⟨0, 0⟩ : S28)] : List (S28))) (inner := [.int .u64 0, .int .u64 1, .int .u64 0, .int .u64 0]) (ok := fun _ => True) (okp := fun _ => True) ?hr ?hp (fun _ hk => hk) trivial (Below.refl _ _) (Nat.le_refl _) (by simp) ?_; (case hd => rfl); (case hg => rfl); (case hr => first | (go_simp; done) | (go_simp; rfl)); (case hp => exact (Reps.c2 (show Kd.M k28 _ _ _ (⟨0, 1⟩ : S28) [.int .u64 0, .int .u64 1] from (k28_mkM _ _ _ (⟨0, 1⟩ : S28) )) (Reps.c2 (show Kd.M k28 _ _ _ (⟨0, 0⟩ : S28) [.int .u64 0, .int .u64 0] from (k28_mkM _ _ _ (⟨0, 0⟩ : S28) )) (Reps.none _ _)))); intro v508 w189 ho190 hb hg_ hnew_; clear hg_ hnew_; (first | rw [← Ny507.out] at ho190 | (simp only [Int.reduceToNat] at ho190; rw [← Ny507.out] at ho190)); have n0_ := Aside0.mk (Kd.N_elder' (by exact nF HO490.out) (Kd.R_base ho190) hb); have n1_ := Aside0.mk (Kd.N_elder' (by exact nF HO496.out) (Kd.R_base ho190) hb); have n2_ := Aside0.mk (Kd.N_elder' (by exact nF HO504.out) (Kd.R_base ho190) hb); have n3_ := Aside0.mk (Kd.R_lower ho190 (below_size (by exact lF HB.out))); have n4_ := Aside0.mk (below_step (by exact lF HB.out) hb); clear HO490; clear HO496; clear HO504; clear HB; have HO490 := n0_; have HO496 := n1_; have HO504 := n2_; have HO509 := n3_; have HB := n4_; clear n0_ n1_ n2_ n3_ n4_; clear hb ho190; obtain ⟨Ao191, co191, eo191⟩ := Kd.R_slice HO509.out; subst eo191) | ((with_reducible refine gate_dst (N := 37) rfl ?_); refine Kd.N_lit (Kd.slice 28 k28) _ 53 ?hg (N' := 37) ?hd (xs := ([y507] : List (List (S28)))) (inner := [.slice Ao191 y507.length co191]) (ok := (fun k_ => some k_ ≠ (.slice Ao179 y488.length co179 : Value).ownBlock ∧ some k_ ≠ (.slice Ao180 y494.length co180 : Value).ownBlock ∧ some k_ ≠ (.slice Ao187 y502.length co187 : Value).ownBlock)) (okp := (fun k_ => some k_ ≠ (.slice Ao179 y488.length co179 : Value).ownBlock ∧ some k_ ≠ (.slice Ao180 y494.length co180 : Value).ownBlock ∧ some k_ ≠ (.slice Ao187 y502.length co187 : Value).ownBlock)) ?hr ?hp (fun _ hk => hk) ((show ∀ k_, w189.heap.size ≤ k_ → (fun k_ => some k_ ≠ (.slice Ao179 y488.length co179 : Value).ownBlock ∧ some k_ ≠ (.slice Ao180 y494.length co180 : Value).ownBlock ∧ some k_ ≠ (.slice Ao187 y502.length co187 : Value).ownBlock) k_ from fun k_ hk => ⟨Kd.fresh' (Kd.N_lt (by exact nF HO490.out)) k_ hk, Kd.fresh' (Kd.N_lt (by exact nF HO496.out)) k_ hk, Kd.fresh' (Kd.N_lt (by exact nF HO504.out)) k_ hk⟩) _ (Nat.le_refl _)) (Below.refl _ _) (Nat.le_refl _) (by simp) ?_; (case hd => rfl); (case hg => rfl); (case hr => first | (go_simp; done) | (go_simp; rfl)); (case hp => exact (Reps.one (show Kd.FK (Kd.slice 28 k28) _ _ y507 [.slice Ao191 y507.length co191] from (Kd.FK_slice_mk (Kd.R_reads' (Kd.R_mono (ok' := (fun k_ => some k_ ≠ (.slice Ao179 y488.length co179 : Value).ownBlock ∧ some k_ ≠ (.slice Ao180 y494.length co180 : Value).ownBlock ∧ some k_ ≠ (.slice Ao187 y502.length co187 : Value).ownBlock)) (Kd.R_apart' (Kd.R_apart' (Kd.R_apart' (HO509.out) (Kd.N_typed HO490.out) (by decide)) (Kd.N_typed HO496.out) (by decide)) (Kd.N_typed HO504.out) (by decide)) (fun k_ hk => ⟨hk.1.1.2, ⟨hk.1.2, hk.2⟩⟩))).2.1 (Kd.R_F (Kd.R_mono (ok' := (fun k_ => some k_ ≠ (.slice Ao179 y488.length co179 : Value).ownBlock ∧ some k_ ≠ (.slice Ao180 y494.length co180 : Value).ownBlock ∧ some k_ ≠ (.slice Ao187 y502.length co187 : Value).ownBlock)) (Kd.R_apart' (Kd.R_apart' (Kd.R_apart' (HO509.out) (Kd.N_typed HO490.out) (by decide)) (Kd.N_typed HO496.out) (by decide)) (Kd.N_typed HO504.out) (by decide)) (fun k_ hk => ⟨hk.1.1.2, ⟨hk.1.2, hk.2⟩⟩))))) (Reps.none _ _))); intro v511 w192 ho193 hb hg_ hnew_; clear hg_ hnew_; (first | rw [← Ny510.out] at ho193 | (simp only [Int.reduceToNat] at ho193; rw [← Ny510.out] at ho193)); have n0_ := Aside0.mk (Kd.N_elder' (by exact nF HO490.out) (Kd.N_base ho193) hb); have n1_ := Aside0.mk (Kd.N_elder' (by exact nF HO496.out) (Kd.N_base ho193) hb); have n2_ := Aside0.mk (Kd.N_elder' (by exact nF HO504.out) (Kd.N_base ho193) hb); have n3_ := Aside0.mk (Kd.N_lower ho193 (below_size (by exact lF HB.out))); have n4_ := Aside0.mk (below_step (by exact lF HB.out) hb); clear HO490; clear HO496; clear HO504; clear HB; clear HO509; have HO490 := n0_; have HO496 := n1_; have HO504 := n2_; have HO512 := n3_; have HB := n4_; clear n0_ n1_ n2_ n3_ n4_; clear hb ho193) | ((with_reducible refine gate_dst (N := 40) rfl ?_); refine Kd.R_lit k28 _ 28 ?hg (N := 40) ?hd (xs := ([(⟨0, 2⟩ : S28)] : List (S28))) (inner := [.int .u64 0, .int .u64 2]) (ok := fun _ => True) (okp := fun _ => True) ?hr ?hp (fun _ hk => hk) trivial (Below.refl _ _) (Nat.le_refl _) (by simp) ?_; (case hd => rfl); (case hg => rfl); (case hr => first | (go_simp; done) | (go_simp; rfl)); (case hp => exact (Reps.c2 (show Kd.M k28 _ _ _ (⟨0, 2⟩ : S28) [.int .u64 0, .int .u64 2] from (k28_mkM _ _ _ (⟨0, 2⟩ : S28) )) (Reps.none _ _))); intro v514 w194 ho195 hb hg_ hnew_; clear hg_ hnew_; (first | rw [← Ny513.out] at ho195 | (simp only [Int.reduceToNat] at ho195; rw [← Ny513.out] at ho195)); have n0_ := Aside0.mk (Kd.N_elder' (by exact nF HO490.out) (Kd.R_base ho195) hb); have n1_ := Aside0.mk (Kd.N_elder' (by exact nF HO496.out) (Kd.R_base ho195) hb); have n2_ := Aside0.mk (Kd.N_elder' (by exact nF HO504.out) (Kd.R_base ho195) hb); have n3_ := Aside0.mk (Kd.N_elder' (by exact nF HO512.out) (Kd.R_base ho195) hb); have n4_ := Aside0.mk (Kd.R_lower ho195 (below_size (by exact lF HB.out))); have n5_ := Aside0.mk (below_step (by exact lF HB.out) hb); clear HO490; clear HO496; clear HO504; clear HO512; clear HB; have HO490 := n0_; have HO496 := n1_; have HO504 := n2_; have HO512 := n3_; have HO515 := n4_; have HB := n5_; clear n0_ n1_ n2_ n3_ n4_ n5_; clear hb ho195; obtain ⟨Ao196, co196, eo196⟩ := Kd.N_slice HO512.out; subst eo196; obtain ⟨Ao197, co197, eo197⟩ := Kd.R_slice HO515.out; subst eo197) | ((with_reducible refine gate_callee (f := 33) rfl ?_); refine goesL_ (some 41) rfl rfl Try.func33 (by kernel_rfl) rfl #[.int .i64 1, .slice Ao179 y488.length co179, .slice Ao196 y510.length co196, .agg #[.int .u64 0, .int .u64 0], .slice Ao197 y513.length co197] rfl (by (try simp only [List.map_toArray, List.map_cons, List.map_nil]); first | done | rfl | (simp only [List.length_drop, List.length_take]; rfl)) ?_; (with_reducible refine (zero_Sum.calls k 1 _ _ y488 _ _ y510 0 0 _ _ y513 t516 t517 t518 _ ?side1 ?side2 ?side3 ?side4 ?side5 ?side6 A3.out).mono ?_); (case side1 => repeat (first | exact (Kd.N_reads' HO490.out).2.2 | (with_reducible refine Kd.C_alloc ?_ _) | (with_reducible refine Kd.C_drewN ?_ _) | (with_reducible refine Kd.C_drew ?_))); (case side2 => exact (Kd.N_reads' HO490.out).2.1); (case side3 => repeat (first | exact (Kd.N_reads' HO512.out).2.2 | (with_reducible refine Kd.C_alloc ?_ _) | (with_reducible refine Kd.C_drewN ?_ _) | (with_reducible refine Kd.C_drew ?_))); (case side4 => exact (Kd.N_reads' HO512.out).2.1); (case side5 => repeat (first | exact (Kd.R_reads' HO515.out).2.2 | (with_reducible refine Kd.C_alloc ?_ _) | (with_reducible refine Kd.C_drewN ?_ _) | (with_reducible refine Kd.C_drew ?_))); (case side6 => exact (Kd.R_reads' HO515.out).2.1); rintro e w198 ⟨rfl, hb⟩; refine ⟨_, rfl, ?_⟩; have n0_ := Aside0.mk (Kd.N_below (by exact nF HO490.out) hb); have n1_ := Aside0.mk (Kd.N_below (by exact nF HO496.out) hb); have n2_ := Aside0.mk (Kd.N_below (by exact nF HO504.out) hb); have n3_ := Aside0.mk (Kd.N_below (by exact nF HO512.out) hb); have n4_ := Aside0.mk (Kd.R_below (by exact rF HO515.out) hb); have n5_ := Aside0.mk (below_step (by exact lF HB.out) hb); clear HO490; clear HO496; clear HO504; clear HO512; clear HO515; clear HB; have HO490 := n0_; have HO496 := n1_; have HO504 := n2_; have HO512 := n3_; have HO515 := n4_; have HB := n5_; clear n0_ n1_ n2_ n3_ n4_ n5_; (try clear hb); (try clear hb2); (try clear hk); (try clear hi)) | ((with_reducible refine gate_dst (N := 6) rfl ?_); refine box_event ?hg (N := 6) ?hd (cs := #[.int .u64 0, .int .u64 0]) (t := 28) ?hr ?_; (case hd => rfl); (case hg => rfl); (case hr => first | (go_simp; done) | (go_simp; rfl)); intro gb519 hg w199 hbox hb; have n0_ := Aside0.mk (Kd.N_below (Kd.N_elderB (by exact nF HO490.out) gb519 (Nat.le_of_eq hg.symm)) hb); have n1_ := Aside0.mk (Kd.N_below (Kd.N_elderB (by exact nF HO496.out) gb519 (Nat.le_of_eq hg.symm)) hb); have n2_ := Aside0.mk (Kd.N_below (Kd.N_elderB (by exact nF HO504.out) gb519 (Nat.le_of_eq hg.symm)) hb); have n3_ := Aside0.mk (Kd.N_below (Kd.N_elderB (by exact nF HO512.out) gb519 (Nat.le_of_eq hg.symm)) hb); have n4_ := Aside0.mk (Kd.R_below (Kd.R_elderB (by exact rF HO515.out) gb519 (Nat.le_of_eq hg.symm)) hb); have n5_ := Aside0.mk (below_step (by exact lF HB.out) hb); have n6_ := Aside0.mk (hbox); have n7_ := Aside0.mk ((by rw [hg]; exact (below_size (by exact lF HB.out)) : w.heap.size ≤ gb519)); have n8_ := Aside0.mk ((by rw [hg]; exact (below_size (by exact lF HB.out)) : w.heap.size ≤ gb519)); clear HO490; clear HO496; clear HO504; clear HO512; clear HO515; clear HB; have HO490 := n0_; have HO496 := n1_; have HO504 := n2_; have HO512 := n3_; have HO515 := n4_; have HB := n5_; have BK519 := n6_; have GW519 := n7_; have GE519 := n8_; clear n0_ n1_ n2_ n3_ n4_ n5_ n6_ n7_ n8_; clear hb hbox hg; have hcz200_0 : w199.cell? ⟨gb519, 0, none⟩ = some (.int .u64 0) := (blk_cell BK519.out 0).trans rfl; have hcz200_1 : w199.cell? ⟨gb519, 1, none⟩ = some (.int .u64 0) := (blk_cell BK519.out 1).trans rfl; have hfz200_0 := blk_frozen BK519.out 0; have hfz200_1 := blk_frozen BK519.out 1))
  go_ret
  exact ⟨by first | rfl | (simp [errW_none, errW_some] <;> rfl) | (simp [*, errW_none, errW_some] <;> rfl), by repeat (first | (with_reducible first | exact HB.out | apply bA | apply bN | apply bD | refine bS ?_ GE519.out) | exact HB.out)⟩
mutual
def steeplelaw21_ZeroCounts.j0 : Nat → Int → Bool → List (List (S149)) → List (List (S28)) → Option (Bool)
 | 0, _, _, _, _ => none
 | k + 1, x0, x35, x846000, x846001 => if x35 = true then ((steeplelaw21_awake.f k).bind fun t848 => (some t848)) else ((zero_Holds.f k x0 x846000 x846001).bind fun bt849 => (if bt849.2 = 0 then (steeplelaw21_ZeroCounts.j1 k x0 bt849.1 x846000 x846001) else (steeplelaw21_ZeroCounts.j1 k x0 true x846000 x846001)))
def steeplelaw21_ZeroCounts.j1 : Nat → Int → Bool → List (List (S149)) → List (List (S28)) → Option (Bool)
 | 0, _, _, _, _ => none
 | k + 1, x0, x50, x846000, x846001 => if x50 = true then ((steeplelaw21_awake.f k).bind fun t851 => (some t851)) else ((some (([2, 4] : List Int) : List Int)).bind fun y852 => (if 0 ≤ x0 then (if x0 < (y852.length : Int) then (steeplelaw21_ZeroCounts.l0 k x0 (rd y852 x0) 0 x846000 x846001) else (none)) else (none)))
def steeplelaw21_ZeroCounts.l0 : Nat → Int → Int → Int → List (List (S149)) → List (List (S28)) → Option (Bool)
 | 0, _, _, _, _, _ => none
 | k + 1, x0, x7, x8, x846000, x846001 => if 0 < (x846001.length : Int) then (if 0 ≤ (IntKind.u64.wrap (x8)) then (if ((rd_L11 x846001 0).length : Int) > (shl .i64 1 (IntKind.u64.wrap (x8))) then (steeplelaw21_ZeroCounts.l0 k x0 x7 (wrap64 (x8 + 1)) x846000 x846001) else (steeplelaw21_ZeroCounts.l1 k x0 x7 x8 x7 0 0 x846000 x846001)) else (none)) else (none)
def steeplelaw21_ZeroCounts.l1 : Nat → Int → Int → Int → Int → Int → Int → List (List (S149)) → List (List (S28)) → Option (Bool)
 | 0, _, _, _, _, _, _, _, _ => none
 | k + 1, x0, x7, x8, x9, x10, x11, x846000, x846001 => if x11 < x8 then (steeplelaw21_ZeroCounts.l1 k x0 x7 x8 (wrap64 (x9 * x7)) x10 (wrap64 (x11 + 1)) x846000 x846001) else (steeplelaw21_ZeroCounts.l2 k x0 x7 x8 x9 x10 0 x846000 x846001)
def steeplelaw21_ZeroCounts.l2 : Nat → Int → Int → Int → Int → Int → Int → List (List (S149)) → List (List (S28)) → Option (Bool)
 | 0, _, _, _, _, _, _, _, _ => none
 | k + 1, x0, x7, x8, x9, x10, x12, x846000, x846001 => if x12 < x9 then (if x7 = 0 then (none) else (steeplelaw21_ZeroCounts.l3 k x0 x7 x8 x9 x10 x12 ([] : List (S28)) (wrap64 (Int.tdiv x12 x7)) 0 x846000 x846001 0 (IntKind.u64.wrap (Int.tmod x12 x7)))) else ((steeplelaw21_awake.f k).bind fun t857 => (if t857 = true then (if x7 = 0 then (none) else (some (decide (x10 ≤ (wrap64 ((wrap64 ((wrap64 ((x846000.length : Int) - 1)) + x8)) * (wrap64 (Int.tdiv x9 x7)))))))) else (some false)))
def steeplelaw21_ZeroCounts.l3 : Nat → Int → Int → Int → Int → Int → Int → List (S28) → Int → Int → List (List (S149)) → List (List (S28)) → Int → Int → Option (Bool)
 | 0, _, _, _, _, _, _, _, _, _, _, _, _, _ => none
 | k + 1, x0, x7, x8, x9, x10, x12, x14, x15, x16, x846000, x846001, x859000, x859001 => if x16 < x8 then (if x7 = 0 then (none) else (if x14.length < 8796093022208 then (steeplelaw21_ZeroCounts.l3 k x0 x7 x8 x9 x10 x12 (x14 ++ [(⟨0, IntKind.u64.wrap (Int.tmod x15 x7)⟩ : S28)]) (wrap64 (Int.tdiv x15 x7)) (wrap64 (x16 + 1)) x846000 x846001 x859000 x859001) else (none))) else ((zero_Sum.f k x0 x846000 x846001 x859000 x859001 x14).bind fun bt862 => (if bt862.2.2 = 0 then (if (bt862.1 == 0 && (bt862.2.1 == 0)) = true then (steeplelaw21_ZeroCounts.l2 k x0 x7 x8 x9 (wrap64 (x10 + 1)) (wrap64 (x12 + 1)) x846000 x846001) else (steeplelaw21_ZeroCounts.l2 k x0 x7 x8 x9 x10 (wrap64 (x12 + 1)) x846000 x846001)) else ((steeplelaw21_awake.f k).bind fun t866 => (some t866))))
end
def steeplelaw21_ZeroCounts.f (k : Nat) (a0 : Int) (l1_0 : List (List (S149))) (l1_1 : List (List (S28))) : Option (Bool) := (steeplelaw21_Few.f k l1_0 l1_1).bind fun t846 => (if t846 = true then (if a0 < 0 then (steeplelaw21_ZeroCounts.j0 k a0 true l1_0 l1_1) else (if a0 > 1 then (steeplelaw21_ZeroCounts.j0 k a0 true l1_0 l1_1) else ((steeplelaw09_Few.f k l1_1 5 4).bind fun t847 => (steeplelaw21_ZeroCounts.j0 k a0 (!t847) l1_0 l1_1)))) else (steeplelaw21_ZeroCounts.j0 k a0 true l1_0 l1_1))
def steeplelaw21_ZeroCounts.T31 : Bool × List (List Nat × List Nat) := (true, [([], []), ([0, 0], [0]), ([1], [1]), ([1], [1]), ([3, 1], [1, 3]), ([4, 1], [1, 4]), ([5, 1], [1, 5]), ([1], [1]), ([6, 7, 1], [1, 6, 7]), ([1], [1]), ([1], [1]), ([9, 10, 1], [1, 9, 10]), ([8, 11, 1], [1, 8, 11]), ([2, 12, 1], [1, 2, 12]), ([1, 13], [1, 13]), ([14, 1, 0, 1, 2, 3, 4, 5, 6, 7, 8, 9, 10, 11, 12, 13, 14], [14])])
def steeplelaw21_ZeroCounts.B31 : List Nat := [0, 1, 3, 3, 11, 27, 59, 3, 251, 3, 3, 1539, 4091, 8191, 16383, 32767]
theorem steeplelaw21_ZeroCounts.tab31 : rtab .any (opsOf Try.f6 31) = steeplelaw21_ZeroCounts.T31 := by kernel_rfl
theorem steeplelaw21_ZeroCounts.bits31 : waitsOk steeplelaw21_ZeroCounts.T31.2 steeplelaw21_ZeroCounts.B31 = true := by kernel_rfl
set_option maxHeartbeats 8000000 in
set_option maxRecDepth 100000 in
theorem steeplelaw21_ZeroCounts.calls (k : Nat) (a0 : Int) (A1_0 : Option Addr) (c1_0 : Nat) (l1_0 : List (List (S149))) (A1_1 : Option Addr) (c1_1 : Nat) (l1_1 : List (List (S28))) (r : Bool) (w : World) (hr1_0 : Kd.C (Kd.slice 149 k149) w A1_0 l1_0.length l1_0) (hc1_0 : l1_0.length ≤ c1_0) (hr1_1 : Kd.C (Kd.slice 28 k28) w A1_1 l1_1.length l1_1) (hc1_1 : l1_1.length ≤ c1_1) (h : steeplelaw21_ZeroCounts.f k a0 l1_0 l1_1 = some r) :
  Calls Try.prog 6 #[.int .i64 a0, .agg #[.slice A1_0 l1_0.length c1_0, .slice A1_1 l1_1.length c1_1]] w fun e w' => e = .returned (.bool r) ∧ Below w.heap.size w w' := by
 have hu59 := Try.underlying59
 have hu28 := Try.underlying28
 have HR1_0 := Aside0.mk hr1_0
 have HC1_0 := Aside0.mk hc1_0
 clear hr1_0 hc1_0
 have HR1_1 := Aside0.mk hr1_1
 have HC1_1 := Aside0.mk hc1_1
 clear hr1_1 hc1_1
 have HB := Aside0.mk (Below.refl w.heap.size w)
 have H : ((steeplelaw21_Few.f k l1_0 l1_1).bind fun t846 => (if t846 = true then (if a0 < 0 then (steeplelaw21_ZeroCounts.j0 k a0 true l1_0 l1_1) else (if a0 > 1 then (steeplelaw21_ZeroCounts.j0 k a0 true l1_0 l1_1) else ((steeplelaw09_Few.f k l1_1 5 4).bind fun t847 => (steeplelaw21_ZeroCounts.j0 k a0 (!t847) l1_0 l1_1)))) else (steeplelaw21_ZeroCounts.j0 k a0 true l1_0 l1_1))) = some r := h
 clear h
 have HC3 := Aside0.mk H
 clear H
 go_enter Try.func6, Try.ntmps6
 go_upto_region 1 with (first | ((with_reducible refine gate_dst (N := 3) rfl ?_); (try (refine gate_guard (by rfl) ?_; dsimp only)); refine box_event ?hg (N := 3) ?hd (cs := #[.slice A1_0 l1_0.length c1_0, .slice A1_1 l1_1.length c1_1]) (t := 59) ?hr ?_; (case hd => rfl); (case hg => rfl); (case hr => first | (go_simp; done) | (go_simp; rfl)); intro gb845 hg w4 hbox hb; have n0_ := Aside0.mk (below_step (by exact lF HB.out) hb); have n1_ := Aside0.mk (hbox); have n2_ := Aside0.mk ((by rw [hg]; exact (below_size (by exact lF HB.out)) : w.heap.size ≤ gb845)); have n3_ := Aside0.mk ((by rw [hg]; exact (below_size (by exact lF HB.out)) : w.heap.size ≤ gb845)); clear HB; have HB := n0_; have BK845 := n1_; have GW845 := n2_; have GE845 := n3_; clear n0_ n1_ n2_ n3_; clear hb hbox hg))
 (try simp only [Act.put, List.setIfInBounds_toArray, List.set_cons_zero, List.set_cons_succ])
 go_cut [35] (fun v35 wc => ∃ (kq : Nat) (x35_2 : Bool), v35 = .bool x35_2 ∧ Aside0 (steeplelaw21_ZeroCounts.j0 kq a0 x35_2 l1_0 l1_1 = some r) ∧ Aside0 (kq ≤ k) ∧ Aside0 (wc.heap[gb845]? = some (.cells #[(.slice A1_0 l1_0.length c1_0), (.slice A1_1 l1_1.length c1_1)] 59 (0, 0))) ∧ Aside0 (Below w.heap.size w wc))
 case first =>
  have H := HC3.out
  clear HC3
  replace H := Option.bind_eq_some_iff.mp H
  obtain ⟨t846, A50, H⟩ := H
  replace H : (if t846 = true then (if a0 < 0 then (steeplelaw21_ZeroCounts.j0 k a0 true l1_0 l1_1) else (if a0 > 1 then (steeplelaw21_ZeroCounts.j0 k a0 true l1_0 l1_1) else ((steeplelaw09_Few.f k l1_1 5 4).bind fun t847 => (steeplelaw21_ZeroCounts.j0 k a0 (!t847) l1_0 l1_1)))) else (steeplelaw21_ZeroCounts.j0 k a0 true l1_0 l1_1)) = some r := H
  have A5 := Aside0.mk A50
  clear A50
  by_cases c6 : t846 = true
  ·subst c6
   have H1 : (if a0 < 0 then (steeplelaw21_ZeroCounts.j0 k a0 true l1_0 l1_1) else (if a0 > 1 then (steeplelaw21_ZeroCounts.j0 k a0 true l1_0 l1_1) else ((steeplelaw09_Few.f k l1_1 5 4).bind fun t847 => (steeplelaw21_ZeroCounts.j0 k a0 (!t847) l1_0 l1_1)))) = some r := by rw [if_pos rfl] at H; exact H
   clear H
   have H := H1
   clear H1
   by_cases c7 : a0 < 0
   ·rw [if_pos c7] at H
    have c7b0 : decide (a0 < 0) = true := decide_eq_true c7
    clear c7
    (first | rw [c7b0] | (simp only [i64_w, i32_w]; rw [c7b0]) | skip)
    have H' := Aside0.mk H
    clear H
    have hcz8_0 : w4.cell? ⟨gb845, 0, none⟩ = some (.slice A1_0 l1_0.length c1_0) := (blk_cell BK845.out 0).trans rfl
    have hcz8_1 : w4.cell? ⟨gb845, 1, none⟩ = some (.slice A1_1 l1_1.length c1_1) := (blk_cell BK845.out 1).trans rfl
    have hfz8_0 := blk_frozen BK845.out 0
    have hfz8_1 := blk_frozen BK845.out 1
    go_wp2_with (first | ((with_reducible refine gate_callee (f := 28) rfl ?_); refine goesL_ (some 20) rfl rfl Try.func28 (by kernel_rfl) rfl #[.agg #[.slice A1_0 l1_0.length c1_0, .slice A1_1 l1_1.length c1_1]] rfl (by (try simp only [List.map_toArray, List.map_cons, List.map_nil]); first | done | rfl | (simp only [List.length_drop, List.length_take]; rfl)) ?_; (with_reducible refine (steeplelaw21_Few.calls k _ _ l1_0 _ _ l1_1 true _ ?side1 ?side2 ?side3 ?side4 A5.out).mono ?_); (case side1 => repeat (first | exact (Kd.C_below HR1_0.out HB.out) | (with_reducible refine Kd.C_alloc ?_ _) | (with_reducible refine Kd.C_drewN ?_ _) | (with_reducible refine Kd.C_drew ?_))); (case side2 => exact HC1_0.out); (case side3 => repeat (first | exact (Kd.C_below HR1_1.out HB.out) | (with_reducible refine Kd.C_alloc ?_ _) | (with_reducible refine Kd.C_drewN ?_ _) | (with_reducible refine Kd.C_drew ?_))); (case side4 => exact HC1_1.out); rintro e w9 ⟨rfl, hb⟩; refine ⟨_, rfl, ?_⟩; have n0_ := Aside0.mk (blk_below (g := gb845) (o := .cells #[.slice A1_0 l1_0.length c1_0, .slice A1_1 l1_1.length c1_1] 59 (0, 0)) (by exact bF BK845.out) hb); have n1_ := Aside0.mk (below_step (by repeat (first | (with_reducible first | exact HB.out | apply bA | apply bN | apply bD | refine bS ?_ GE845.out) | exact HB.out)) hb); clear BK845; clear HB; have BK845 := n0_; have HB := n1_; clear n0_ n1_; (try clear hb); (try clear hb2); (try clear hk); (try clear hi)))
    go_meet
    case rel => exact ⟨_, (true), (by first | rfl | (simp; done) | (simp [*]; done)), H', ⟨by first | omega | exact Nat.le_refl _⟩, ⟨by exact bF BK845.out⟩, ⟨by repeat (first | (with_reducible first | exact HB.out | apply bA | apply bN | apply bD | refine bS ?_ GE845.out) | exact HB.out)⟩⟩
   ·rw [if_neg c7] at H
    have c7b0 : decide (a0 < 0) = false := decide_eq_false c7
    clear c7
    (first | rw [c7b0] | (simp only [i64_w, i32_w]; rw [c7b0]) | skip)
    by_cases c10 : a0 > 1
    ·rw [if_pos c10] at H
     have c10b0 : decide (1 < a0) = true := decide_eq_true c10
     clear c10
     have H' := Aside0.mk H
     clear H
     have hcz11_0 : w4.cell? ⟨gb845, 0, none⟩ = some (.slice A1_0 l1_0.length c1_0) := (blk_cell BK845.out 0).trans rfl
     have hcz11_1 : w4.cell? ⟨gb845, 1, none⟩ = some (.slice A1_1 l1_1.length c1_1) := (blk_cell BK845.out 1).trans rfl
     have hfz11_0 := blk_frozen BK845.out 0
     have hfz11_1 := blk_frozen BK845.out 1
     go_wp2_with (first | ((with_reducible refine gate_callee (f := 28) rfl ?_); refine goesL_ (some 20) rfl rfl Try.func28 (by kernel_rfl) rfl #[.agg #[.slice A1_0 l1_0.length c1_0, .slice A1_1 l1_1.length c1_1]] rfl (by (try simp only [List.map_toArray, List.map_cons, List.map_nil]); first | done | rfl | (simp only [List.length_drop, List.length_take]; rfl)) ?_; (with_reducible refine (steeplelaw21_Few.calls k _ _ l1_0 _ _ l1_1 true _ ?side1 ?side2 ?side3 ?side4 A5.out).mono ?_); (case side1 => repeat (first | exact (Kd.C_below HR1_0.out HB.out) | (with_reducible refine Kd.C_alloc ?_ _) | (with_reducible refine Kd.C_drewN ?_ _) | (with_reducible refine Kd.C_drew ?_))); (case side2 => exact HC1_0.out); (case side3 => repeat (first | exact (Kd.C_below HR1_1.out HB.out) | (with_reducible refine Kd.C_alloc ?_ _) | (with_reducible refine Kd.C_drewN ?_ _) | (with_reducible refine Kd.C_drew ?_))); (case side4 => exact HC1_1.out); rintro e w12 ⟨rfl, hb⟩; refine ⟨_, rfl, ?_⟩; have n0_ := Aside0.mk (blk_below (g := gb845) (o := .cells #[.slice A1_0 l1_0.length c1_0, .slice A1_1 l1_1.length c1_1] 59 (0, 0)) (by exact bF BK845.out) hb); have n1_ := Aside0.mk (below_step (by repeat (first | (with_reducible first | exact HB.out | apply bA | apply bN | apply bD | refine bS ?_ GE845.out) | exact HB.out)) hb); clear BK845; clear HB; have BK845 := n0_; have HB := n1_; clear n0_ n1_; (try clear hb); (try clear hb2); (try clear hk); (try clear hi)))
     go_meet
     case rel => exact ⟨_, (true), (by first | rfl | (simp; done) | (simp [*]; done)), H', ⟨by first | omega | exact Nat.le_refl _⟩, ⟨by exact bF BK845.out⟩, ⟨by repeat (first | (with_reducible first | exact HB.out | apply bA | apply bN | apply bD | refine bS ?_ GE845.out) | exact HB.out)⟩⟩
    ·rw [if_neg c10] at H
     have c10b0 : decide (1 < a0) = false := decide_eq_false c10
     clear c10
     replace H := Option.bind_eq_some_iff.mp H
     obtain ⟨t847, A130, H⟩ := H
     replace H : (steeplelaw21_ZeroCounts.j0 k a0 (!t847) l1_0 l1_1) = some r := H
     have A13 := Aside0.mk A130
     clear A130
     have H' := Aside0.mk H
     clear H
     have hcz14_0 : w4.cell? ⟨gb845, 0, none⟩ = some (.slice A1_0 l1_0.length c1_0) := (blk_cell BK845.out 0).trans rfl
     have hcz14_1 : w4.cell? ⟨gb845, 1, none⟩ = some (.slice A1_1 l1_1.length c1_1) := (blk_cell BK845.out 1).trans rfl
     have hfz14_0 := blk_frozen BK845.out 0
     have hfz14_1 := blk_frozen BK845.out 1
     go_wp2_with (first | ((with_reducible refine gate_callee (f := 28) rfl ?_); refine goesL_ (some 20) rfl rfl Try.func28 (by kernel_rfl) rfl #[.agg #[.slice A1_0 l1_0.length c1_0, .slice A1_1 l1_1.length c1_1]] rfl (by (try simp only [List.map_toArray, List.map_cons, List.map_nil]); first | done | rfl | (simp only [List.length_drop, List.length_take]; rfl)) ?_; (with_reducible refine (steeplelaw21_Few.calls k _ _ l1_0 _ _ l1_1 true _ ?side1 ?side2 ?side3 ?side4 A5.out).mono ?_); (case side1 => repeat (first | exact (Kd.C_below HR1_0.out HB.out) | (with_reducible refine Kd.C_alloc ?_ _) | (with_reducible refine Kd.C_drewN ?_ _) | (with_reducible refine Kd.C_drew ?_))); (case side2 => exact HC1_0.out); (case side3 => repeat (first | exact (Kd.C_below HR1_1.out HB.out) | (with_reducible refine Kd.C_alloc ?_ _) | (with_reducible refine Kd.C_drewN ?_ _) | (with_reducible refine Kd.C_drew ?_))); (case side4 => exact HC1_1.out); rintro e w15 ⟨rfl, hb⟩; refine ⟨_, rfl, ?_⟩; have n0_ := Aside0.mk (blk_below (g := gb845) (o := .cells #[.slice A1_0 l1_0.length c1_0, .slice A1_1 l1_1.length c1_1] 59 (0, 0)) (by exact bF BK845.out) hb); have n1_ := Aside0.mk (below_step (by repeat (first | (with_reducible first | exact HB.out | apply bA | apply bN | apply bD | refine bS ?_ GE845.out) | exact HB.out)) hb); clear BK845; clear HB; have BK845 := n0_; have HB := n1_; clear n0_ n1_; (try clear hb); (try clear hb2); (try clear hk); (try clear hi); have hcz16_0 : w15.cell? ⟨gb845, 0, none⟩ = some (.slice A1_0 l1_0.length c1_0) := (blk_cell BK845.out 0).trans rfl; have hcz16_1 : w15.cell? ⟨gb845, 1, none⟩ = some (.slice A1_1 l1_1.length c1_1) := (blk_cell BK845.out 1).trans rfl; have hfz16_0 := blk_frozen BK845.out 0; have hfz16_1 := blk_frozen BK845.out 1) | (go_at_call 38; (with_reducible refine (steeplelaw09_Few.calls k _ _ l1_1 5 4 t847 _ ?side1 ?side2 A13.out).mono ?_); (case side1 => repeat (first | exact (Kd.C_below HR1_1.out HB.out) | (with_reducible refine Kd.C_alloc ?_ _) | (with_reducible refine Kd.C_drewN ?_ _) | (with_reducible refine Kd.C_drew ?_))); (case side2 => exact HC1_1.out); rintro e w' ⟨rfl, ⟨nd, rfl⟩⟩))
     go_meet
     case rel => exact ⟨_, (!t847), (by first | rfl | (simp; done) | (simp [*]; done)), H', ⟨by first | omega | exact Nat.le_refl _⟩, ⟨by exact bF BK845.out⟩, ⟨by repeat (first | (with_reducible first | exact HB.out | apply bA | apply bN | apply bD | refine bS ?_ GE845.out) | exact HB.out)⟩⟩
  ·replace c6 := Bool.eq_false_iff.mpr c6
   subst c6
   have H1 : (steeplelaw21_ZeroCounts.j0 k a0 true l1_0 l1_1) = some r := by rw [if_neg (show ¬ (false = true) by decide)] at H; exact H
   clear H
   have H := H1
   clear H1
   have H' := Aside0.mk H
   clear H
   have hcz17_0 : w4.cell? ⟨gb845, 0, none⟩ = some (.slice A1_0 l1_0.length c1_0) := (blk_cell BK845.out 0).trans rfl
   have hcz17_1 : w4.cell? ⟨gb845, 1, none⟩ = some (.slice A1_1 l1_1.length c1_1) := (blk_cell BK845.out 1).trans rfl
   have hfz17_0 := blk_frozen BK845.out 0
   have hfz17_1 := blk_frozen BK845.out 1
   go_wp2_with (first | ((with_reducible refine gate_callee (f := 28) rfl ?_); refine goesL_ (some 20) rfl rfl Try.func28 (by kernel_rfl) rfl #[.agg #[.slice A1_0 l1_0.length c1_0, .slice A1_1 l1_1.length c1_1]] rfl (by (try simp only [List.map_toArray, List.map_cons, List.map_nil]); first | done | rfl | (simp only [List.length_drop, List.length_take]; rfl)) ?_; (with_reducible refine (steeplelaw21_Few.calls k _ _ l1_0 _ _ l1_1 false _ ?side1 ?side2 ?side3 ?side4 A5.out).mono ?_); (case side1 => repeat (first | exact (Kd.C_below HR1_0.out HB.out) | (with_reducible refine Kd.C_alloc ?_ _) | (with_reducible refine Kd.C_drewN ?_ _) | (with_reducible refine Kd.C_drew ?_))); (case side2 => exact HC1_0.out); (case side3 => repeat (first | exact (Kd.C_below HR1_1.out HB.out) | (with_reducible refine Kd.C_alloc ?_ _) | (with_reducible refine Kd.C_drewN ?_ _) | (with_reducible refine Kd.C_drew ?_))); (case side4 => exact HC1_1.out); rintro e w18 ⟨rfl, hb⟩; refine ⟨_, rfl, ?_⟩; have n0_ := Aside0.mk (blk_below (g := gb845) (o := .cells #[.slice A1_0 l1_0.length c1_0, .slice A1_1 l1_1.length c1_1] 59 (0, 0)) (by exact bF BK845.out) hb); have n1_ := Aside0.mk (below_step (by repeat (first | (with_reducible first | exact HB.out | apply bA | apply bN | apply bD | refine bS ?_ GE845.out) | exact HB.out)) hb); clear BK845; clear HB; have BK845 := n0_; have HB := n1_; clear n0_ n1_; (try clear hb); (try clear hb2); (try clear hk); (try clear hi)))
   go_meet
   case rel => exact ⟨_, (true), (by first | rfl | (simp; done) | (simp [*]; done)), H', ⟨by first | omega | exact Nat.le_refl _⟩, ⟨by exact bF BK845.out⟩, ⟨by repeat (first | (with_reducible first | exact HB.out | apply bA | apply bN | apply bD | refine bS ?_ GE845.out) | exact HB.out)⟩⟩
 case rest =>
  clear HC3
  try clear c1
  try clear c2
  try clear p2
  try clear c6
  try clear c7
  try clear c7b0
  try clear c10
  try clear c10b0
  try clear hcz11_0
  try clear hcz11_1
  try clear hcz14_0
  try clear hcz14_1
  try clear hcz16_0
  try clear hcz16_1
  try clear hcz17_0
  try clear hcz17_1
  try clear hcz8_0
  try clear hcz8_1
  try clear hfz11_0
  try clear hfz11_1
  try clear hfz14_0
  try clear hfz14_1
  try clear hfz16_0
  try clear hfz16_1
  try clear hfz17_0
  try clear hfz17_1
  try clear hfz8_0
  try clear hfz8_1
  obtain ⟨kq, x35_2, rfl, HA, HJ2, BK845, HB⟩ := hcut
  cases kq with
  | zero => exact absurd HA.out (by simp [steeplelaw21_ZeroCounts.j0])
  | succ kj2 =>
   have H := HA.out
   clear HA
   simp only [steeplelaw21_ZeroCounts.j0] at H
   by_cases c19 : x35_2 = true
   ·subst c19
    have H1 : ((steeplelaw21_awake.f kj2).bind fun t848 => (some t848)) = some r := by rw [if_pos rfl] at H; exact H
    clear H
    have H := H1
    clear H1
    replace H := Option.bind_eq_some_iff.mp H
    obtain ⟨t848, A200, H⟩ := H
    replace H : (some t848) = some r := H
    have A20 := Aside0.mk A200
    clear A200
    obtain rfl := Option.some.inj H
    go_wp2_with (first | ((with_reducible refine gate_callee (f := 29) rfl ?_); refine goesL_ (some 36) rfl rfl Try.func29 (by kernel_rfl) rfl #[] rfl (by (try simp only [List.map_toArray, List.map_cons, List.map_nil]); first | done | rfl | (simp only [List.length_drop, List.length_take]; rfl)) ?_; (with_reducible refine (steeplelaw21_awake.calls kj2  t848 _ A20.out).mono ?_); rintro e w21 ⟨rfl, hb⟩; refine ⟨_, rfl, ?_⟩; have n0_ := Aside0.mk (blk_below (g := gb845) (o := .cells #[.slice A1_0 l1_0.length c1_0, .slice A1_1 l1_1.length c1_1] 59 (0, 0)) (by exact bF BK845.out) hb); have n1_ := Aside0.mk (below_step (by repeat (first | (with_reducible first | exact HB.out | apply bA | apply bN | apply bD | refine bS ?_ GE845.out) | exact HB.out)) hb); clear BK845; clear HB; have BK845 := n0_; have HB := n1_; clear n0_ n1_; (try clear hb); (try clear hb2); (try clear hk); (try clear hi)))
    go_ret
    exact ⟨by first | rfl | (simp [errW_none, errW_some] <;> rfl) | (simp [*, errW_none, errW_some] <;> rfl), by repeat (first | (with_reducible first | exact HB.out | apply bA | apply bN | apply bD | refine bS ?_ GE845.out) | exact HB.out)⟩
   ·replace c19 := Bool.eq_false_iff.mpr c19
    subst c19
    have H1 : ((zero_Holds.f kj2 a0 l1_0 l1_1).bind fun bt849 => (if bt849.2 = 0 then (steeplelaw21_ZeroCounts.j1 kj2 a0 bt849.1 l1_0 l1_1) else (steeplelaw21_ZeroCounts.j1 kj2 a0 true l1_0 l1_1))) = some r := by rw [if_neg (show ¬ (false = true) by decide)] at H; exact H
    clear H
    have H := H1
    clear H1
    replace H := Option.bind_eq_some_iff.mp H
    obtain ⟨⟨t849, t850⟩, A220, H⟩ := H
    replace H : (if t850 = 0 then (steeplelaw21_ZeroCounts.j1 kj2 a0 t849 l1_0 l1_1) else (steeplelaw21_ZeroCounts.j1 kj2 a0 true l1_0 l1_1)) = some r := H
    have A22 := Aside0.mk A220
    clear A220
    have HC23 := Aside0.mk H
    clear H
    have hcz24_0 : wc.cell? ⟨gb845, 0, none⟩ = some (.slice A1_0 l1_0.length c1_0) := (blk_cell BK845.out 0).trans rfl
    have hcz24_1 : wc.cell? ⟨gb845, 1, none⟩ = some (.slice A1_1 l1_1.length c1_1) := (blk_cell BK845.out 1).trans rfl
    have hfz24_0 := blk_frozen BK845.out 0
    have hfz24_1 := blk_frozen BK845.out 1
    go_upto_region 4 with (first | ((with_reducible refine gate_callee (f := 32) rfl ?_); refine goesL_ (some 43) rfl rfl Try.func32 (by kernel_rfl) rfl #[.int .i64 a0, .slice A1_0 l1_0.length c1_0, .slice A1_1 l1_1.length c1_1] rfl (by (try simp only [List.map_toArray, List.map_cons, List.map_nil]); first | done | rfl | (simp only [List.length_drop, List.length_take]; rfl)) ?_; (with_reducible refine (zero_Holds.calls kj2 a0 _ _ l1_0 _ _ l1_1 t849 t850 _ ?side1 ?side2 ?side3 ?side4 A22.out).mono ?_); (case side1 => repeat (first | exact (Kd.C_below HR1_0.out HB.out) | (with_reducible refine Kd.C_alloc ?_ _) | (with_reducible refine Kd.C_drewN ?_ _) | (with_reducible refine Kd.C_drew ?_))); (case side2 => exact HC1_0.out); (case side3 => repeat (first | exact (Kd.C_below HR1_1.out HB.out) | (with_reducible refine Kd.C_alloc ?_ _) | (with_reducible refine Kd.C_drewN ?_ _) | (with_reducible refine Kd.C_drew ?_))); (case side4 => exact HC1_1.out); rintro e w25 ⟨rfl, hb⟩; refine ⟨_, rfl, ?_⟩; have n0_ := Aside0.mk (blk_below (g := gb845) (o := .cells #[.slice A1_0 l1_0.length c1_0, .slice A1_1 l1_1.length c1_1] 59 (0, 0)) (by exact bF BK845.out) hb); have n1_ := Aside0.mk (below_step (by repeat (first | (with_reducible first | exact HB.out | apply bA | apply bN | apply bD | refine bS ?_ GE845.out) | exact HB.out)) hb); clear BK845; clear HB; have BK845 := n0_; have HB := n1_; clear n0_ n1_; (try clear hb); (try clear hb2); (try clear hk); (try clear hi)))
    (try simp only [Act.put, List.setIfInBounds_toArray, List.set_cons_zero, List.set_cons_succ])
    go_cut [50] (fun v50 wc => ∃ (kq : Nat) (x50_22 : Bool), v50 = .bool x50_22 ∧ Aside0 (steeplelaw21_ZeroCounts.j1 kq a0 x50_22 l1_0 l1_1 = some r) ∧ Aside0 (kq ≤ kj2) ∧ Aside0 (wc.heap[gb845]? = some (.cells #[(.slice A1_0 l1_0.length c1_0), (.slice A1_1 l1_1.length c1_1)] 59 (0, 0))) ∧ Aside0 (Below w.heap.size w wc))
    case first =>
     have H := HC23.out
     clear HC23
     by_cases c26 : t850 = 0
     ·rw [if_pos c26] at H
      have c26b0 : (t850 == 0) = true := beq_iff_eq.mpr c26
      have c26b1 : (t850 != 0) = false := bne_eq_false_iff_eq.mpr c26
      clear c26
      (first | rw [c26b0] | (simp only [i64_w, i32_w]; rw [c26b0]) | skip)
      have H' := Aside0.mk H
      clear H
      go_wp2
      go_meet
      case rel => exact ⟨_, (t849), (by first | rfl | (simp; done) | (simp [*]; done)), H', ⟨by have := HJ2.out; first | omega | exact Nat.le_refl _⟩, ⟨by exact bF BK845.out⟩, ⟨by repeat (first | (with_reducible first | exact HB.out | apply bA | apply bN | apply bD | refine bS ?_ GE845.out) | exact HB.out)⟩⟩
     ·rw [if_neg c26] at H
      have c26b0 : (t850 == 0) = false := beq_eq_false_iff_ne.mpr c26
      have c26b1 : (t850 != 0) = true := bne_iff_ne.mpr c26
      (first | rw [c26b0] | (simp only [i64_w, i32_w]; rw [c26b0]) | skip)
      have H' := Aside0.mk H
      clear H
      go_wp2
      go_meet
      case rel => exact ⟨_, (true), (by first | rfl | (simp; done) | (simp [*]; done)), H', ⟨by have := HJ2.out; first | omega | exact Nat.le_refl _⟩, ⟨by exact bF BK845.out⟩, ⟨by repeat (first | (with_reducible first | exact HB.out | apply bA | apply bN | apply bD | refine bS ?_ GE845.out) | exact HB.out)⟩⟩
    case rest =>
     clear HC23
     try clear c1
     try clear c2
     try clear p2
     try clear c3
     try clear c6
     try clear c7
     try clear c7b0
     try clear c10
     try clear c10b0
     try clear c19
     try clear c26
     try clear c26b0
     try clear c26b1
     try clear hcz11_0
     try clear hcz11_1
     try clear hcz14_0
     try clear hcz14_1
     try clear hcz16_0
     try clear hcz16_1
     try clear hcz17_0
     try clear hcz17_1
     try clear hcz24_0
     try clear hcz24_1
     try clear hcz8_0
     try clear hcz8_1
     try clear hfz11_0
     try clear hfz11_1
     try clear hfz14_0
     try clear hfz14_1
     try clear hfz16_0
     try clear hfz16_1
     try clear hfz17_0
     try clear hfz17_1
     try clear hfz24_0
     try clear hfz24_1
     try clear hfz8_0
     try clear hfz8_1
     try clear p2
     obtain ⟨kq, x50_22, rfl, HA, HJ22, BK845, HB⟩ := hcut
     cases kq with
     | zero => exact absurd HA.out (by simp [steeplelaw21_ZeroCounts.j1])
     | succ kj22 =>
      have H := HA.out
      clear HA
      simp only [steeplelaw21_ZeroCounts.j1] at H
      by_cases c27 : x50_22 = true
      ·subst c27
       have H1 : ((steeplelaw21_awake.f kj22).bind fun t851 => (some t851)) = some r := by rw [if_pos rfl] at H; exact H
       clear H
       have H := H1
       clear H1
       replace H := Option.bind_eq_some_iff.mp H
       obtain ⟨t851, A280, H⟩ := H
       replace H : (some t851) = some r := H
       have A28 := Aside0.mk A280
       clear A280
       obtain rfl := Option.some.inj H
       go_wp2_with (first | ((with_reducible refine gate_callee (f := 29) rfl ?_); refine goesL_ (some 51) rfl rfl Try.func29 (by kernel_rfl) rfl #[] rfl (by (try simp only [List.map_toArray, List.map_cons, List.map_nil]); first | done | rfl | (simp only [List.length_drop, List.length_take]; rfl)) ?_; (with_reducible refine (steeplelaw21_awake.calls kj22  t851 _ A28.out).mono ?_); rintro e w29 ⟨rfl, hb⟩; refine ⟨_, rfl, ?_⟩; have n0_ := Aside0.mk (blk_below (g := gb845) (o := .cells #[.slice A1_0 l1_0.length c1_0, .slice A1_1 l1_1.length c1_1] 59 (0, 0)) (by exact bF BK845.out) hb); have n1_ := Aside0.mk (below_step (by repeat (first | (with_reducible first | exact HB.out | apply bA | apply bN | apply bD | refine bS ?_ GE845.out) | exact HB.out)) hb); clear BK845; clear HB; have BK845 := n0_; have HB := n1_; clear n0_ n1_; (try clear hb); (try clear hb2); (try clear hk); (try clear hi)))
       go_ret
       exact ⟨by first | rfl | (simp [errW_none, errW_some] <;> rfl) | (simp [*, errW_none, errW_some] <;> rfl), by repeat (first | (with_reducible first | exact HB.out | apply bA | apply bN | apply bD | refine bS ?_ GE845.out) | exact HB.out)⟩
      ·replace c27 := Bool.eq_false_iff.mpr c27
       subst c27
       have H1 : ((some (([2, 4] : List Int) : List Int)).bind fun y852 => (if 0 ≤ a0 then (if a0 < (y852.length : Int) then (steeplelaw21_ZeroCounts.l0 kj22 a0 (rd y852 a0) 0 l1_0 l1_1) else (none)) else (none))) = some r := by rw [if_neg (show ¬ (false = true) by decide)] at H; exact H
       clear H
       have H := H1
       clear H1
       obtain ⟨y852, hy852⟩ : ∃ y_ : List Int, y_ = (([2, 4] : List Int)) := ⟨_, rfl⟩
       replace H : (if 0 ≤ a0 then (if a0 < (y852.length : Int) then (steeplelaw21_ZeroCounts.l0 kj22 a0 (rd y852 a0) 0 l1_0 l1_1) else (none)) else (none)) = some r := by first | (rw [hy852]; with_reducible exact H) | (have H2_ := (Option.bind_some _ _).symm.trans H; rw [hy852]; with_reducible exact H2_) | (have H2_ := (Option.bind_some _ _).symm.trans H; with_reducible exact H2_) | with_reducible exact H | (rw [hy852]; exact H) | exact H
       have Ny852 := Aside0.mk hy852
       clear hy852
       by_cases c30 : 0 ≤ a0
       ·rw [if_pos c30] at H
        have c30b0 : decide (0 ≤ a0) = true := decide_eq_true c30
        clear c30
        by_cases c31 : a0 < (y852.length : Int)
        ·rw [if_pos c31] at H
         have c31b0 : decide (a0 < (y852.length : Int)) = true := decide_eq_true c31
         clear c31
         have H' := Aside0.mk H
         clear H
         go_wp2_with (first | ((with_reducible refine gate_dst (N := 52) rfl ?_); (try (refine gate_guard (by rfl) ?_; dsimp only)); refine Kd.R_lit (Kd.int .i64) _ 3 ?hg (N := 52) ?hd (xs := ([2, 4] : List Int)) (inner := [.int .i64 2, .int .i64 4]) (ok := fun _ => True) (okp := fun _ => True) ?hr ?hp (fun _ hk => hk) trivial (Below.refl _ _) (Nat.le_refl _) (by simp) ?_; (case hd => rfl); (case hg => rfl); (case hr => first | (go_simp; done) | (go_simp; rfl)); (case hp => exact (Reps.one (show Kd.M (Kd.int .i64) _ _ _ 2 [.int .i64 2] from rfl) (Reps.one (show Kd.M (Kd.int .i64) _ _ _ 4 [.int .i64 4] from rfl) (Reps.none _ _)))); intro v853 w32 ho33 hb hg_ hnew_; clear hg_ hnew_; (first | rw [← Ny852.out] at ho33 | (simp only [Int.reduceToNat] at ho33; rw [← Ny852.out] at ho33)); have n0_ := Aside0.mk (Kd.R_lower ho33 (below_size (by repeat (first | (with_reducible first | exact HB.out | apply bA | apply bN | apply bD | refine bS ?_ GE845.out) | exact HB.out)))); have n1_ := Aside0.mk (blk_below (g := gb845) (o := .cells #[.slice A1_0 l1_0.length c1_0, .slice A1_1 l1_1.length c1_1] 59 (0, 0)) (by exact bF BK845.out) hb); have n2_ := Aside0.mk (below_step (by repeat (first | (with_reducible first | exact HB.out | apply bA | apply bN | apply bD | refine bS ?_ GE845.out) | exact HB.out)) hb); clear BK845; clear HB; have HO854 := n0_; have BK845 := n1_; have HB := n2_; clear n0_ n1_ n2_; clear hb ho33; obtain ⟨Ao34, co34, eo34⟩ := Kd.R_slice HO854.out; subst eo34; have p855 : 0 ≤ (a0 : Int) := of_decide_eq_true (by first | (with_reducible assumption) | assumption); have q855 : a0 < (y852.length : Int) := of_decide_eq_true (by first | (with_reducible assumption) | assumption); obtain ⟨ad855, e855, hx855_0⟩ := Kd.at_int (Kd.R_reads' HO854.out).2.2 a0 p855 q855; cases e855; replace p855 := eq_true p855; replace q855 := eq_true q855))
         go_loopg [8] kj22 (fun kq v8 w' => ∃ (x8_3 : Int), v8 = .int .i64 x8_3 ∧ Aside0 (steeplelaw21_ZeroCounts.l0 kq a0 (rd y852 a0) x8_3 l1_0 l1_1 = some r) ∧ Aside0 (kq ≤ kj22) ∧ Aside0 (w'.heap[gb845]? = some (.cells #[(.slice A1_0 l1_0.length c1_0), (.slice A1_1 l1_1.length c1_1)] 59 (0, 0))) ∧ Aside0 (Below w.heap.size w w'))
         case atStart => exact ⟨(0), (by first | rfl | (simp; done) | (simp [*]; done)), H', ⟨Nat.le_refl _⟩, ⟨by exact bF BK845.out⟩, ⟨by repeat (first | (with_reducible first | exact HB.out | apply bA | apply bN | apply bD | refine bS ?_ GE845.out) | exact HB.out)⟩⟩
         case round =>
          clear H'
          try clear c1
          try clear c2
          try clear p2
          try clear c3
          try clear c6
          try clear c7
          try clear c7b0
          try clear p8
          try clear q8
          try clear hx8
          try clear c10
          try clear c10b0
          try clear c19
          try clear c26
          try clear c26b0
          try clear c26b1
          try clear c27
          try clear c28
          try clear c29
          try clear c30
          try clear c30b0
          try clear c31
          try clear c31b0
          try clear c32
          try clear hcz11_0
          try clear hcz11_1
          try clear hcz14_0
          try clear hcz14_1
          try clear hcz16_0
          try clear hcz16_1
          try clear hcz17_0
          try clear hcz17_1
          try clear hcz24_0
          try clear hcz24_1
          try clear hcz8_0
          try clear hcz8_1
          try clear hfz11_0
          try clear hfz11_1
          try clear hfz14_0
          try clear hfz14_1
          try clear hfz16_0
          try clear hfz16_1
          try clear hfz17_0
          try clear hfz17_1
          try clear hfz24_0
          try clear hfz24_1
          try clear hfz8_0
          try clear hfz8_1
          try clear hx855_0
          try clear p2
          try clear p855
          try clear q855
          obtain ⟨x8_3, rfl, HA, HK3, BK845, HB⟩ := hrel
          cases gk with
          | zero => exact absurd HA.out (by simp [steeplelaw21_ZeroCounts.l0])
          | succ k3 =>
           have H := HA.out
           clear HA
           simp only [steeplelaw21_ZeroCounts.l0] at H
           by_cases c35 : 0 < (l1_1.length : Int)
           ·rw [if_pos c35] at H
            have c35b0 : decide (0 < (l1_1.length : Int)) = true := decide_eq_true c35
            have c35b1 : decide (0 < l1_1.length) = true := decide_eq_true (by omega)
            clear c35
            obtain ⟨ji36, hji36⟩ : ∃ j_ : Int, (IntKind.u64.wrap (x8_3)) = j_ := ⟨_, rfl⟩
            replace H : (if 0 ≤ (ji36) then (if ((rd_L11 l1_1 0).length : Int) > (shl .i64 1 (ji36)) then (steeplelaw21_ZeroCounts.l0 k3 a0 (rd y852 a0) (wrap64 (x8_3 + 1)) l1_0 l1_1) else (steeplelaw21_ZeroCounts.l1 k3 a0 (rd y852 a0) x8_3 (rd y852 a0) 0 0 l1_0 l1_1)) else (none)) = some r := by first | (rw [hji36] at H; exact H) | (simp only [hji36] at H ⊢; exact H)
            by_cases c37 : 0 ≤ (ji36)
            ·rw [if_pos c37] at H
             have c37b0 := eq_true c37
             have c37b1 : decide (0 ≤ (ji36)) = true := decide_eq_true c37
             clear c37
             obtain ⟨ji38, hji38⟩ : ∃ j_ : Int, (shl .i64 1 (ji36)) = j_ := ⟨_, rfl⟩
             replace H : (if ((rd_L11 l1_1 0).length : Int) > (ji38) then (steeplelaw21_ZeroCounts.l0 k3 a0 (rd y852 a0) (wrap64 (x8_3 + 1)) l1_0 l1_1) else (steeplelaw21_ZeroCounts.l1 k3 a0 (rd y852 a0) x8_3 (rd y852 a0) 0 0 l1_0 l1_1)) = some r := by first | (rw [hji38] at H; exact H) | (simp only [hji38] at H ⊢; exact H)
             have hji38_ : (IntKind.i64.wrap (1 * 2 ^ min (ji36).toNat 64)) = ji38 := hji38
             have hji38z : (ji36) ≤ 64 → (IntKind.i64.wrap (1 * 2 ^ (ji36).toNat)) = ji38 := shl_small hji38
             have hji38u : (IntKind.i64.wrap (2 ^ min (ji36).toNat 64)) = ji38 := by have h_ := hji38_; rw [Int.one_mul] at h_; exact h_
             have hji38v : (ji36) ≤ 64 → (IntKind.i64.wrap (2 ^ (ji36).toNat)) = ji38 := fun hle_ => by have h_ := hji38z hle_; rw [Int.one_mul] at h_; exact h_
             have hji38y : (wrap64 (1 * 2 ^ min (ji36).toNat 64)) = ji38 := (i64_w _).symm.trans hji38_
             have hji38x : (ji36) ≤ 64 → (wrap64 (1 * 2 ^ (ji36).toNat)) = ji38 := fun h_ => (i64_w _).symm.trans (hji38z h_)
             by_cases c39 : ((rd_L11 l1_1 0).length : Int) > (ji38)
             ·rw [if_pos c39] at H
              have c39b0 : decide ((ji38) < ((rd_L11 l1_1 0).length : Int)) = true := decide_eq_true c39
              clear c39
              have H' := Aside0.mk H
              clear H
              have hcz40_0 : wr.cell? ⟨gb845, 0, none⟩ = some (.slice A1_0 l1_0.length c1_0) := (blk_cell BK845.out 0).trans rfl
              have hcz40_1 : wr.cell? ⟨gb845, 1, none⟩ = some (.slice A1_1 l1_1.length c1_1) := (blk_cell BK845.out 1).trans rfl
              have hfz40_0 := blk_frozen BK845.out 0
              have hfz40_1 := blk_frozen BK845.out 1
              have p856 : 0 ≤ (0 : Int) := (by omega)
              have q856 : 0 < (l1_1.length : Int) := of_decide_eq_true (by first | (with_reducible assumption) | assumption)
              obtain ⟨ad856, A856_0, c856_0, e856, hx856_0, hl856_0, hi856_0⟩ := at_L11 HR1_1.out 0 p856 q856
              cases e856
              have qi856 : (0 < l1_1.length) = True := eq_true (by omega)
              (try rw [show ((0 : Int)).toNat = 0 from rfl] at hx856_0)
              (try rw [Addr.add_zero'] at hx856_0)
              replace hx856_0 := (HB.out.cell (World.block_lt_of_cell? w _ hx856_0)).trans hx856_0
              have HR856_0 := Aside0.mk hi856_0
              have HC856_0 := Aside0.mk hl856_0
              clear hi856_0 hl856_0
              replace p856 := eq_true p856
              replace q856 := eq_true q856
              go_wp2
              go_roundg k3
              case measure => have := HJ2.out; have := HJ22.out; have := HK3.out; omega
              case rel => exact ⟨(wrap64 (x8_3 + 1)), (by first | rfl | (simp; done) | (simp [*]; done)), H', ⟨by have := HJ2.out; have := HJ22.out; have := HK3.out; omega⟩, ⟨by exact bF BK845.out⟩, ⟨by repeat (first | (with_reducible first | exact HB.out | apply bA | apply bN | apply bD | refine bS ?_ GE845.out) | exact HB.out)⟩⟩
             ·rw [if_neg c39] at H
              have c39b0 : decide ((ji38) < ((rd_L11 l1_1 0).length : Int)) = false := decide_eq_false c39
              clear c39
              have H' := Aside0.mk H
              clear H
              have hcz41_0 : wr.cell? ⟨gb845, 0, none⟩ = some (.slice A1_0 l1_0.length c1_0) := (blk_cell BK845.out 0).trans rfl
              have hcz41_1 : wr.cell? ⟨gb845, 1, none⟩ = some (.slice A1_1 l1_1.length c1_1) := (blk_cell BK845.out 1).trans rfl
              have hfz41_0 := blk_frozen BK845.out 0
              have hfz41_1 := blk_frozen BK845.out 1
              have p856 : 0 ≤ (0 : Int) := (by omega)
              have q856 : 0 < (l1_1.length : Int) := of_decide_eq_true (by first | (with_reducible assumption) | assumption)
              obtain ⟨ad856, A856_0, c856_0, e856, hx856_0, hl856_0, hi856_0⟩ := at_L11 HR1_1.out 0 p856 q856
              cases e856
              have qi856 : (0 < l1_1.length) = True := eq_true (by omega)
              (try rw [show ((0 : Int)).toNat = 0 from rfl] at hx856_0)
              (try rw [Addr.add_zero'] at hx856_0)
              replace hx856_0 := (HB.out.cell (World.block_lt_of_cell? w _ hx856_0)).trans hx856_0
              have HR856_0 := Aside0.mk hi856_0
              have HC856_0 := Aside0.mk hl856_0
              clear hi856_0 hl856_0
              replace p856 := eq_true p856
              replace q856 := eq_true q856
              go_wp2
              go_loopg [9, 11] k3 (fun kq v9 v11 w' => ∃ (x9_4 : Int) (x11_4 : Int), v9 = .int .i64 x9_4 ∧ v11 = .int .i64 x11_4 ∧ Aside0 (steeplelaw21_ZeroCounts.l1 kq a0 (rd y852 a0) x8_3 x9_4 0 x11_4 l1_0 l1_1 = some r) ∧ Aside0 (kq ≤ k3) ∧ Aside0 (w'.heap[gb845]? = some (.cells #[(.slice A1_0 l1_0.length c1_0), (.slice (some ad856) l1_1.length c1_1)] 59 (0, 0))) ∧ Aside0 (Below w.heap.size w w'))
              case atStart => exact ⟨((rd y852 a0)), (0), (by first | rfl | (simp; done) | (simp [*]; done)), (by first | rfl | (simp; done) | (simp [*]; done)), H', ⟨Nat.le_refl _⟩, ⟨by exact bF BK845.out⟩, ⟨by repeat (first | (with_reducible first | exact HB.out | apply bA | apply bN | apply bD | refine bS ?_ GE845.out) | exact HB.out)⟩⟩
              case round =>
               clear H'
               try clear c1
               try clear c2
               try clear p2
               try clear c3
               try clear c6
               try clear p6
               try clear c7
               try clear c7b0
               try clear c8
               try clear p8
               try clear q8
               try clear hx8
               try clear qi8
               try clear c10
               try clear c10b0
               try clear c19
               try clear c26
               try clear c26b0
               try clear c26b1
               try clear c27
               try clear c28
               try clear c29
               try clear c30
               try clear c30b0
               try clear c31
               try clear c31b0
               try clear c32
               try clear c35
               try clear c35b0
               try clear c35b1
               try clear c37
               try clear c37b0
               try clear c37b1
               try clear c39
               try clear c39b0
               try clear hcz11_0
               try clear hcz11_1
               try clear hcz14_0
               try clear hcz14_1
               try clear hcz16_0
               try clear hcz16_1
               try clear hcz17_0
               try clear hcz17_1
               try clear hcz24_0
               try clear hcz24_1
               try clear hcz40_0
               try clear hcz40_1
               try clear hcz41_0
               try clear hcz41_1
               try clear hcz8_0
               try clear hcz8_1
               try clear hfz11_0
               try clear hfz11_1
               try clear hfz14_0
               try clear hfz14_1
               try clear hfz16_0
               try clear hfz16_1
               try clear hfz17_0
               try clear hfz17_1
               try clear hfz24_0
               try clear hfz24_1
               try clear hfz40_0
               try clear hfz40_1
               try clear hfz41_0
               try clear hfz41_1
               try clear hfz8_0
               try clear hfz8_1
               try clear hx855_0
               try clear hx856_0
               try clear p2
               try clear p8
               try clear p855
               try clear p856
               try clear q8
               try clear q855
               try clear q856
               obtain ⟨x9_4, x11_4, rfl, rfl, HA, HK4, BK845, HB⟩ := hrel
               cases gk with
               | zero => exact absurd HA.out (by simp [steeplelaw21_ZeroCounts.l1])
               | succ k4 =>
                have H := HA.out
                clear HA
                simp only [steeplelaw21_ZeroCounts.l1] at H
                by_cases c42 : x11_4 < x8_3
                ·rw [if_pos c42] at H
                 have c42b0 : decide (x11_4 < x8_3) = true := decide_eq_true c42
                 clear c42
                 have H' := Aside0.mk H
                 clear H
                 go_wp2
                 go_roundg k4
                 case measure => have := HJ2.out; have := HJ22.out; have := HK3.out; have := HK4.out; omega
                 case rel => exact ⟨(wrap64 (x9_4 * (rd y852 a0))), (wrap64 (x11_4 + 1)), (by first | rfl | (simp; done) | (simp [*]; done)), (by first | rfl | (simp; done) | (simp [*]; done)), H', ⟨by have := HJ2.out; have := HJ22.out; have := HK3.out; have := HK4.out; omega⟩, ⟨by exact bF BK845.out⟩, ⟨by repeat (first | (with_reducible first | exact HB.out | apply bA | apply bN | apply bD | refine bS ?_ GE845.out) | exact HB.out)⟩⟩
                ·rw [if_neg c42] at H
                 have c42b0 : decide (x11_4 < x8_3) = false := decide_eq_false c42
                 clear c42
                 have H' := Aside0.mk H
                 clear H
                 go_wp2
                 go_loopg [10, 12] k4 (fun kq v10 v12 w' => ∃ (x10_5 : Int) (x12_5 : Int), v10 = .int .i64 x10_5 ∧ v12 = .int .i64 x12_5 ∧ Aside0 (steeplelaw21_ZeroCounts.l2 kq a0 (rd y852 a0) x8_3 x9_4 x10_5 x12_5 l1_0 l1_1 = some r) ∧ Aside0 (kq ≤ k4) ∧ Aside0 (w'.heap[gb845]? = some (.cells #[(.slice A1_0 l1_0.length c1_0), (.slice (some ad856) l1_1.length c1_1)] 59 (0, 0))) ∧ Aside0 (Below w.heap.size w w'))
                 case atStart => exact ⟨(0), (0), (by first | rfl | (simp; done) | (simp [*]; done)), (by first | rfl | (simp; done) | (simp [*]; done)), H', ⟨Nat.le_refl _⟩, ⟨by exact bF BK845.out⟩, ⟨by repeat (first | (with_reducible first | exact HB.out | apply bA | apply bN | apply bD | refine bS ?_ GE845.out) | exact HB.out)⟩⟩
                 case round =>
                  clear H'
                  try clear c1
                  try clear c2
                  try clear p2
                  try clear c3
                  try clear c4
                  try clear c6
                  try clear p6
                  try clear c7
                  try clear c7b0
                  try clear c8
                  try clear p8
                  try clear q8
                  try clear hx8
                  try clear qi8
                  try clear c10
                  try clear c10b0
                  try clear c19
                  try clear c26
                  try clear c26b0
                  try clear c26b1
                  try clear c27
                  try clear c28
                  try clear c29
                  try clear c30
                  try clear c30b0
                  try clear c31
                  try clear c31b0
                  try clear c32
                  try clear c35
                  try clear c35b0
                  try clear c35b1
                  try clear c37
                  try clear c37b0
                  try clear c37b1
                  try clear c39
                  try clear c39b0
                  try clear c42
                  try clear c42b0
                  try clear hcz11_0
                  try clear hcz11_1
                  try clear hcz14_0
                  try clear hcz14_1
                  try clear hcz16_0
                  try clear hcz16_1
                  try clear hcz17_0
                  try clear hcz17_1
                  try clear hcz24_0
                  try clear hcz24_1
                  try clear hcz40_0
                  try clear hcz40_1
                  try clear hcz41_0
                  try clear hcz41_1
                  try clear hcz8_0
                  try clear hcz8_1
                  try clear hfz11_0
                  try clear hfz11_1
                  try clear hfz14_0
                  try clear hfz14_1
                  try clear hfz16_0
                  try clear hfz16_1
                  try clear hfz17_0
                  try clear hfz17_1
                  try clear hfz24_0
                  try clear hfz24_1
                  try clear hfz40_0
                  try clear hfz40_1
                  try clear hfz41_0
                  try clear hfz41_1
                  try clear hfz8_0
                  try clear hfz8_1
                  try clear hx855_0
                  try clear hx856_0
                  try clear p2
                  try clear p6
                  try clear p8
                  try clear p855
                  try clear p856
                  try clear q8
                  try clear q855
                  try clear q856
                  obtain ⟨x10_5, x12_5, rfl, rfl, HA, HK5, BK845, HB⟩ := hrel
                  cases gk with
                  | zero => exact absurd HA.out (by simp [steeplelaw21_ZeroCounts.l2])
                  | succ k5 =>
                   have H := HA.out
                   clear HA
                   simp only [steeplelaw21_ZeroCounts.l2] at H
                   by_cases c43 : x12_5 < x9_4
                   ·rw [if_pos c43] at H
                    have c43b0 : decide (x12_5 < x9_4) = true := decide_eq_true c43
                    clear c43
                    by_cases c44 : (rd y852 a0) = 0
                    ·rw [if_pos c44] at H
                     exact absurd H (by simp)
                    ·rw [if_neg c44] at H
                     have c44b0 : ((rd y852 a0) == 0) = false := beq_eq_false_iff_ne.mpr c44
                     have c44b1 : ((rd y852 a0) != 0) = true := bne_iff_ne.mpr c44
                     have H' := Aside0.mk H
                     clear H
                     go_wp2_with (first | ((with_reducible refine gate_dst (N := 13) rfl ?_); (try (refine gate_guard (by rfl) ?_; dsimp only)); refine box_event ?hg (N := 13) ?hd (cs := #[.int .u64 0, .int .u64 0]) (t := 28) ?hr ?_; (case hd => rfl); (case hg => rfl); (case hr => first | (go_simp; done) | (go_simp; rfl)); intro gb858 hg w45 hbox hb; have n0_ := Aside0.mk (blk_below (g := gb845) (o := .cells #[.slice A1_0 l1_0.length c1_0, .slice (some ad856) l1_1.length c1_1] 59 (0, 0)) (by exact bF BK845.out) hb); have n1_ := Aside0.mk (below_step (by repeat (first | (with_reducible first | exact HB.out | apply bA | apply bN | apply bD | refine bS ?_ GE845.out) | exact HB.out)) hb); have n2_ := Aside0.mk (hbox); have n3_ := Aside0.mk ((by rw [hg]; exact (below_size (by repeat (first | (with_reducible first | exact HB.out | apply bA | apply bN | apply bD | refine bS ?_ GE845.out) | exact HB.out))) : w.heap.size ≤ gb858)); have n4_ := Aside0.mk ((by rw [hg]; exact (below_size (by repeat (first | (with_reducible first | exact HB.out | apply bA | apply bN | apply bD | refine bS ?_ GE845.out) | exact HB.out))) : w.heap.size ≤ gb858)); have n5_ := Aside0.mk ((by rw [hg]; exact Nat.ne_of_lt (blk_lt (g := gb845) (o := .cells #[.slice A1_0 l1_0.length c1_0, .slice (some ad856) l1_1.length c1_1] 59 (0, 0)) (by exact bF BK845.out)) : gb845 ≠ gb858)); have n6_ := Aside0.mk ((by rw [hg]; exact Nat.ne_of_gt (blk_lt (g := gb845) (o := .cells #[.slice A1_0 l1_0.length c1_0, .slice (some ad856) l1_1.length c1_1] 59 (0, 0)) (by exact bF BK845.out)) : gb858 ≠ gb845)); clear BK845; clear HB; have BK845 := n0_; have HB := n1_; have BK858 := n2_; have GW858 := n3_; have GE858 := n4_; have NB845_858 := n5_; have NB858_845 := n6_; clear n0_ n1_ n2_ n3_ n4_ n5_ n6_; clear hb hbox hg; have hnb46 := NB858_845.out; have hnc46 := NB845_858.out; have hcz47_0 : w45.cell? ⟨gb858, 0, none⟩ = some (.int .u64 0) := (blk_cell BK858.out 0).trans rfl; have hcz47_1 : w45.cell? ⟨gb858, 1, none⟩ = some (.int .u64 0) := (blk_cell BK858.out 1).trans rfl; have hfz47_0 := blk_frozen BK858.out 0; have hfz47_1 := blk_frozen BK858.out 1))
                     go_loopg [14, 15, 16] k5 (fun kq v14 v15 v16 w' => ∃ (x14_6 : List (S28)) (x15_6 : Int) (x16_6 : Int), v15 = .int .i64 x15_6 ∧ v16 = .int .i64 x16_6 ∧ Aside0 (steeplelaw21_ZeroCounts.l3 kq a0 (rd y852 a0) x8_3 x9_4 x10_5 x12_5 x14_6 x15_6 x16_6 l1_0 l1_1 0 (IntKind.u64.wrap (Int.tmod x12_5 (rd y852 a0))) = some r) ∧ Aside0 (kq ≤ k5) ∧ Aside0 (Kd.R k28 28 w' w.heap.size (fun k_ => k_ ≠ gb858) v14 x14_6) ∧ Aside0 (w'.heap[gb845]? = some (.cells #[(.slice A1_0 l1_0.length c1_0), (.slice (some ad856) l1_1.length c1_1)] 59 (0, 0))) ∧ Aside0 (w'.heap[gb858]? = some (.cells #[.int .u64 0, .int .u64 (IntKind.u64.wrap (Int.tmod x12_5 (rd y852 a0)))] 28 (0, 0))) ∧ Aside0 (Below w.heap.size w w'))
                     case atStart => exact ⟨(([] : List (S28))), (wrap64 (Int.tdiv x12_5 (rd y852 a0))), (0), (by first | rfl | (simp; done) | (simp [*]; done)), (by first | rfl | (simp; done) | (simp [*]; done)), H', ⟨Nat.le_refl _⟩, ⟨by first | exact Kd.R_nil _ _ _ _ _ | exact Kd.N_nil _ _ _ _ _ | exact Kd.V_nil _ _ _ _ _ | exact Kd.Q_nil _ _ _ _ _ | exact Kd.S_nil _ _ _ _ _⟩, ⟨by (with_reducible repeat (first | refine blk_drewN ?_ _ | refine blk_drew ?_ | refine blk_alloc ?_ _)); refine blk_far ?_ NB845_858.out _; (with_reducible repeat (first | refine blk_drewN ?_ _ | refine blk_drew ?_ | refine blk_alloc ?_ _)); refine blk_far ?_ NB845_858.out _; exact bF BK845.out⟩, ⟨by (with_reducible repeat (first | refine blk_drewN ?_ _ | refine blk_drew ?_ | refine blk_alloc ?_ _)); refine blk_put (cs := #[.int .u64 0, .int .u64 0]) ?_ 1 _ rfl; (with_reducible repeat (first | refine blk_drewN ?_ _ | refine blk_drew ?_ | refine blk_alloc ?_ _)); refine blk_put (cs := #[.int .u64 0, .int .u64 0]) ?_ 0 _ rfl; exact bF BK858.out⟩, ⟨by repeat (first | (with_reducible first | exact HB.out | apply bA | apply bN | apply bD | refine bS ?_ GE845.out | refine bS ?_ GE858.out) | exact HB.out)⟩⟩
                     case round =>
                      clear H'
                      try clear c1
                      try clear c2
                      try clear p2
                      try clear c3
                      try clear c4
                      try clear c6
                      try clear p6
                      try clear c7
                      try clear c7b0
                      try clear c8
                      try clear p8
                      try clear q8
                      try clear hx8
                      try clear qi8
                      try clear c10
                      try clear c10b0
                      try clear c19
                      try clear c26
                      try clear c26b0
                      try clear c26b1
                      try clear c27
                      try clear c28
                      try clear c29
                      try clear c30
                      try clear c30b0
                      try clear c31
                      try clear c31b0
                      try clear c32
                      try clear c35
                      try clear c35b0
                      try clear c35b1
                      try clear c37
                      try clear c37b0
                      try clear c37b1
                      try clear c39
                      try clear c39b0
                      try clear c42
                      try clear c42b0
                      try clear c43
                      try clear c43b0
                      try clear c44
                      try clear c44b0
                      try clear c44b1
                      try clear c46
                      try clear hcz11_0
                      try clear hcz11_1
                      try clear hcz14_0
                      try clear hcz14_1
                      try clear hcz16_0
                      try clear hcz16_1
                      try clear hcz17_0
                      try clear hcz17_1
                      try clear hcz24_0
                      try clear hcz24_1
                      try clear hcz40_0
                      try clear hcz40_1
                      try clear hcz41_0
                      try clear hcz41_1
                      try clear hcz47_0
                      try clear hcz47_1
                      try clear hcz8_0
                      try clear hcz8_1
                      try clear hfz11_0
                      try clear hfz11_1
                      try clear hfz14_0
                      try clear hfz14_1
                      try clear hfz16_0
                      try clear hfz16_1
                      try clear hfz17_0
                      try clear hfz17_1
                      try clear hfz24_0
                      try clear hfz24_1
                      try clear hfz40_0
                      try clear hfz40_1
                      try clear hfz41_0
                      try clear hfz41_1
                      try clear hfz47_0
                      try clear hfz47_1
                      try clear hfz8_0
                      try clear hfz8_1
                      try clear hx855_0
                      try clear hx856_0
                      try clear p2
                      try clear p6
                      try clear p8
                      try clear p855
                      try clear p856
                      try clear q8
                      try clear q855
                      try clear q856
                      obtain ⟨x14_6, x15_6, x16_6, rfl, rfl, HA, HK6, HO_14, BK845, BK858, HB⟩ := hrel
                      cases gk with
                      | zero => exact absurd HA.out (by simp [steeplelaw21_ZeroCounts.l3])
                      | succ k6 =>
                       have H := HA.out
                       clear HA
                       simp only [steeplelaw21_ZeroCounts.l3] at H
                       by_cases c48 : x16_6 < x8_3
                       ·rw [if_pos c48] at H
                        have c48b0 : decide (x16_6 < x8_3) = true := decide_eq_true c48
                        clear c48
                        by_cases c49 : (rd y852 a0) = 0
                        ·rw [if_pos c49] at H
                         exact absurd H (by simp)
                        ·rw [if_neg c49] at H
                         have c49b0 : ((rd y852 a0) == 0) = false := beq_eq_false_iff_ne.mpr c49
                         have c49b1 : ((rd y852 a0) != 0) = true := bne_iff_ne.mpr c49
                         by_cases c50 : x14_6.length < 8796093022208
                         ·rw [if_pos c50] at H
                          have LMc50 := Aside0.mk c50
                          clear c50
                          obtain ⟨y859, hy859⟩ : ∃ y_ : List (S28), y_ = (x14_6 ++ [(⟨0, IntKind.u64.wrap (Int.tmod x15_6 (rd y852 a0))⟩ : S28)]) := ⟨_, rfl⟩
                          replace H : (steeplelaw21_ZeroCounts.l3 k6 a0 (rd y852 a0) x8_3 x9_4 x10_5 x12_5 y859 (wrap64 (Int.tdiv x15_6 (rd y852 a0))) (wrap64 (x16_6 + 1)) l1_0 l1_1 0 (IntKind.u64.wrap (Int.tmod x12_5 (rd y852 a0)))) = some r := by first | (rw [hy859]; with_reducible exact H) | (have H2_ := (Option.bind_some _ _).symm.trans H; rw [hy859]; with_reducible exact H2_) | (have H2_ := (Option.bind_some _ _).symm.trans H; with_reducible exact H2_) | with_reducible exact H | (rw [hy859]; exact H) | exact H
                          have Ny859 := Aside0.mk hy859
                          clear hy859
                          have H' := Aside0.mk H
                          clear H
                          go_wp2_with (first | ((with_reducible refine gate_builtin (b := .append) (xs := #[.tmp 94, .tmp 100]) rfl ?_); (try (refine gate_guard (by rfl) ?_; dsimp only)); at_builtin; refine Kd.R_append k28 (w0 := w) w.heap.size rfl (.tmp 94) (.tmp 100) 53 28 (.agg #[(.int .u64 0), (.int .u64 0)]) 16 rfl Try.underlying53 info28 rfl (by decide) (by omega) u14 x14_6 (⟨0, IntKind.u64.wrap (Int.tmod x15_6 (rd y852 a0))⟩ : S28) [.int .u64 0, .int .u64 (IntKind.u64.wrap (Int.tmod x15_6 (rd y852 a0)))] (fun k_ => k_ ≠ gb858) (fun _ => False) rfl rfl ?aP (fun _ hk => hk.elim) ?aF ?aO ?aB ?aS ?aL ?_; (case aP => exact k28_mkM _ _ _ (⟨0, IntKind.u64.wrap (Int.tmod x15_6 (rd y852 a0))⟩ : S28)); (case aB => exact (by repeat (first | (with_reducible first | exact HB.out | apply bA | apply bN | apply bD | refine bS ?_ GE845.out | refine bS ?_ GE858.out) | exact HB.out))); (case aF => exact (fun k_ hk => Kd.freshB (g := gb858) (o := .cells #[.int .u64 0, .int .u64 (IntKind.u64.wrap (Int.tmod x12_5 (rd y852 a0)))] 28 (0, 0)) (by exact bF BK858.out) k_ hk)); (case aO => exact (by exact rF HO_14.out)); (case aS => exact (below_size (by repeat (first | (with_reducible first | exact HB.out | apply bA | apply bN | apply bD | refine bS ?_ GE845.out | refine bS ?_ GE858.out) | exact HB.out)))); (case aL => have := LMc50.out; omega); intro v860 w51 ho hb hg hat; rw [← Ny859.out] at ho; have n0_ := Aside0.mk (blk_grown (g := gb845) (o := .cells #[.slice A1_0 l1_0.length c1_0, .slice (some ad856) l1_1.length c1_1] 59 (0, 0)) (by exact bF BK845.out) hg (Kd.R_ne HO_14.out BK845.out (by decide))); have n1_ := Aside0.mk (blk_grown (g := gb858) (o := .cells #[.int .u64 0, .int .u64 (IntKind.u64.wrap (Int.tmod x12_5 (rd y852 a0)))] 28 (0, 0)) (by exact bF BK858.out) hg (Kd.R_away HO_14.out (fun _ hk => hk))); have n2_ := Aside0.mk (hb); have n3_ := Aside0.mk (ho); clear BK845; clear BK858; clear HB; clear HO_14; have BK845 := n0_; have BK858 := n1_; have HB := n2_; have HO861 := n3_; clear n0_ n1_ n2_ n3_; clear ho hb hg hat))
                          go_roundg k6
                          case measure => have := HJ2.out; have := HJ22.out; have := HK3.out; have := HK4.out; have := HK5.out; have := HK6.out; omega
                          case rel => exact ⟨(y859), (wrap64 (Int.tdiv x15_6 (rd y852 a0))), (wrap64 (x16_6 + 1)), (by first | rfl | (simp; done) | (simp [*]; done)), (by first | rfl | (simp; done) | (simp [*]; done)), H', ⟨by have := HJ2.out; have := HJ22.out; have := HK3.out; have := HK4.out; have := HK5.out; have := HK6.out; omega⟩, ⟨by exact rF HO861.out⟩, ⟨by exact bF BK845.out⟩, ⟨by exact bF BK858.out⟩, ⟨by repeat (first | (with_reducible first | exact HB.out | apply bA | apply bN | apply bD | refine bS ?_ GE845.out | refine bS ?_ GE858.out) | exact HB.out)⟩⟩
                         ·rw [if_neg c50] at H
                          exact absurd H (by simp)
                       ·rw [if_neg c48] at H
                        have c48b0 : decide (x16_6 < x8_3) = false := decide_eq_false c48
                        clear c48
                        replace H := Option.bind_eq_some_iff.mp H
                        obtain ⟨⟨t862, t863, t864⟩, A520, H⟩ := H
                        replace H : (if t864 = 0 then (if (t862 == 0 && (t863 == 0)) = true then (steeplelaw21_ZeroCounts.l2 k6 a0 (rd y852 a0) x8_3 x9_4 (wrap64 (x10_5 + 1)) (wrap64 (x12_5 + 1)) l1_0 l1_1) else (steeplelaw21_ZeroCounts.l2 k6 a0 (rd y852 a0) x8_3 x9_4 x10_5 (wrap64 (x12_5 + 1)) l1_0 l1_1)) else ((steeplelaw21_awake.f k6).bind fun t866 => (some t866))) = some r := H
                        have A52 := Aside0.mk A520
                        clear A520
                        by_cases c53 : t864 = 0
                        ·rw [if_pos c53] at H
                         have c53b0 : (t864 == 0) = true := beq_iff_eq.mpr c53
                         have c53b1 : (t864 != 0) = false := bne_eq_false_iff_eq.mpr c53
                         clear c53
                         by_cases c54 : (t862 == 0 && (t863 == 0)) = true
                         ·rw [if_pos c54] at H
                          have c54b0 : (t862 == 0 && (t863 == 0)) = true := c54
                          (try (have c54b1 : decide (t862 = 0 && (t863 == 0)) = true := by simpa using c54))
                          (try (have c54b2 : (t862 == 0 && (t863 == 0)) = true := by simpa using c54))
                          clear c54
                          have H' := Aside0.mk H
                          clear H
                          have hnb55 := NB845_858.out
                          have hnc55 := NB858_845.out
                          have hcz56_0 : wr.cell? ⟨gb845, 0, none⟩ = some (.slice A1_0 l1_0.length c1_0) := (blk_cell BK845.out 0).trans rfl
                          have hcz56_1 : wr.cell? ⟨gb845, 1, none⟩ = some (.slice (some ad856) l1_1.length c1_1) := (blk_cell BK845.out 1).trans rfl
                          have hfz56_0 := blk_frozen BK845.out 0
                          have hfz56_1 := blk_frozen BK845.out 1
                          have hcz57_0 : wr.cell? ⟨gb858, 0, none⟩ = some (.int .u64 0) := (blk_cell BK858.out 0).trans rfl
                          have hcz57_1 : wr.cell? ⟨gb858, 1, none⟩ = some (.int .u64 (IntKind.u64.wrap (Int.tmod x12_5 (rd y852 a0)))) := (blk_cell BK858.out 1).trans rfl
                          have hfz57_0 := blk_frozen BK858.out 0
                          have hfz57_1 := blk_frozen BK858.out 1
                          obtain ⟨Ao58, co58, eo58⟩ := Kd.R_slice HO_14.out
                          subst eo58
                          go_wp2_with (first | ((with_reducible refine gate_callee (f := 33) rfl ?_); refine goesL_ (some 113) rfl rfl Try.func33 (by kernel_rfl) rfl #[.int .i64 a0, .slice A1_0 l1_0.length c1_0, .slice (some ad856) l1_1.length c1_1, .agg #[.int .u64 0, .int .u64 (IntKind.u64.wrap (Int.tmod x12_5 (rd y852 a0)))], .slice Ao58 x14_6.length co58] rfl (by (try simp only [List.map_toArray, List.map_cons, List.map_nil]); first | done | rfl | (simp only [List.length_drop, List.length_take]; rfl)) ?_; (with_reducible refine (zero_Sum.calls k6 a0 _ _ l1_0 _ _ l1_1 0 (IntKind.u64.wrap (Int.tmod x12_5 (rd y852 a0))) _ _ x14_6 t862 t863 t864 _ ?side1 ?side2 ?side3 ?side4 ?side5 ?side6 A52.out).mono ?_); (case side1 => repeat (first | exact (Kd.C_below HR1_0.out HB.out) | (with_reducible refine Kd.C_alloc ?_ _) | (with_reducible refine Kd.C_drewN ?_ _) | (with_reducible refine Kd.C_drew ?_))); (case side2 => exact HC1_0.out); (case side3 => repeat (first | exact (Kd.C_below HR1_1.out HB.out) | (with_reducible refine Kd.C_alloc ?_ _) | (with_reducible refine Kd.C_drewN ?_ _) | (with_reducible refine Kd.C_drew ?_))); (case side4 => exact HC1_1.out); (case side5 => repeat (first | exact (Kd.R_reads' HO_14.out).2.2 | (with_reducible refine Kd.C_alloc ?_ _) | (with_reducible refine Kd.C_drewN ?_ _) | (with_reducible refine Kd.C_drew ?_))); (case side6 => exact (Kd.R_reads' HO_14.out).2.1); rintro e w59 ⟨rfl, hb⟩; refine ⟨_, rfl, ?_⟩; have n0_ := Aside0.mk (Kd.R_below (by exact rF HO_14.out) hb); have n1_ := Aside0.mk (blk_below (g := gb845) (o := .cells #[.slice A1_0 l1_0.length c1_0, .slice (some ad856) l1_1.length c1_1] 59 (0, 0)) (by exact bF BK845.out) hb); have n2_ := Aside0.mk (blk_below (g := gb858) (o := .cells #[.int .u64 0, .int .u64 (IntKind.u64.wrap (Int.tmod x12_5 (rd y852 a0)))] 28 (0, 0)) (by exact bF BK858.out) hb); have n3_ := Aside0.mk (below_step (by repeat (first | (with_reducible first | exact HB.out | apply bA | apply bN | apply bD | refine bS ?_ GE845.out | refine bS ?_ GE858.out) | exact HB.out)) hb); clear HO_14; clear BK845; clear BK858; clear HB; have HO_14 := n0_; have BK845 := n1_; have BK858 := n2_; have HB := n3_; clear n0_ n1_ n2_ n3_; (try clear hb); (try clear hb2); (try clear hk); (try clear hi)) | ((with_reducible refine gate_dst (N := 17) rfl ?_); (try (refine gate_guard (by rfl) ?_; dsimp only)); refine box_event ?hg (N := 17) ?hd (cs := #[.int .u64 0, .int .u64 0]) (t := 28) ?hr ?_; (case hd => rfl); (case hg => rfl); (case hr => first | (go_simp; done) | (go_simp; rfl)); intro gb865 hg w60 hbox hb; have n0_ := Aside0.mk (Kd.R_below (Kd.R_elderB (by exact rF HO_14.out) gb865 (Nat.le_of_eq hg.symm)) hb); have n1_ := Aside0.mk (blk_below (g := gb845) (o := .cells #[.slice A1_0 l1_0.length c1_0, .slice (some ad856) l1_1.length c1_1] 59 (0, 0)) (by exact bF BK845.out) hb); have n2_ := Aside0.mk (blk_below (g := gb858) (o := .cells #[.int .u64 0, .int .u64 (IntKind.u64.wrap (Int.tmod x12_5 (rd y852 a0)))] 28 (0, 0)) (by exact bF BK858.out) hb); have n3_ := Aside0.mk (below_step (by repeat (first | (with_reducible first | exact HB.out | apply bA | apply bN | apply bD | refine bS ?_ GE845.out | refine bS ?_ GE858.out) | exact HB.out)) hb); have n4_ := Aside0.mk (hbox); have n5_ := Aside0.mk ((by rw [hg]; exact (below_size (by repeat (first | (with_reducible first | exact HB.out | apply bA | apply bN | apply bD | refine bS ?_ GE845.out | refine bS ?_ GE858.out) | exact HB.out))) : w.heap.size ≤ gb865)); have n6_ := Aside0.mk ((by rw [hg]; exact (below_size (by repeat (first | (with_reducible first | exact HB.out | apply bA | apply bN | apply bD | refine bS ?_ GE845.out | refine bS ?_ GE858.out) | exact HB.out))) : w.heap.size ≤ gb865)); have n7_ := Aside0.mk ((by rw [hg]; exact Nat.ne_of_lt (blk_lt (g := gb845) (o := .cells #[.slice A1_0 l1_0.length c1_0, .slice (some ad856) l1_1.length c1_1] 59 (0, 0)) (by exact bF BK845.out)) : gb845 ≠ gb865)); have n8_ := Aside0.mk ((by rw [hg]; exact Nat.ne_of_gt (blk_lt (g := gb845) (o := .cells #[.slice A1_0 l1_0.length c1_0, .slice (some ad856) l1_1.length c1_1] 59 (0, 0)) (by exact bF BK845.out)) : gb865 ≠ gb845)); have n9_ := Aside0.mk ((by rw [hg]; exact Nat.ne_of_lt (blk_lt (g := gb858) (o := .cells #[.int .u64 0, .int .u64 (IntKind.u64.wrap (Int.tmod x12_5 (rd y852 a0)))] 28 (0, 0)) (by exact bF BK858.out)) : gb858 ≠ gb865)); have n10_ := Aside0.mk ((by rw [hg]; exact Nat.ne_of_gt (blk_lt (g := gb858) (o := .cells #[.int .u64 0, .int .u64 (IntKind.u64.wrap (Int.tmod x12_5 (rd y852 a0)))] 28 (0, 0)) (by exact bF BK858.out)) : gb865 ≠ gb858)); clear HO_14; clear BK845; clear BK858; clear HB; have HO_14 := n0_; have BK845 := n1_; have BK858 := n2_; have HB := n3_; have BK865 := n4_; have GW865 := n5_; have GE865 := n6_; have NB845_865 := n7_; have NB865_845 := n8_; have NB858_865 := n9_; have NB865_858 := n10_; clear n0_ n1_ n2_ n3_ n4_ n5_ n6_ n7_ n8_ n9_ n10_; clear hb hbox hg; have hnb61 := NB865_845.out; have hnc61 := NB845_865.out; have hnb62 := NB865_858.out; have hnc62 := NB858_865.out; have hcz63_0 : w60.cell? ⟨gb865, 0, none⟩ = some (.int .u64 0) := (blk_cell BK865.out 0).trans rfl; have hcz63_1 : w60.cell? ⟨gb865, 1, none⟩ = some (.int .u64 0) := (blk_cell BK865.out 1).trans rfl; have hfz63_0 := blk_frozen BK865.out 0; have hfz63_1 := blk_frozen BK865.out 1))
                          go_roundg k6
                          case measure => have := HJ2.out; have := HJ22.out; have := HK3.out; have := HK4.out; have := HK5.out; have := HK6.out; omega
                          case rel => exact ⟨(wrap64 (x10_5 + 1)), (wrap64 (x12_5 + 1)), (by first | rfl | (simp; done) | (simp [*]; done)), (by first | rfl | (simp; done) | (simp [*]; done)), H', ⟨by have := HJ2.out; have := HJ22.out; have := HK3.out; have := HK4.out; have := HK5.out; have := HK6.out; omega⟩, ⟨by (with_reducible repeat (first | refine blk_drewN ?_ _ | refine blk_drew ?_ | refine blk_alloc ?_ _)); refine blk_far ?_ NB845_865.out _; (with_reducible repeat (first | refine blk_drewN ?_ _ | refine blk_drew ?_ | refine blk_alloc ?_ _)); refine blk_far ?_ NB845_865.out _; exact bF BK845.out⟩, ⟨by repeat (first | (with_reducible first | exact HB.out | apply bA | apply bN | apply bD | refine bS ?_ GE845.out | refine bS ?_ GE858.out | refine bS ?_ GE865.out) | exact HB.out)⟩⟩
                         ·rw [if_neg c54] at H
                          have c54b0 : (t862 == 0 && (t863 == 0)) = false := by simpa using c54
                          (try (have c54b1 : decide (t862 = 0 && (t863 == 0)) = false := by simpa using c54))
                          (try (have c54b2 : (t862 == 0 && (t863 == 0)) = false := by simpa using c54))
                          (try (have c54b3 : ¬ (t862 = 0 && (t863 == 0)) := by simpa using c54))
                          clear c54
                          have H' := Aside0.mk H
                          clear H
                          have hnb64 := NB845_858.out
                          have hnc64 := NB858_845.out
                          have hcz65_0 : wr.cell? ⟨gb845, 0, none⟩ = some (.slice A1_0 l1_0.length c1_0) := (blk_cell BK845.out 0).trans rfl
                          have hcz65_1 : wr.cell? ⟨gb845, 1, none⟩ = some (.slice (some ad856) l1_1.length c1_1) := (blk_cell BK845.out 1).trans rfl
                          have hfz65_0 := blk_frozen BK845.out 0
                          have hfz65_1 := blk_frozen BK845.out 1
                          have hcz66_0 : wr.cell? ⟨gb858, 0, none⟩ = some (.int .u64 0) := (blk_cell BK858.out 0).trans rfl
                          have hcz66_1 : wr.cell? ⟨gb858, 1, none⟩ = some (.int .u64 (IntKind.u64.wrap (Int.tmod x12_5 (rd y852 a0)))) := (blk_cell BK858.out 1).trans rfl
                          have hfz66_0 := blk_frozen BK858.out 0
                          have hfz66_1 := blk_frozen BK858.out 1
                          obtain ⟨Ao67, co67, eo67⟩ := Kd.R_slice HO_14.out
                          subst eo67
                          go_wp2_with (first | ((with_reducible refine gate_callee (f := 33) rfl ?_); refine goesL_ (some 113) rfl rfl Try.func33 (by kernel_rfl) rfl #[.int .i64 a0, .slice A1_0 l1_0.length c1_0, .slice (some ad856) l1_1.length c1_1, .agg #[.int .u64 0, .int .u64 (IntKind.u64.wrap (Int.tmod x12_5 (rd y852 a0)))], .slice Ao67 x14_6.length co67] rfl (by (try simp only [List.map_toArray, List.map_cons, List.map_nil]); first | done | rfl | (simp only [List.length_drop, List.length_take]; rfl)) ?_; (with_reducible refine (zero_Sum.calls k6 a0 _ _ l1_0 _ _ l1_1 0 (IntKind.u64.wrap (Int.tmod x12_5 (rd y852 a0))) _ _ x14_6 t862 t863 t864 _ ?side1 ?side2 ?side3 ?side4 ?side5 ?side6 A52.out).mono ?_); (case side1 => repeat (first | exact (Kd.C_below HR1_0.out HB.out) | (with_reducible refine Kd.C_alloc ?_ _) | (with_reducible refine Kd.C_drewN ?_ _) | (with_reducible refine Kd.C_drew ?_))); (case side2 => exact HC1_0.out); (case side3 => repeat (first | exact (Kd.C_below HR1_1.out HB.out) | (with_reducible refine Kd.C_alloc ?_ _) | (with_reducible refine Kd.C_drewN ?_ _) | (with_reducible refine Kd.C_drew ?_))); (case side4 => exact HC1_1.out); (case side5 => repeat (first | exact (Kd.R_reads' HO_14.out).2.2 | (with_reducible refine Kd.C_alloc ?_ _) | (with_reducible refine Kd.C_drewN ?_ _) | (with_reducible refine Kd.C_drew ?_))); (case side6 => exact (Kd.R_reads' HO_14.out).2.1); rintro e w68 ⟨rfl, hb⟩; refine ⟨_, rfl, ?_⟩; have n0_ := Aside0.mk (Kd.R_below (by exact rF HO_14.out) hb); have n1_ := Aside0.mk (blk_below (g := gb845) (o := .cells #[.slice A1_0 l1_0.length c1_0, .slice (some ad856) l1_1.length c1_1] 59 (0, 0)) (by exact bF BK845.out) hb); have n2_ := Aside0.mk (blk_below (g := gb858) (o := .cells #[.int .u64 0, .int .u64 (IntKind.u64.wrap (Int.tmod x12_5 (rd y852 a0)))] 28 (0, 0)) (by exact bF BK858.out) hb); have n3_ := Aside0.mk (below_step (by repeat (first | (with_reducible first | exact HB.out | apply bA | apply bN | apply bD | refine bS ?_ GE845.out | refine bS ?_ GE858.out) | exact HB.out)) hb); clear HO_14; clear BK845; clear BK858; clear HB; have HO_14 := n0_; have BK845 := n1_; have BK858 := n2_; have HB := n3_; clear n0_ n1_ n2_ n3_; (try clear hb); (try clear hb2); (try clear hk); (try clear hi)) | ((with_reducible refine gate_dst (N := 17) rfl ?_); (try (refine gate_guard (by rfl) ?_; dsimp only)); refine box_event ?hg (N := 17) ?hd (cs := #[.int .u64 0, .int .u64 0]) (t := 28) ?hr ?_; (case hd => rfl); (case hg => rfl); (case hr => first | (go_simp; done) | (go_simp; rfl)); intro gb865 hg w69 hbox hb; have n0_ := Aside0.mk (Kd.R_below (Kd.R_elderB (by exact rF HO_14.out) gb865 (Nat.le_of_eq hg.symm)) hb); have n1_ := Aside0.mk (blk_below (g := gb845) (o := .cells #[.slice A1_0 l1_0.length c1_0, .slice (some ad856) l1_1.length c1_1] 59 (0, 0)) (by exact bF BK845.out) hb); have n2_ := Aside0.mk (blk_below (g := gb858) (o := .cells #[.int .u64 0, .int .u64 (IntKind.u64.wrap (Int.tmod x12_5 (rd y852 a0)))] 28 (0, 0)) (by exact bF BK858.out) hb); have n3_ := Aside0.mk (below_step (by repeat (first | (with_reducible first | exact HB.out | apply bA | apply bN | apply bD | refine bS ?_ GE845.out | refine bS ?_ GE858.out) | exact HB.out)) hb); have n4_ := Aside0.mk (hbox); have n5_ := Aside0.mk ((by rw [hg]; exact (below_size (by repeat (first | (with_reducible first | exact HB.out | apply bA | apply bN | apply bD | refine bS ?_ GE845.out | refine bS ?_ GE858.out) | exact HB.out))) : w.heap.size ≤ gb865)); have n6_ := Aside0.mk ((by rw [hg]; exact (below_size (by repeat (first | (with_reducible first | exact HB.out | apply bA | apply bN | apply bD | refine bS ?_ GE845.out | refine bS ?_ GE858.out) | exact HB.out))) : w.heap.size ≤ gb865)); have n7_ := Aside0.mk ((by rw [hg]; exact Nat.ne_of_lt (blk_lt (g := gb845) (o := .cells #[.slice A1_0 l1_0.length c1_0, .slice (some ad856) l1_1.length c1_1] 59 (0, 0)) (by exact bF BK845.out)) : gb845 ≠ gb865)); have n8_ := Aside0.mk ((by rw [hg]; exact Nat.ne_of_gt (blk_lt (g := gb845) (o := .cells #[.slice A1_0 l1_0.length c1_0, .slice (some ad856) l1_1.length c1_1] 59 (0, 0)) (by exact bF BK845.out)) : gb865 ≠ gb845)); have n9_ := Aside0.mk ((by rw [hg]; exact Nat.ne_of_lt (blk_lt (g := gb858) (o := .cells #[.int .u64 0, .int .u64 (IntKind.u64.wrap (Int.tmod x12_5 (rd y852 a0)))] 28 (0, 0)) (by exact bF BK858.out)) : gb858 ≠ gb865)); have n10_ := Aside0.mk ((by rw [hg]; exact Nat.ne_of_gt (blk_lt (g := gb858) (o := .cells #[.int .u64 0, .int .u64 (IntKind.u64.wrap (Int.tmod x12_5 (rd y852 a0)))] 28 (0, 0)) (by exact bF BK858.out)) : gb865 ≠ gb858)); clear HO_14; clear BK845; clear BK858; clear HB; have HO_14 := n0_; have BK845 := n1_; have BK858 := n2_; have HB := n3_; have BK865 := n4_; have GW865 := n5_; have GE865 := n6_; have NB845_865 := n7_; have NB865_845 := n8_; have NB858_865 := n9_; have NB865_858 := n10_; clear n0_ n1_ n2_ n3_ n4_ n5_ n6_ n7_ n8_ n9_ n10_; clear hb hbox hg; have hnb70 := NB865_845.out; have hnc70 := NB845_865.out; have hnb71 := NB865_858.out; have hnc71 := NB858_865.out; have hcz72_0 : w69.cell? ⟨gb865, 0, none⟩ = some (.int .u64 0) := (blk_cell BK865.out 0).trans rfl; have hcz72_1 : w69.cell? ⟨gb865, 1, none⟩ = some (.int .u64 0) := (blk_cell BK865.out 1).trans rfl; have hfz72_0 := blk_frozen BK865.out 0; have hfz72_1 := blk_frozen BK865.out 1))
                          go_roundg k6
                          case measure => have := HJ2.out; have := HJ22.out; have := HK3.out; have := HK4.out; have := HK5.out; have := HK6.out; omega
                          case rel => exact ⟨(x10_5), (wrap64 (x12_5 + 1)), (by first | rfl | (simp; done) | (simp [*]; done)), (by first | rfl | (simp; done) | (simp [*]; done)), H', ⟨by have := HJ2.out; have := HJ22.out; have := HK3.out; have := HK4.out; have := HK5.out; have := HK6.out; omega⟩, ⟨by (with_reducible repeat (first | refine blk_drewN ?_ _ | refine blk_drew ?_ | refine blk_alloc ?_ _)); refine blk_far ?_ NB845_865.out _; (with_reducible repeat (first | refine blk_drewN ?_ _ | refine blk_drew ?_ | refine blk_alloc ?_ _)); refine blk_far ?_ NB845_865.out _; exact bF BK845.out⟩, ⟨by repeat (first | (with_reducible first | exact HB.out | apply bA | apply bN | apply bD | refine bS ?_ GE845.out | refine bS ?_ GE858.out | refine bS ?_ GE865.out) | exact HB.out)⟩⟩
                        ·rw [if_neg c53] at H
                         have c53b0 : (t864 == 0) = false := beq_eq_false_iff_ne.mpr c53
                         have c53b1 : (t864 != 0) = true := bne_iff_ne.mpr c53
                         replace H := Option.bind_eq_some_iff.mp H
                         obtain ⟨t866, A730, H⟩ := H
                         replace H : (some t866) = some r := H
                         have A73 := Aside0.mk A730
                         clear A730
                         obtain rfl := Option.some.inj H
                         have hnb74 := NB845_858.out
                         have hnc74 := NB858_845.out
                         have hcz75_0 : wr.cell? ⟨gb845, 0, none⟩ = some (.slice A1_0 l1_0.length c1_0) := (blk_cell BK845.out 0).trans rfl
                         have hcz75_1 : wr.cell? ⟨gb845, 1, none⟩ = some (.slice (some ad856) l1_1.length c1_1) := (blk_cell BK845.out 1).trans rfl
                         have hfz75_0 := blk_frozen BK845.out 0
                         have hfz75_1 := blk_frozen BK845.out 1
                         have hcz76_0 : wr.cell? ⟨gb858, 0, none⟩ = some (.int .u64 0) := (blk_cell BK858.out 0).trans rfl
                         have hcz76_1 : wr.cell? ⟨gb858, 1, none⟩ = some (.int .u64 (IntKind.u64.wrap (Int.tmod x12_5 (rd y852 a0)))) := (blk_cell BK858.out 1).trans rfl
                         have hfz76_0 := blk_frozen BK858.out 0
                         have hfz76_1 := blk_frozen BK858.out 1
                         obtain ⟨Ao77, co77, eo77⟩ := Kd.R_slice HO_14.out
                         subst eo77
                         go_wp2_with (first | ((with_reducible refine gate_callee (f := 33) rfl ?_); refine goesL_ (some 113) rfl rfl Try.func33 (by kernel_rfl) rfl #[.int .i64 a0, .slice A1_0 l1_0.length c1_0, .slice (some ad856) l1_1.length c1_1, .agg #[.int .u64 0, .int .u64 (IntKind.u64.wrap (Int.tmod x12_5 (rd y852 a0)))], .slice Ao77 x14_6.length co77] rfl (by (try simp only [List.map_toArray, List.map_cons, List.map_nil]); first | done | rfl | (simp only [List.length_drop, List.length_take]; rfl)) ?_; (with_reducible refine (zero_Sum.calls k6 a0 _ _ l1_0 _ _ l1_1 0 (IntKind.u64.wrap (Int.tmod x12_5 (rd y852 a0))) _ _ x14_6 t862 t863 t864 _ ?side1 ?side2 ?side3 ?side4 ?side5 ?side6 A52.out).mono ?_); (case side1 => repeat (first | exact (Kd.C_below HR1_0.out HB.out) | (with_reducible refine Kd.C_alloc ?_ _) | (with_reducible refine Kd.C_drewN ?_ _) | (with_reducible refine Kd.C_drew ?_))); (case side2 => exact HC1_0.out); (case side3 => repeat (first | exact (Kd.C_below HR1_1.out HB.out) | (with_reducible refine Kd.C_alloc ?_ _) | (with_reducible refine Kd.C_drewN ?_ _) | (with_reducible refine Kd.C_drew ?_))); (case side4 => exact HC1_1.out); (case side5 => repeat (first | exact (Kd.R_reads' HO_14.out).2.2 | (with_reducible refine Kd.C_alloc ?_ _) | (with_reducible refine Kd.C_drewN ?_ _) | (with_reducible refine Kd.C_drew ?_))); (case side6 => exact (Kd.R_reads' HO_14.out).2.1); rintro e w78 ⟨rfl, hb⟩; refine ⟨_, rfl, ?_⟩; have n0_ := Aside0.mk (Kd.R_below (by exact rF HO_14.out) hb); have n1_ := Aside0.mk (blk_below (g := gb845) (o := .cells #[.slice A1_0 l1_0.length c1_0, .slice (some ad856) l1_1.length c1_1] 59 (0, 0)) (by exact bF BK845.out) hb); have n2_ := Aside0.mk (blk_below (g := gb858) (o := .cells #[.int .u64 0, .int .u64 (IntKind.u64.wrap (Int.tmod x12_5 (rd y852 a0)))] 28 (0, 0)) (by exact bF BK858.out) hb); have n3_ := Aside0.mk (below_step (by repeat (first | (with_reducible first | exact HB.out | apply bA | apply bN | apply bD | refine bS ?_ GE845.out | refine bS ?_ GE858.out) | exact HB.out)) hb); clear HO_14; clear BK845; clear BK858; clear HB; have HO_14 := n0_; have BK845 := n1_; have BK858 := n2_; have HB := n3_; clear n0_ n1_ n2_ n3_; (try clear hb); (try clear hb2); (try clear hk); (try clear hi)) | ((with_reducible refine gate_dst (N := 17) rfl ?_); (try (refine gate_guard (by rfl) ?_; dsimp only)); refine box_event ?hg (N := 17) ?hd (cs := #[.int .u64 0, .int .u64 0]) (t := 28) ?hr ?_; (case hd => rfl); (case hg => rfl); (case hr => first | (go_simp; done) | (go_simp; rfl)); intro gb865 hg w79 hbox hb; have n0_ := Aside0.mk (Kd.R_below (Kd.R_elderB (by exact rF HO_14.out) gb865 (Nat.le_of_eq hg.symm)) hb); have n1_ := Aside0.mk (blk_below (g := gb845) (o := .cells #[.slice A1_0 l1_0.length c1_0, .slice (some ad856) l1_1.length c1_1] 59 (0, 0)) (by exact bF BK845.out) hb); have n2_ := Aside0.mk (blk_below (g := gb858) (o := .cells #[.int .u64 0, .int .u64 (IntKind.u64.wrap (Int.tmod x12_5 (rd y852 a0)))] 28 (0, 0)) (by exact bF BK858.out) hb); have n3_ := Aside0.mk (below_step (by repeat (first | (with_reducible first | exact HB.out | apply bA | apply bN | apply bD | refine bS ?_ GE845.out | refine bS ?_ GE858.out) | exact HB.out)) hb); have n4_ := Aside0.mk (hbox); have n5_ := Aside0.mk ((by rw [hg]; exact (below_size (by repeat (first | (with_reducible first | exact HB.out | apply bA | apply bN | apply bD | refine bS ?_ GE845.out | refine bS ?_ GE858.out) | exact HB.out))) : w.heap.size ≤ gb865)); have n6_ := Aside0.mk ((by rw [hg]; exact (below_size (by repeat (first | (with_reducible first | exact HB.out | apply bA | apply bN | apply bD | refine bS ?_ GE845.out | refine bS ?_ GE858.out) | exact HB.out))) : w.heap.size ≤ gb865)); have n7_ := Aside0.mk ((by rw [hg]; exact Nat.ne_of_lt (blk_lt (g := gb845) (o := .cells #[.slice A1_0 l1_0.length c1_0, .slice (some ad856) l1_1.length c1_1] 59 (0, 0)) (by exact bF BK845.out)) : gb845 ≠ gb865)); have n8_ := Aside0.mk ((by rw [hg]; exact Nat.ne_of_gt (blk_lt (g := gb845) (o := .cells #[.slice A1_0 l1_0.length c1_0, .slice (some ad856) l1_1.length c1_1] 59 (0, 0)) (by exact bF BK845.out)) : gb865 ≠ gb845)); have n9_ := Aside0.mk ((by rw [hg]; exact Nat.ne_of_lt (blk_lt (g := gb858) (o := .cells #[.int .u64 0, .int .u64 (IntKind.u64.wrap (Int.tmod x12_5 (rd y852 a0)))] 28 (0, 0)) (by exact bF BK858.out)) : gb858 ≠ gb865)); have n10_ := Aside0.mk ((by rw [hg]; exact Nat.ne_of_gt (blk_lt (g := gb858) (o := .cells #[.int .u64 0, .int .u64 (IntKind.u64.wrap (Int.tmod x12_5 (rd y852 a0)))] 28 (0, 0)) (by exact bF BK858.out)) : gb865 ≠ gb858)); clear HO_14; clear BK845; clear BK858; clear HB; have HO_14 := n0_; have BK845 := n1_; have BK858 := n2_; have HB := n3_; have BK865 := n4_; have GW865 := n5_; have GE865 := n6_; have NB845_865 := n7_; have NB865_845 := n8_; have NB858_865 := n9_; have NB865_858 := n10_; clear n0_ n1_ n2_ n3_ n4_ n5_ n6_ n7_ n8_ n9_ n10_; clear hb hbox hg; have hnb80 := NB865_845.out; have hnc80 := NB845_865.out; have hnb81 := NB865_858.out; have hnc81 := NB858_865.out; have hcz82_0 : w79.cell? ⟨gb865, 0, none⟩ = some (.int .u64 0) := (blk_cell BK865.out 0).trans rfl; have hcz82_1 : w79.cell? ⟨gb865, 1, none⟩ = some (.int .u64 0) := (blk_cell BK865.out 1).trans rfl; have hfz82_0 := blk_frozen BK865.out 0; have hfz82_1 := blk_frozen BK865.out 1) | ((with_reducible refine gate_callee (f := 29) rfl ?_); refine goesL_ (some 118) rfl rfl Try.func29 (by kernel_rfl) rfl #[] rfl (by (try simp only [List.map_toArray, List.map_cons, List.map_nil]); first | done | rfl | (simp only [List.length_drop, List.length_take]; rfl)) ?_; (with_reducible refine (steeplelaw21_awake.calls k6  t866 _ A73.out).mono ?_); rintro e w83 ⟨rfl, hb⟩; refine ⟨_, rfl, ?_⟩; have n0_ := Aside0.mk (Kd.R_below (by (with_reducible repeat (first | apply Kd.R_alloc | apply Kd.R_drewN | apply Kd.R_drew)); exact (Kd.R_mono (Kd.R_far (p := ⟨gb865, 1, none⟩) (Kd.R_far (p := ⟨gb865, 0, none⟩) (Kd.R_mono HO_14.out (fun k_ hk => (⟨hk, hk.2⟩ : _ ∧ k_ ≠ gb865))) (fun _ hk => hk.2) (.int .u64 t862)) (fun _ hk => hk.2) (.int .u64 t863)) (fun _ h_ => h_.1))) hb); have n1_ := Aside0.mk (blk_below (g := gb845) (o := .cells #[.slice A1_0 l1_0.length c1_0, .slice (some ad856) l1_1.length c1_1] 59 (0, 0)) (by (with_reducible repeat (first | refine blk_drewN ?_ _ | refine blk_drew ?_ | refine blk_alloc ?_ _)); refine blk_far ?_ NB845_865.out _; (with_reducible repeat (first | refine blk_drewN ?_ _ | refine blk_drew ?_ | refine blk_alloc ?_ _)); refine blk_far ?_ NB845_865.out _; exact bF BK845.out) hb); have n2_ := Aside0.mk (blk_below (g := gb858) (o := .cells #[.int .u64 0, .int .u64 (IntKind.u64.wrap (Int.tmod x12_5 (rd y852 a0)))] 28 (0, 0)) (by (with_reducible repeat (first | refine blk_drewN ?_ _ | refine blk_drew ?_ | refine blk_alloc ?_ _)); refine blk_far ?_ NB858_865.out _; (with_reducible repeat (first | refine blk_drewN ?_ _ | refine blk_drew ?_ | refine blk_alloc ?_ _)); refine blk_far ?_ NB858_865.out _; exact bF BK858.out) hb); have n3_ := Aside0.mk (blk_below (g := gb865) (o := .cells #[.int .u64 t862, .int .u64 t863] 28 (0, 0)) (by (with_reducible repeat (first | refine blk_drewN ?_ _ | refine blk_drew ?_ | refine blk_alloc ?_ _)); refine blk_put (cs := #[.int .u64 t862, .int .u64 0]) ?_ 1 _ rfl; (with_reducible repeat (first | refine blk_drewN ?_ _ | refine blk_drew ?_ | refine blk_alloc ?_ _)); refine blk_put (cs := #[.int .u64 0, .int .u64 0]) ?_ 0 _ rfl; exact bF BK865.out) hb); have n4_ := Aside0.mk (below_step (by repeat (first | (with_reducible first | exact HB.out | apply bA | apply bN | apply bD | refine bS ?_ GE845.out | refine bS ?_ GE858.out | refine bS ?_ GE865.out) | exact HB.out)) hb); clear HO_14; clear BK845; clear BK858; clear BK865; clear HB; have HO_14 := n0_; have BK845 := n1_; have BK858 := n2_; have BK865 := n3_; have HB := n4_; clear n0_ n1_ n2_ n3_ n4_; (try clear hb); (try clear hb2); (try clear hk); (try clear hi)))
                         go_ret
                         exact ⟨by first | rfl | (simp [errW_none, errW_some] <;> rfl) | (simp only [← hji36, ← hji38]; first | rfl | (simp [errW_none, errW_some] <;> rfl)) | (simp [*, errW_none, errW_some] <;> rfl), by repeat (first | (with_reducible first | exact HB.out | apply bA | apply bN | apply bD | refine bS ?_ GE845.out | refine bS ?_ GE858.out | refine bS ?_ GE865.out) | exact HB.out)⟩
                   ·rw [if_neg c43] at H
                    have c43b0 : decide (x12_5 < x9_4) = false := decide_eq_false c43
                    clear c43
                    replace H := Option.bind_eq_some_iff.mp H
                    obtain ⟨t857, A840, H⟩ := H
                    replace H : (if t857 = true then (if (rd y852 a0) = 0 then (none) else (some (decide (x10_5 ≤ (wrap64 ((wrap64 ((wrap64 ((l1_0.length : Int) - 1)) + x8_3)) * (wrap64 (Int.tdiv x9_4 (rd y852 a0))))))))) else (some false)) = some r := H
                    have A84 := Aside0.mk A840
                    clear A840
                    by_cases c85 : t857 = true
                    ·subst c85
                     have H1 : (if (rd y852 a0) = 0 then (none) else (some (decide (x10_5 ≤ (wrap64 ((wrap64 ((wrap64 ((l1_0.length : Int) - 1)) + x8_3)) * (wrap64 (Int.tdiv x9_4 (rd y852 a0))))))))) = some r := by rw [if_pos rfl] at H; exact H
                     clear H
                     have H := H1
                     clear H1
                     by_cases c86 : (rd y852 a0) = 0
                     ·rw [if_pos c86] at H
                      exact absurd H (by simp)
                     ·rw [if_neg c86] at H
                      have c86b0 : ((rd y852 a0) == 0) = false := beq_eq_false_iff_ne.mpr c86
                      have c86b1 : ((rd y852 a0) != 0) = true := bne_iff_ne.mpr c86
                      obtain rfl := Option.some.inj H
                      try go_wp2
                      have n0_ := Aside0.mk (blk_drew BK845.out)
                      have n1_ := Aside0.mk (below_drew1 HB.out)
                      clear BK845
                      clear HB
                      have BK845 := n0_
                      have HB := n1_
                      clear n0_ n1_
                      refine start_ (n := 16) (S := fun w' => w'.cell? ⟨gb845, 0, none⟩ = some (.slice A1_0 l1_0.length c1_0) ∧ w'.cell? ⟨gb845, 1, none⟩ = some (.slice (some ad856) l1_1.length c1_1)) (ds := []) #[false, false, false, false, false, false, false, false, false, false, false, false, false, false, false, false] (by kernel_rfl) rfl rfl ⟨(blk_cell BK845.out 0).trans rfl, (blk_cell BK845.out 1).trans rfl⟩ (fun hHeld => ?_); refine with_tabW steeplelaw21_ZeroCounts.tab31 steeplelaw21_ZeroCounts.bits31 (fun HT_ HW_ => ?_)
                      generalize wr.drew = w87 at BK845 HB hHeld ⊢
                      refine one_ (i := 0) (N := some 124) #[true, false, false, false, false, false, false, false, false, false, false, false, false, false, false, false] rfl rfl (one_of HT_.out (by kernel_rfl)) (by decide) (fun K hK => ?_)
                      refine goes_ Try.func29 (by kernel_rfl) rfl #[] (by rfl) rfl rfl (by (try simp only [List.map_toArray, List.map_cons, List.map_nil]); first | done | rfl | (simp only [List.length_drop, List.length_take]; rfl)) ?_
                      with_reducible refine (steeplelaw21_awake.calls k5  true _ A84.out).mono ?_
                      rintro e w88 ⟨rfl, hb⟩
                      refine ⟨_, rfl, ?_⟩
                      have n0_ := Aside0.mk (blk_below (g := gb845) (o := .cells #[.slice A1_0 l1_0.length c1_0, .slice (some ad856) l1_1.length c1_1] 59 (0, 0)) (by exact bF BK845.out) hb)
                      have n1_ := Aside0.mk (below_step (by repeat (first | (with_reducible first | exact HB.out | apply bA | apply bN | apply bD | refine bS ?_ GE845.out) | exact HB.out)) hb)
                      clear BK845
                      clear HB
                      have BK845 := n0_
                      have HB := n1_
                      clear n0_ n1_
                      (try clear hb)
                      (try clear hb2)
                      (try clear hk)
                      (try clear hi)
                      refine hK.out _ _ ⟨(blk_cell BK845.out 0).trans rfl, (blk_cell BK845.out 1).trans rfl⟩ (fun hHeld => ?_)
                      clear hK K
                      refine norm_ (a' := ?_) ?_ ?_
                      rotate_left
                      ·show Act.put _ (some 124) _ = _
                       simp only [Act.put, List.setIfInBounds_toArray, List.set_cons_zero, List.set_cons_succ, i64_w, i32_w]
                       rfl
                      refine pure_ (i := 1) (N := some 125) (v := ?_) (a' := ?_) #[true, true, false, false, false, false, false, false, false, false, false, false, false, false, false, false] rfl rfl (any_of HT_.out (by kernel_rfl)) (fun _ _ _ h => h) (Or.inl ⟨by rfl, ?_⟩) ?_ ?_
                      rotate_left
                      ·intro w'
                       go_simp
                       with_reducible rfl
                      rotate_left
                      ·simp only [Act.put, List.setIfInBounds_toArray, List.set_cons_zero, List.set_cons_succ, i64_w, i32_w]
                       rfl
                      refine pure_ (i := 2) (N := some 126) (v := ?_) (a' := ?_) #[true, true, true, false, false, false, false, false, false, false, false, false, false, false, false, false] rfl rfl (any_of HT_.out (by kernel_rfl)) (fun _ _ _ h => h) (Or.inl ⟨by rfl, ?_⟩) ?_ ?_
                      rotate_left
                      ·intro w'
                       go_simp
                       with_reducible rfl
                      rotate_left
                      ·simp only [Act.put, List.setIfInBounds_toArray, List.set_cons_zero, List.set_cons_succ, i64_w, i32_w]
                       rfl
                      refine pure_ (i := 3) (N := some 127) (v := ?_) (a' := ?_) #[true, true, true, true, false, false, false, false, false, false, false, false, false, false, false, false] rfl rfl (any_of HT_.out (by kernel_rfl)) (fun _ _ _ h => h) (Or.inl ⟨by rfl, ?_⟩) ?_ ?_
                      rotate_left
                      ·intro w'
                       go_simp
                       with_reducible rfl
                      rotate_left
                      ·simp only [Act.put, List.setIfInBounds_toArray, List.set_cons_zero, List.set_cons_succ, i64_w, i32_w]
                       rfl
                      refine pure_ (i := 7) (N := some 131) (v := ?_) (a' := ?_) #[true, true, true, true, false, false, false, true, false, false, false, false, false, false, false, false] rfl rfl (any_of HT_.out (by kernel_rfl)) (fun _ _ _ h => h) (Or.inl ⟨by rfl, ?_⟩) ?_ ?_
                      rotate_left
                      ·intro w'
                       go_simp
                       with_reducible rfl
                      rotate_left
                      ·simp only [Act.put, List.setIfInBounds_toArray, List.set_cons_zero, List.set_cons_succ, i64_w, i32_w]
                       rfl
                      refine pure_ (i := 9) (N := some 133) (v := ?_) (a' := ?_) #[true, true, true, true, false, false, false, true, false, true, false, false, false, false, false, false] rfl rfl (any_of HT_.out (by kernel_rfl)) (fun _ _ _ h => h) (Or.inl ⟨by rfl, ?_⟩) ?_ ?_
                      rotate_left
                      ·intro w'
                       go_simp
                       with_reducible rfl
                      rotate_left
                      ·simp only [Act.put, List.setIfInBounds_toArray, List.set_cons_zero, List.set_cons_succ, i64_w, i32_w]
                       rfl
                      refine pure_ (i := 10) (N := some 134) (v := ?_) (a' := ?_) #[true, true, true, true, false, false, false, true, false, true, true, false, false, false, false, false] rfl rfl (any_of HT_.out (by kernel_rfl)) (fun _ _ _ h => h) (Or.inl ⟨by rfl, ?_⟩) ?_ ?_
                      rotate_left
                      ·intro w'
                       go_simp
                       with_reducible rfl
                      rotate_left
                      ·simp only [Act.put, List.setIfInBounds_toArray, List.set_cons_zero, List.set_cons_succ, i64_w, i32_w]
                       rfl
                      refine pure_ (i := 11) (N := some 135) (v := ?_) (a' := ?_) #[true, true, true, true, false, false, false, true, false, true, true, true, false, false, false, false] rfl rfl (any_of HT_.out (by kernel_rfl)) (fun _ _ _ h => h) (Or.inl ⟨by rfl, ?_⟩) ?_ ?_
                      rotate_left
                      ·intro w'
                       go_simp
                       with_reducible rfl
                      rotate_left
                      ·simp only [Act.put, List.setIfInBounds_toArray, List.set_cons_zero, List.set_cons_succ, i64_w, i32_w]
                       rfl
                      refine take_ (i := 4) (N := some 128) (v := ?_) (a' := ?_) #[true, true, true, true, true, false, false, true, false, true, true, true, false, false, false, false] rfl rfl (take_ofW HT_.out HW_.out (by kernel_rfl)) (fun _ _ _ h => h) (Or.inl ⟨by rfl, ?_⟩) hHeld ?_ ?_
                      rotate_left
                      ·rintro w' ⟨s0, s1⟩
                       go_simp
                       with_reducible rfl
                      rotate_left
                      ·simp only [Act.put, List.setIfInBounds_toArray, List.set_cons_zero, List.set_cons_succ, i64_w, i32_w]
                       rfl
                      refine pure_ (i := 5) (N := some 129) (v := ?_) (a' := ?_) #[true, true, true, true, true, true, false, true, false, true, true, true, false, false, false, false] rfl rfl (any_of HT_.out (by kernel_rfl)) (fun _ _ _ h => h) (Or.inl ⟨by rfl, ?_⟩) ?_ ?_
                      rotate_left
                      ·intro w'
                       go_simp
                       with_reducible rfl
                      rotate_left
                      ·simp only [Act.put, List.setIfInBounds_toArray, List.set_cons_zero, List.set_cons_succ, i64_w, i32_w]
                       rfl
                      refine pure_ (i := 6) (N := some 130) (v := ?_) (a' := ?_) #[true, true, true, true, true, true, true, true, false, true, true, true, false, false, false, false] rfl rfl (any_of HT_.out (by kernel_rfl)) (fun _ _ _ h => h) (Or.inl ⟨by rfl, ?_⟩) ?_ ?_
                      rotate_left
                      ·intro w'
                       go_simp
                       with_reducible rfl
                      rotate_left
                      ·simp only [Act.put, List.setIfInBounds_toArray, List.set_cons_zero, List.set_cons_succ, i64_w, i32_w]
                       rfl
                      refine pure_ (i := 8) (N := some 132) (v := ?_) (a' := ?_) #[true, true, true, true, true, true, true, true, true, true, true, true, false, false, false, false] rfl rfl (any_of HT_.out (by kernel_rfl)) (fun _ _ _ h => h) (Or.inl ⟨by rfl, ?_⟩) ?_ ?_
                      rotate_left
                      ·intro w'
                       go_simp
                       with_reducible rfl
                      rotate_left
                      ·simp only [Act.put, List.setIfInBounds_toArray, List.set_cons_zero, List.set_cons_succ, i64_w, i32_w]
                       rfl
                      refine pure_ (i := 12) (N := some 136) (v := ?_) (a' := ?_) #[true, true, true, true, true, true, true, true, true, true, true, true, true, false, false, false] rfl rfl (any_of HT_.out (by kernel_rfl)) (fun _ _ _ h => h) (Or.inl ⟨by rfl, ?_⟩) ?_ ?_
                      rotate_left
                      ·intro w'
                       go_simp
                       with_reducible rfl
                      rotate_left
                      ·simp only [Act.put, List.setIfInBounds_toArray, List.set_cons_zero, List.set_cons_succ, i64_w, i32_w]
                       rfl
                      refine pure_ (i := 13) (N := some 137) (v := ?_) (a' := ?_) #[true, true, true, true, true, true, true, true, true, true, true, true, true, true, false, false] rfl rfl (any_of HT_.out (by kernel_rfl)) (fun _ _ _ h => h) (Or.inl ⟨by rfl, ?_⟩) ?_ ?_
                      rotate_left
                      ·intro w'
                       go_simp
                       with_reducible rfl
                      rotate_left
                      ·simp only [Act.put, List.setIfInBounds_toArray, List.set_cons_zero, List.set_cons_succ, i64_w, i32_w]
                       rfl
                      refine pure_ (i := 14) (N := some 138) (v := ?_) (a' := ?_) #[true, true, true, true, true, true, true, true, true, true, true, true, true, true, true, false] rfl rfl (any_of HT_.out (by kernel_rfl)) (fun _ _ _ h => h) (Or.inl ⟨by rfl, ?_⟩) ?_ ?_
                      rotate_left
                      ·intro w'
                       go_simp
                       with_reducible rfl
                      rotate_left
                      ·simp only [Act.put, List.setIfInBounds_toArray, List.set_cons_zero, List.set_cons_succ, i64_w, i32_w]
                       rfl
                      refine pure_ (i := 15) (N := some 4) (v := ?_) (a' := ?_) #[true, true, true, true, true, true, true, true, true, true, true, true, true, true, true, true] rfl rfl (any_of HT_.out (by kernel_rfl)) (fun _ _ _ h => h) (Or.inl ⟨by rfl, ?_⟩) ?_ ?_
                      rotate_left
                      ·intro w'
                       go_simp
                       with_reducible rfl
                      rotate_left
                      ·simp only [Act.put, List.setIfInBounds_toArray, List.set_cons_zero, List.set_cons_succ, i64_w, i32_w]
                       rfl
                      refine done_ (done_of HT_.out (by kernel_rfl)) ?_
                      try go_wp2
                      go_ret
                      exact ⟨by first | rfl | (simp [errW_none, errW_some] <;> rfl) | (simp only [← hji36, ← hji38]; first | rfl | (simp [errW_none, errW_some] <;> rfl)) | (simp [*, errW_none, errW_some] <;> rfl), by repeat (first | (with_reducible first | exact HB.out | apply bA | apply bN | apply bD | refine bS ?_ GE845.out) | exact HB.out)⟩
                    ·replace c85 := Bool.eq_false_iff.mpr c85
                     subst c85
                     have H1 : (some false) = some r := by rw [if_neg (show ¬ (false = true) by decide)] at H; exact H
                     clear H
                     have H := H1
                     clear H1
                     obtain rfl := Option.some.inj H
                     try go_wp2
                     have n0_ := Aside0.mk (blk_drew BK845.out)
                     have n1_ := Aside0.mk (below_drew1 HB.out)
                     clear BK845
                     clear HB
                     have BK845 := n0_
                     have HB := n1_
                     clear n0_ n1_
                     refine start_ (n := 16) (S := fun w' => True) (ds := []) #[false, false, false, false, false, false, false, false, false, false, false, false, false, false, false, false] (by kernel_rfl) rfl rfl trivial (fun hHeld => ?_); refine with_tabW steeplelaw21_ZeroCounts.tab31 steeplelaw21_ZeroCounts.bits31 (fun HT_ HW_ => ?_)
                     generalize wr.drew = w89 at BK845 HB hHeld ⊢
                     refine one_ (i := 0) (N := some 124) #[true, false, false, false, false, false, false, false, false, false, false, false, false, false, false, false] rfl rfl (one_of HT_.out (by kernel_rfl)) (by decide) (fun K hK => ?_)
                     refine goes_ Try.func29 (by kernel_rfl) rfl #[] (by rfl) rfl rfl (by (try simp only [List.map_toArray, List.map_cons, List.map_nil]); first | done | rfl | (simp only [List.length_drop, List.length_take]; rfl)) ?_
                     with_reducible refine (steeplelaw21_awake.calls k5  false _ A84.out).mono ?_
                     rintro e w90 ⟨rfl, hb⟩
                     refine ⟨_, rfl, ?_⟩
                     have n0_ := Aside0.mk (blk_below (g := gb845) (o := .cells #[.slice A1_0 l1_0.length c1_0, .slice (some ad856) l1_1.length c1_1] 59 (0, 0)) (by exact bF BK845.out) hb)
                     have n1_ := Aside0.mk (below_step (by repeat (first | (with_reducible first | exact HB.out | apply bA | apply bN | apply bD | refine bS ?_ GE845.out) | exact HB.out)) hb)
                     clear BK845
                     clear HB
                     have BK845 := n0_
                     have HB := n1_
                     clear n0_ n1_
                     (try clear hb)
                     (try clear hb2)
                     (try clear hk)
                     (try clear hi)
                     refine hK.out _ _ trivial (fun hHeld => ?_)
                     clear hK K
                     refine norm_ (a' := ?_) ?_ ?_
                     rotate_left
                     ·show Act.put _ (some 124) _ = _
                      simp only [Act.put, List.setIfInBounds_toArray, List.set_cons_zero, List.set_cons_succ, i64_w, i32_w]
                      rfl
                     refine pure_ (i := 1) (N := some 125) (v := ?_) (a' := ?_) #[true, true, false, false, false, false, false, false, false, false, false, false, false, false, false, false] rfl rfl (any_of HT_.out (by kernel_rfl)) (fun _ _ _ h => h) (Or.inl ⟨by rfl, ?_⟩) ?_ ?_
                     rotate_left
                     ·intro w'
                      go_simp
                      with_reducible rfl
                     rotate_left
                     ·simp only [Act.put, List.setIfInBounds_toArray, List.set_cons_zero, List.set_cons_succ, i64_w, i32_w]
                      rfl
                     refine pure_ (i := 2) (N := some 126) (v := undef) (a' := ?_) #[true, true, true, false, false, false, false, false, false, false, false, false, false, false, false, false] rfl rfl (any_of HT_.out (by kernel_rfl)) (fun _ _ _ h => h) (Or.inr ⟨by rfl, rfl⟩) ?_ ?_
                     rotate_left
                     ·simp only [Act.put, List.setIfInBounds_toArray, List.set_cons_zero, List.set_cons_succ, i64_w, i32_w]
                      rfl
                     refine pure_ (i := 3) (N := some 127) (v := undef) (a' := ?_) #[true, true, true, true, false, false, false, false, false, false, false, false, false, false, false, false] rfl rfl (any_of HT_.out (by kernel_rfl)) (fun _ _ _ h => h) (Or.inr ⟨by rfl, rfl⟩) ?_ ?_
                     rotate_left
                     ·simp only [Act.put, List.setIfInBounds_toArray, List.set_cons_zero, List.set_cons_succ, i64_w, i32_w]
                      rfl
                     refine pure_ (i := 4) (N := some 128) (v := undef) (a' := ?_) #[true, true, true, true, true, false, false, false, false, false, false, false, false, false, false, false] rfl rfl (any_of HT_.out (by kernel_rfl)) (fun _ _ _ h => h) (Or.inr ⟨by rfl, rfl⟩) ?_ ?_
                     rotate_left
                     ·simp only [Act.put, List.setIfInBounds_toArray, List.set_cons_zero, List.set_cons_succ, i64_w, i32_w]
                      rfl
                     refine pure_ (i := 5) (N := some 129) (v := undef) (a' := ?_) #[true, true, true, true, true, true, false, false, false, false, false, false, false, false, false, false] rfl rfl (any_of HT_.out (by kernel_rfl)) (fun _ _ _ h => h) (Or.inr ⟨by rfl, rfl⟩) ?_ ?_
                     rotate_left
                     ·simp only [Act.put, List.setIfInBounds_toArray, List.set_cons_zero, List.set_cons_succ, i64_w, i32_w]
                      rfl
                     refine pure_ (i := 6) (N := some 130) (v := undef) (a' := ?_) #[true, true, true, true, true, true, true, false, false, false, false, false, false, false, false, false] rfl rfl (any_of HT_.out (by kernel_rfl)) (fun _ _ _ h => h) (Or.inr ⟨by rfl, rfl⟩) ?_ ?_
                     rotate_left
                     ·simp only [Act.put, List.setIfInBounds_toArray, List.set_cons_zero, List.set_cons_succ, i64_w, i32_w]
                      rfl
                     refine pure_ (i := 7) (N := some 131) (v := undef) (a' := ?_) #[true, true, true, true, true, true, true, true, false, false, false, false, false, false, false, false] rfl rfl (any_of HT_.out (by kernel_rfl)) (fun _ _ _ h => h) (Or.inr ⟨by rfl, rfl⟩) ?_ ?_
                     rotate_left
                     ·simp only [Act.put, List.setIfInBounds_toArray, List.set_cons_zero, List.set_cons_succ, i64_w, i32_w]
                      rfl
                     refine pure_ (i := 8) (N := some 132) (v := undef) (a' := ?_) #[true, true, true, true, true, true, true, true, true, false, false, false, false, false, false, false] rfl rfl (any_of HT_.out (by kernel_rfl)) (fun _ _ _ h => h) (Or.inr ⟨by rfl, rfl⟩) ?_ ?_
                     rotate_left
                     ·simp only [Act.put, List.setIfInBounds_toArray, List.set_cons_zero, List.set_cons_succ, i64_w, i32_w]
                      rfl
                     refine pure_ (i := 9) (N := some 133) (v := undef) (a' := ?_) #[true, true, true, true, true, true, true, true, true, true, false, false, false, false, false, false] rfl rfl (any_of HT_.out (by kernel_rfl)) (fun _ _ _ h => h) (Or.inr ⟨by rfl, rfl⟩) ?_ ?_
                     rotate_left
                     ·simp only [Act.put, List.setIfInBounds_toArray, List.set_cons_zero, List.set_cons_succ, i64_w, i32_w]
                      rfl
                     refine pure_ (i := 10) (N := some 134) (v := undef) (a' := ?_) #[true, true, true, true, true, true, true, true, true, true, true, false, false, false, false, false] rfl rfl (any_of HT_.out (by kernel_rfl)) (fun _ _ _ h => h) (Or.inr ⟨by rfl, rfl⟩) ?_ ?_
                     rotate_left
                     ·simp only [Act.put, List.setIfInBounds_toArray, List.set_cons_zero, List.set_cons_succ, i64_w, i32_w]
                      rfl
                     refine pure_ (i := 11) (N := some 135) (v := undef) (a' := ?_) #[true, true, true, true, true, true, true, true, true, true, true, true, false, false, false, false] rfl rfl (any_of HT_.out (by kernel_rfl)) (fun _ _ _ h => h) (Or.inr ⟨by rfl, rfl⟩) ?_ ?_
                     rotate_left
                     ·simp only [Act.put, List.setIfInBounds_toArray, List.set_cons_zero, List.set_cons_succ, i64_w, i32_w]
                      rfl
                     refine pure_ (i := 12) (N := some 136) (v := undef) (a' := ?_) #[true, true, true, true, true, true, true, true, true, true, true, true, true, false, false, false] rfl rfl (any_of HT_.out (by kernel_rfl)) (fun _ _ _ h => h) (Or.inr ⟨by rfl, rfl⟩) ?_ ?_
                     rotate_left
                     ·simp only [Act.put, List.setIfInBounds_toArray, List.set_cons_zero, List.set_cons_succ, i64_w, i32_w]
                      rfl
                     refine pure_ (i := 13) (N := some 137) (v := undef) (a' := ?_) #[true, true, true, true, true, true, true, true, true, true, true, true, true, true, false, false] rfl rfl (any_of HT_.out (by kernel_rfl)) (fun _ _ _ h => h) (Or.inr ⟨by rfl, rfl⟩) ?_ ?_
                     rotate_left
                     ·simp only [Act.put, List.setIfInBounds_toArray, List.set_cons_zero, List.set_cons_succ, i64_w, i32_w]
                      rfl
                     refine pure_ (i := 14) (N := some 138) (v := ?_) (a' := ?_) #[true, true, true, true, true, true, true, true, true, true, true, true, true, true, true, false] rfl rfl (any_of HT_.out (by kernel_rfl)) (fun _ _ _ h => h) (Or.inl ⟨by rfl, ?_⟩) ?_ ?_
                     rotate_left
                     ·intro w'
                      go_simp
                      with_reducible rfl
                     rotate_left
                     ·simp only [Act.put, List.setIfInBounds_toArray, List.set_cons_zero, List.set_cons_succ, i64_w, i32_w]
                      rfl
                     refine pure_ (i := 15) (N := some 4) (v := ?_) (a' := ?_) #[true, true, true, true, true, true, true, true, true, true, true, true, true, true, true, true] rfl rfl (any_of HT_.out (by kernel_rfl)) (fun _ _ _ h => h) (Or.inl ⟨by rfl, ?_⟩) ?_ ?_
                     rotate_left
                     ·intro w'
                      go_simp
                      with_reducible rfl
                     rotate_left
                     ·simp only [Act.put, List.setIfInBounds_toArray, List.set_cons_zero, List.set_cons_succ, i64_w, i32_w]
                      rfl
                     refine done_ (done_of HT_.out (by kernel_rfl)) ?_
                     try go_wp2
                     go_ret
                     exact ⟨by first | rfl | (simp [errW_none, errW_some] <;> rfl) | (simp only [← hji36, ← hji38]; first | rfl | (simp [errW_none, errW_some] <;> rfl)) | (simp [*, errW_none, errW_some] <;> rfl), by repeat (first | (with_reducible first | exact HB.out | apply bA | apply bN | apply bD | refine bS ?_ GE845.out) | exact HB.out)⟩
            ·rw [if_neg c37] at H
             exact absurd H (by simp)
           ·rw [if_neg c35] at H
            exact absurd H (by simp)
        ·rw [if_neg c31] at H
         exact absurd H (by simp)
       ·rw [if_neg c30] at H
        exact absurd H (by simp)
end Go.Proofs.Ytoaepfgfbfgcdaa.Q
namespace Go.Proofs.Ytoaepfgfbfgcdaa.Q
open Go.RowKit Go.Proofs.YtoaepfgfbfgcdaaW.PrintWords Go.Proofs.YtoaepfgfbfgcdaaW.PrintLast Go.Proofs.YtoaepfgfbfgcdaaW.PrintMore
def Ev {α : Type} (f : Nat → Option α) (r : α) : Prop := ∃ k, ∀ m, k ≤ m → f m = some r
theorem Ev.const {α : Type} {o : Option α} {r : α} (h : o = some r) : Ev (fun _ => o) r := ⟨0, fun _ _ => h⟩
theorem Ev.pure {α : Type} (r : α) : Ev (fun _ => some r) r := ⟨0, fun _ _ => rfl⟩
theorem Ev.succ {α : Type} {f : Nat → Option α} {r : α} (h : Ev (fun k => f (k + 1)) r) : Ev f r := by
 obtain ⟨k, hk⟩ := h
 refine ⟨k + 1, fun m hm => ?_⟩
 obtain ⟨j, rfl⟩ : ∃ j, m = j + 1 := ⟨m - 1, by omega⟩
 exact hk j (by omega)
theorem Ev.bind {α β : Type} {f : Nat → Option α} {g : Nat → α → Option β} {a : α} {r : β} (h : Ev f a) (h2 : Ev (fun k => g k a) r) : Ev (fun k => (f k).bind (g k)) r := by
 obtain ⟨k, hk⟩ := h
 obtain ⟨j, hj⟩ := h2
 refine ⟨max k j, fun m hm => ?_⟩
 show (f m).bind (g m) = some r
 rw [hk m (Nat.le_trans (Nat.le_max_left _ _) hm)]
 exact hj m (Nat.le_trans (Nat.le_max_right _ _) hm)
theorem Ev.pos {α : Type} {c : Prop} [Decidable c] {f g : Nat → Option α} {r : α} (hc : c) (h : Ev f r) : Ev (fun k => if c then f k else g k) r := by
 obtain ⟨k, hk⟩ := h
 exact ⟨k, fun m hm => by show (if c then f m else g m) = _; rw [if_pos hc]; exact hk m hm⟩
theorem Ev.neg {α : Type} {c : Prop} [Decidable c] {f g : Nat → Option α} {r : α} (hc : ¬ c) (h : Ev g r) : Ev (fun k => if c then f k else g k) r := by
 obtain ⟨k, hk⟩ := h
 exact ⟨k, fun m hm => by show (if c then f m else g m) = _; rw [if_neg hc]; exact hk m hm⟩
theorem Ev.ite {α : Type} {c : Prop} [Decidable c] {f g : Nat → Option α} {r s : α} (h1 : c → Ev f r) (h2 : ¬ c → Ev g s) : Ev (fun k => if c then f k else g k) (if c then r else s) := by
 by_cases hc : c
 ·rw [if_pos hc]; exact Ev.pos hc (h1 hc)
 ·rw [if_neg hc]; exact Ev.neg hc (h2 hc)
theorem Ev.get {α : Type} {f : Nat → Option α} {r : α} (h : Ev f r) : ∃ k, f k = some r := ⟨h.choose, h.choose_spec _ (Nat.le_refl _)⟩
theorem Ev.uniq {α : Type} {f : Nat → Option α} {r s : α} (h : Ev f r) (h2 : Ev f s) : r = s := by
 obtain ⟨k, hk⟩ := h
 obtain ⟨j, hj⟩ := h2
 exact Option.some.inj ((hk (max k j) (Nat.le_max_left _ _)).symm.trans (hj (max k j) (Nat.le_max_right _ _)))
theorem Ev.of_mono {α : Type} {f : Nat → Option α} {r : α} (hm : ∀ k, LeO (f k) (f (k + 1))) (k : Nat) (h : f k = some r) : Ev f r := by
 refine ⟨k, fun m hkm => ?_⟩
 obtain ⟨d, rfl⟩ : ∃ d, m = k + d := ⟨m - k, by omega⟩
 clear hkm
 induction d with
 | zero => exact h
 | succ d ih => exact hm (k + d) r ih
theorem Ev.congr {α : Type} {f : Nat → Option α} {r s : α} (h : Ev f r) (e : r = s) : Ev f s := e ▸ h
theorem w64_succ {n : Nat} (h : n < 9223372036854775807) : wrap64 ((n : Int) + 1) = ((n + 1 : Nat) : Int) := by
 unfold wrap64; omega
theorem w64_id {n : Int} (h0 : -9223372036854775808 ≤ n) (h1 : n < 9223372036854775808) : wrap64 n = n := by
 unfold wrap64; omega
theorem getD_part {α : Type} (pre : List α) (x z : α) (r : List α) : (pre ++ x :: r).getD ((pre.length : Int)).toNat z = x := by
 simp
theorem lt_part {α : Type} (pre : List α) (x : α) (r : List α) : (pre.length : Int) < ((pre ++ x :: r).length : Int) := by
 simp; omega
theorem ge_part {α : Type} (pre : List α) : ¬ (pre.length : Int) < ((pre ++ ([] : List α)).length : Int) := by simp
def hiW (n : Nat) (x : Int) : Int := shr .u64 x (2 ^ n : Nat)
def loW (n : Nat) (x : Int) : Int := Go.bits .and .u64 x (2 ^ (2 ^ n) - 1 : Nat)
def joinW (n : Nat) (h l : Int) : Int := Go.bits .or .u64 (shl .u64 h (2 ^ n : Nat)) l
theorem below6 {n : Nat} (h : n < 6) : n = 0 ∨ n = 1 ∨ n = 2 ∨ n = 3 ∨ n = 4 ∨ n = 5 := by omega
theorem amount (n : Nat) (h : n < 6) : shl .i64 1 (wrap64 (((n + 1 : Nat) : Int) - 1)) = ((2 ^ n : Nat) : Int) ∧ shl .u64 1 (wrap64 (((n + 1 : Nat) : Int) - 1)) = ((2 ^ n : Nat) : Int) ∧ IntKind.u64.wrap (shl .u64 1 ((2 ^ n : Nat) : Int) - 1) = ((2 ^ (2 ^ n) - 1 : Nat) : Int) ∧ 0 ≤ wrap64 (((n + 1 : Nat) : Int) - 1) ∧ (0 : Int) ≤ ((2 ^ n : Nat) : Int) := by
 rcases below6 h with rfl | rfl | rfl | rfl | rfl | rfl <;> decide +kernel
theorem halves_eq (n : Nat) (h : n < 6) (x : Int) : tower_halves.f ((n + 1 : Nat) : Int) x = some (hiW n x, loW n x) := by
 obtain ⟨e1, e2, e3, e4, e5⟩ := amount n h
 unfold tower_halves.f
 rw [if_pos e4, e1, if_pos e5, e3]
 rfl
theorem join_eq (n : Nat) (h : n < 6) (a b : Int) : tower_join.f ((n + 1 : Nat) : Int) a b = some (joinW n a b) := by
 obtain ⟨e1, e2, e3, e4, e5⟩ := amount n h
 unfold tower_join.f
 rw [if_pos e4, e2]
 rfl
theorem w64_pred (n : Nat) (h : n < 6) : wrap64 (((n + 1 : Nat) : Int) - 1) = (n : Int) := by
 unfold wrap64; omega
def mulXS : Nat → Int → Int
 | 0, x => x
 | n + 1, x => joinW n (Go.bits .xor .u64 (loW n x) (mulXS n (hiW n x))) (hiW n x)
theorem mulX_ev : ∀ (n : Nat), n ≤ 6 → ∀ x, Ev (fun k => tower_mulX.f k (n : Int) x) (mulXS n x)
 | 0, _, x => by
  refine Ev.succ ?_
  simp only [tower_mulX.f]
  exact Ev.pos rfl (Ev.pure _)
 | n + 1, h, x => by
  refine Ev.succ ?_
  simp only [tower_mulX.f, halves_eq n (by omega), join_eq n (by omega), w64_pred n (by omega), Option.bind_some]
  exact Ev.neg (by omega) (Ev.bind (mulX_ev n (by omega) _) (Ev.pure _))
def mulS : Nat → Int → Int → Int
 | 0, a, b => Go.bits .and .u64 (Go.bits .and .u64 a b) 1
 | n + 1, a, b =>
  if a = 0 ∨ b = 0 then Go.bits .and .u64 (Go.bits .and .u64 a b) 1 else
  joinW n (Go.bits .xor .u64 (Go.bits .xor .u64 (Go.bits .xor .u64 (mulS n (Go.bits .xor .u64 (hiW n a) (loW n a)) (Go.bits .xor .u64 (hiW n b) (loW n b))) (mulS n (hiW n a) (hiW n b))) (mulS n (loW n a) (loW n b))) (mulXS n (mulS n (hiW n a) (hiW n b)))) (Go.bits .xor .u64 (mulS n (loW n a) (loW n b)) (mulS n (hiW n a) (hiW n b)))
theorem mul_ev : ∀ (n : Nat), n ≤ 6 → ∀ a b, Ev (fun k => tower_mul.f k (n : Int) a b) (mulS n a b)
 | 0, _, a, b => by
  refine Ev.succ ?_
  simp only [tower_mul.f]
  refine Ev.pos (by simp) (Ev.succ ?_)
  simp only [tower_mul.j0]
  exact Ev.pos trivial (Ev.pure _)
 | n + 1, h, a, b => by
  have J : ∀ c : Bool, (c = true ↔ a = 0 ∨ b = 0) → Ev (fun k => tower_mul.j0 k ((n + 1 : Nat) : Int) a b c) (mulS (n + 1) a b) := by
   intro c hc
   refine Ev.succ ?_
   simp only [tower_mul.j0, halves_eq n (by omega), join_eq n (by omega), w64_pred n (by omega), Option.bind_some]
   rw [mulS]
   by_cases h1 : c = true
   ·exact Ev.congr (Ev.pos h1 (Ev.pure _)) (by rw [if_pos (hc.1 h1)])
   ·refine Ev.congr (Ev.neg h1 (Ev.bind (mul_ev n (by omega) _ _) (Ev.bind (mul_ev n (by omega) _ _) (Ev.bind (mul_ev n (by omega) _ _) (Ev.bind (mulX_ev n (by omega) _) (Ev.pure _)))))) (by rw [if_neg (fun x => h1 (hc.2 x))])
  refine Ev.succ ?_
  simp only [tower_mul.f]
  refine Ev.neg (by omega) ?_
  by_cases ha : a = 0
  ·exact Ev.pos ha (J _ (by simp [ha]))
  ·exact Ev.neg ha (J _ (by simp [ha]))
def MulS (level : Int) (a b : S28) : S28 :=
 if ofB level a.f0 a.f1 = true ∧ ofB level b.f0 b.f1 = true then
  (if level ≤ 6 then ⟨0, mulS level.toNat a.f1 b.f1⟩ else
   ⟨Go.bits .xor .u64 (Go.bits .xor .u64 (Go.bits .xor .u64 (mulS 6 (Go.bits .xor .u64 a.f0 a.f1) (Go.bits .xor .u64 b.f0 b.f1)) (mulS 6 a.f0 b.f0)) (mulS 6 a.f1 b.f1)) (mulXS 6 (mulS 6 a.f0 b.f0)), Go.bits .xor .u64 (mulS 6 a.f1 b.f1) (mulS 6 a.f0 b.f0)⟩)
 else ⟨0, 0⟩
theorem of_level {level h l : Int} (e : ofB level h l = true) : 0 ≤ level ∧ level ≤ 7 := by
 have hc : level < 0 ∨ 7 < level ∨ (0 ≤ level ∧ level ≤ 7) := by omega
 rcases hc with h0 | h0 | h0
 ·have e0 : ofB level h l = false := by unfold ofB; repeat rw [if_neg (by omega)]
  rw [e0] at e; cases e
 ·have e0 : ofB level h l = false := by unfold ofB; repeat rw [if_neg (by omega)]
  rw [e0] at e; cases e
 ·exact h0
theorem Mul_ev (level : Int) (a b : S28) : Ev (fun k => tower_Mul.f k level a.f0 a.f1 b.f0 b.f1) ((MulS level a b).f0, (MulS level a b).f1) := by
 have J : ∀ c : Bool, (c = true ↔ ¬ (ofB level a.f0 a.f1 = true ∧ ofB level b.f0 b.f1 = true)) → Ev (fun k => tower_Mul.j0 k level c a.f0 a.f1 b.f0 b.f1) ((MulS level a b).f0, (MulS level a b).f1) := by
  intro c hc
  refine Ev.succ ?_
  simp only [tower_Mul.j0]
  unfold MulS
  by_cases h1 : c = true
  ·exact Ev.congr (Ev.pos h1 (Ev.pure _)) (by rw [if_neg (hc.1 h1)])
  ·have h2 : ofB level a.f0 a.f1 = true ∧ ofB level b.f0 b.f1 = true := Decidable.byContradiction (fun x => h1 (hc.2 x))
   have hL := of_level h2.1
   rw [if_pos h2]
   refine Ev.neg h1 ?_
   by_cases h6 : level ≤ 6
   ·refine Ev.congr (Ev.pos h6 (Ev.bind (a := mulS level.toNat a.f1 b.f1) ?_ (Ev.pure _))) (by rw [if_pos h6])
    have := mul_ev level.toNat (by omega) a.f1 b.f1
    rwa [Int.toNat_of_nonneg hL.1] at this
   ·exact Ev.congr (Ev.neg h6 (Ev.bind (mul_ev 6 (by omega) _ _) (Ev.bind (mul_ev 6 (by omega) _ _) (Ev.bind (mul_ev 6 (by omega) _ _) (Ev.bind (mulX_ev 6 (by omega) _) (Ev.pure _)))))) (by rw [if_neg h6])
 simp only [tower_Mul.f, octet_Of.f, Option.bind_some]
 by_cases h1 : ofB level a.f0 a.f1 = true
 ·exact Ev.pos h1 (J _ (by cases h2 : ofB level b.f0 b.f1 <;> simp [h1]))
 ·exact Ev.neg h1 (J _ (by simp [h1]))
theorem and_zero_l (a : Int) : Go.bits .and .u64 0 a = 0 := by
 unfold Go.bits
 simp
 decide +kernel
theorem and_zero_r (a : Int) : Go.bits .and .u64 a 0 = 0 := by
 unfold Go.bits
 simp
 decide +kernel
theorem mulS_zero_r (n : Nat) (a : Int) : mulS n a 0 = 0 := by
 cases n with
 | zero => rw [mulS, and_zero_r, and_zero_l]
 | succ n => rw [mulS, if_pos (Or.inr rfl), and_zero_r, and_zero_l]
theorem mulS_zero_l (n : Nat) (a : Int) : mulS n 0 a = 0 := by
 cases n with
 | zero => rw [mulS, and_zero_l, and_zero_l]
 | succ n => rw [mulS, if_pos (Or.inl rfl), and_zero_l, and_zero_l]
theorem hiW_zero (n : Nat) : hiW n 0 = 0 := by simp [hiW, shr]
theorem loW_zero (n : Nat) : loW n 0 = 0 := and_zero_l _
theorem joinW_zero (n : Nat) : joinW n 0 0 = 0 := by
 unfold joinW shl
 rw [Int.zero_mul]
 decide +kernel
theorem mulXS_zero : ∀ n, mulXS n 0 = 0
 | 0 => rfl
 | n + 1 => by
  rw [mulXS, hiW_zero, loW_zero, mulXS_zero n]
  rw [show Go.bits .xor .u64 0 0 = 0 from by decide +kernel, joinW_zero]
theorem MulS_zero_r (level : Int) (a : S28) : MulS level a ⟨0, 0⟩ = ⟨0, 0⟩ := by
 unfold MulS
 simp only [mulS_zero_r, mulXS_zero, show Go.bits .xor .u64 0 0 = 0 from by decide +kernel, ite_self]
theorem MulS_zero_l (level : Int) (a : S28) : MulS level ⟨0, 0⟩ a = ⟨0, 0⟩ := by
 unfold MulS
 simp only [mulS_zero_l, mulXS_zero, show Go.bits .xor .u64 0 0 = 0 from by decide +kernel, ite_self]
end Go.Proofs.Ytoaepfgfbfgcdaa.Q
