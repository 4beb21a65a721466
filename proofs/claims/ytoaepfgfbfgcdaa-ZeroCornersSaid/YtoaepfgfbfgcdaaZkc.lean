/- Part 3 of the claim's own texts: the words and the printed functions that the proof reaches. No conditions. -/
import Derived.Test.YtoaepfgfbfgcdaaZkb
namespace Go.Proofs.Ytoaepfgfbfgcdaa.Q
open Go.RowKit Go.Proofs.YtoaepfgfbfgcdaaW.PrintWords Go.Proofs.YtoaepfgfbfgcdaaW.PrintLast Go.Proofs.YtoaepfgfbfgcdaaW.PrintMore
attribute [local go_sem] max2_int min2_int max_two min_two max_three min_three max_four min_four
set_option linter.unusedVariables false
set_option linter.unusedSimpArgs false
mutual
def tower_mul.j0 : Nat → Int → Int → Int → Bool → Option (Int)
 | 0, _, _, _, _ => none
 | k + 1, x0, x1, x2, x23 => if x23 = true then (some (Go.bits .and .u64 (Go.bits .and .u64 x1 x2) 1)) else ((tower_halves.f x0 x1).bind fun bt339 => ((tower_halves.f x0 x2).bind fun bt341 => ((tower_mul.f k (wrap64 (x0 - 1)) bt339.1 bt341.1).bind fun t343 => ((tower_mul.f k (wrap64 (x0 - 1)) bt339.2 bt341.2).bind fun t344 => ((tower_mul.f k (wrap64 (x0 - 1)) (Go.bits .xor .u64 bt339.1 bt339.2) (Go.bits .xor .u64 bt341.1 bt341.2)).bind fun t345 => ((tower_mulX.f k (wrap64 (x0 - 1)) t343).bind fun t346 => ((tower_join.f x0 (Go.bits .xor .u64 (Go.bits .xor .u64 (Go.bits .xor .u64 t345 t343) t344) t346) (Go.bits .xor .u64 t344 t343)).bind fun t347 => (some t347))))))))
def tower_mul.f : Nat → Int → Int → Int → Option (Int)
 | 0, _, _, _ => none
 | k + 1, a0, a1, a2 => if a0 = 0 then (tower_mul.j0 k a0 a1 a2 true) else (if a1 = 0 then (tower_mul.j0 k a0 a1 a2 true) else (tower_mul.j0 k a0 a1 a2 (a2 == 0)))
end
theorem tower_mul.mono_l : ∀ k, (∀ y0 y1 y2, LeO (tower_mul.f k y0 y1 y2) (tower_mul.f (k + 1) y0 y1 y2)) ∧ (∀ y0 y1 y2 y3, LeO (tower_mul.j0 k y0 y1 y2 y3) (tower_mul.j0 (k + 1) y0 y1 y2 y3))
 | 0 => ⟨fun _ _ _ r h => by simp [tower_mul.f] at h, fun _ _ _ _ r h => by simp [tower_mul.j0] at h⟩
 | k + 1 => by
  obtain ⟨ih0, ih1⟩ := tower_mul.mono_l k
  refine ⟨?_, ?_⟩
  ·intro y0 y1 y2
   unfold tower_mul.f
   repeat' first
   | (with_reducible exact ih0 _ _ _)
   | (with_reducible exact ih1 _ _ _ _)
   | (with_reducible exact tower_mulX.mono _ _ _)
   | (with_reducible exact LeO.refl _)
   | (with_reducible exact LeO.none _)
   | (with_reducible refine LeO.ite ?_ ?_)
   | (with_reducible refine LeO.bind ?_ (fun _ => ?_))
   | exact ih0 _ _ _
   | exact ih1 _ _ _ _
   | exact tower_mulX.mono _ _ _
   | exact LeO.none _
   | refine LeO.ite ?_ ?_
   | refine LeO.bind ?_ (fun _ => ?_)
  ·intro y0 y1 y2 y3
   unfold tower_mul.j0
   repeat' first
   | (with_reducible exact ih0 _ _ _)
   | (with_reducible exact ih1 _ _ _ _)
   | (with_reducible exact tower_mulX.mono _ _ _)
   | (with_reducible exact LeO.refl _)
   | (with_reducible exact LeO.none _)
   | (with_reducible refine LeO.ite ?_ ?_)
   | (with_reducible refine LeO.bind ?_ (fun _ => ?_))
   | exact ih0 _ _ _
   | exact ih1 _ _ _ _
   | exact tower_mulX.mono _ _ _
   | exact LeO.none _
   | refine LeO.ite ?_ ?_
   | refine LeO.bind ?_ (fun _ => ?_)
theorem tower_mul.mono : ∀ a0 a1 a2 k, LeO (tower_mul.f k a0 a1 a2) (tower_mul.f (k + 1) a0 a1 a2) := by
 intro a0 a1 a2 k
 obtain ⟨ih0, ih1⟩ := tower_mul.mono_l k
 exact ih0 a0 a1 a2
set_option maxHeartbeats 8000000 in
set_option maxRecDepth 100000 in
theorem tower_mul.calls (k : Nat) : ∀ (a0 : Int) (a1 : Int) (a2 : Int) (r : Int) (w : World) (h : tower_mul.f k a0 a1 a2 = some r),
  Calls Try.prog 149 #[.int .i64 a0, .int .u64 a1, .int .u64 a2] w fun e w' => e = .returned (.int .u64 r) ∧ Drawn0 w w' := by
 induction k using Nat.strongRecOn with
 | _ k ih =>
 intro a0 a1 a2 r w h
 cases k with
 | zero => exact absurd h (by simp [tower_mul.f])
 | succ k =>
 simp only [tower_mul.f] at h
 have H : (if a0 = 0 then (tower_mul.j0 k a0 a1 a2 true) else (if a1 = 0 then (tower_mul.j0 k a0 a1 a2 true) else (tower_mul.j0 k a0 a1 a2 (a2 == 0)))) = some r := h
 clear h
 have HC4 := Aside0.mk H
 clear H
 go_enter Try.func149, Try.ntmps149
 go_upto_region 1 with (fail)
 go_cut [23] (fun v23 wc => ∃ (kq : Nat) (x23_3 : Bool), v23 = .bool x23_3 ∧ Aside0 (tower_mul.j0 kq a0 a1 a2 x23_3 = some r) ∧ Aside0 (kq ≤ k) ∧ Drawn0 w wc)
 case first =>
  have H := HC4.out
  clear HC4
  by_cases c5 : a0 = 0
  ·rw [if_pos c5] at H
   have c5b0 : (a0 == 0) = true := beq_iff_eq.mpr c5
   have c5b1 : (a0 != 0) = false := bne_eq_false_iff_eq.mpr c5
   clear c5
   (first | rw [c5b0] | (simp only [i64_w, i32_w]; rw [c5b0]) | skip)
   have H' := Aside0.mk H
   clear H
   go_wp2
   go_meet
   case rel => exact ⟨_, (true), (by first | rfl | (simp; done) | (simp [*]; done)), H', ⟨by first | omega | exact Nat.le_refl _⟩, by repeat (first | exact Drawn0.refl _ | apply Drawn0.step)⟩
  ·rw [if_neg c5] at H
   have c5b0 : (a0 == 0) = false := beq_eq_false_iff_ne.mpr c5
   have c5b1 : (a0 != 0) = true := bne_iff_ne.mpr c5
   (first | rw [c5b0] | (simp only [i64_w, i32_w]; rw [c5b0]) | skip)
   by_cases c6 : a1 = 0
   ·rw [if_pos c6] at H
    have c6b0 : (a1 == 0) = true := beq_iff_eq.mpr c6
    have c6b1 : (a1 != 0) = false := bne_eq_false_iff_eq.mpr c6
    clear c6
    have H' := Aside0.mk H
    clear H
    go_wp2
    go_meet
    case rel => exact ⟨_, (true), (by first | rfl | (simp; done) | (simp [*]; done)), H', ⟨by first | omega | exact Nat.le_refl _⟩, by repeat (first | exact Drawn0.refl _ | apply Drawn0.step)⟩
   ·rw [if_neg c6] at H
    have c6b0 : (a1 == 0) = false := beq_eq_false_iff_ne.mpr c6
    have c6b1 : (a1 != 0) = true := bne_iff_ne.mpr c6
    have H' := Aside0.mk H
    clear H
    go_wp2
    go_meet
    case rel => exact ⟨_, ((a2 == 0)), (by first | rfl | (simp; done) | (simp [*]; done)), H', ⟨by first | omega | exact Nat.le_refl _⟩, by repeat (first | exact Drawn0.refl _ | apply Drawn0.step)⟩
 case rest =>
  clear HC4
  try clear c1
  try clear p2
  try clear c5
  try clear c5b0
  try clear c5b1
  try clear c6
  try clear c6b0
  try clear c6b1
  obtain ⟨kq, x23_3, rfl, HA, HJ3, ⟨mc3, rfl⟩⟩ := hcut
  cases kq with
  | zero => exact absurd HA.out (by simp [tower_mul.j0])
  | succ kj3 =>
   have H := HA.out
   clear HA
   simp only [tower_mul.j0] at H
   by_cases c7 : x23_3 = true
   ·subst c7
    have H1 : (some (Go.bits .and .u64 (Go.bits .and .u64 a1 a2) 1)) = some r := by rw [if_pos rfl] at H; exact H
    clear H
    have H := H1
    clear H1
    obtain rfl := Option.some.inj H
    go_wp2
    go_ret
    exact ⟨by first | rfl | (simp; done) | (simp [*]; done), by repeat (first | exact Drawn0.refl _ | apply Drawn0.step)⟩
   ·replace c7 := Bool.eq_false_iff.mpr c7
    subst c7
    have H1 : ((tower_halves.f a0 a1).bind fun bt339 => ((tower_halves.f a0 a2).bind fun bt341 => ((tower_mul.f kj3 (wrap64 (a0 - 1)) bt339.1 bt341.1).bind fun t343 => ((tower_mul.f kj3 (wrap64 (a0 - 1)) bt339.2 bt341.2).bind fun t344 => ((tower_mul.f kj3 (wrap64 (a0 - 1)) (Go.bits .xor .u64 bt339.1 bt339.2) (Go.bits .xor .u64 bt341.1 bt341.2)).bind fun t345 => ((tower_mulX.f kj3 (wrap64 (a0 - 1)) t343).bind fun t346 => ((tower_join.f a0 (Go.bits .xor .u64 (Go.bits .xor .u64 (Go.bits .xor .u64 t345 t343) t344) t346) (Go.bits .xor .u64 t344 t343)).bind fun t347 => (some t347)))))))) = some r := by rw [if_neg (show ¬ (false = true) by decide)] at H; exact H
    clear H
    have H := H1
    clear H1
    replace H := Option.bind_eq_some_iff.mp H
    obtain ⟨⟨t339, t340⟩, A80, H⟩ := H
    replace H : ((tower_halves.f a0 a2).bind fun bt341 => ((tower_mul.f kj3 (wrap64 (a0 - 1)) t339 bt341.1).bind fun t343 => ((tower_mul.f kj3 (wrap64 (a0 - 1)) t340 bt341.2).bind fun t344 => ((tower_mul.f kj3 (wrap64 (a0 - 1)) (Go.bits .xor .u64 t339 t340) (Go.bits .xor .u64 bt341.1 bt341.2)).bind fun t345 => ((tower_mulX.f kj3 (wrap64 (a0 - 1)) t343).bind fun t346 => ((tower_join.f a0 (Go.bits .xor .u64 (Go.bits .xor .u64 (Go.bits .xor .u64 t345 t343) t344) t346) (Go.bits .xor .u64 t344 t343)).bind fun t347 => (some t347))))))) = some r := H
    have A8 := Aside0.mk A80
    clear A80
    replace H := Option.bind_eq_some_iff.mp H
    obtain ⟨⟨t341, t342⟩, A90, H⟩ := H
    replace H : ((tower_mul.f kj3 (wrap64 (a0 - 1)) t339 t341).bind fun t343 => ((tower_mul.f kj3 (wrap64 (a0 - 1)) t340 t342).bind fun t344 => ((tower_mul.f kj3 (wrap64 (a0 - 1)) (Go.bits .xor .u64 t339 t340) (Go.bits .xor .u64 t341 t342)).bind fun t345 => ((tower_mulX.f kj3 (wrap64 (a0 - 1)) t343).bind fun t346 => ((tower_join.f a0 (Go.bits .xor .u64 (Go.bits .xor .u64 (Go.bits .xor .u64 t345 t343) t344) t346) (Go.bits .xor .u64 t344 t343)).bind fun t347 => (some t347)))))) = some r := H
    have A9 := Aside0.mk A90
    clear A90
    replace H := Option.bind_eq_some_iff.mp H
    obtain ⟨t343, A100, H⟩ := H
    replace H : ((tower_mul.f kj3 (wrap64 (a0 - 1)) t340 t342).bind fun t344 => ((tower_mul.f kj3 (wrap64 (a0 - 1)) (Go.bits .xor .u64 t339 t340) (Go.bits .xor .u64 t341 t342)).bind fun t345 => ((tower_mulX.f kj3 (wrap64 (a0 - 1)) t343).bind fun t346 => ((tower_join.f a0 (Go.bits .xor .u64 (Go.bits .xor .u64 (Go.bits .xor .u64 t345 t343) t344) t346) (Go.bits .xor .u64 t344 t343)).bind fun t347 => (some t347))))) = some r := H
    have A10 := Aside0.mk A100
    clear A100
    replace H := Option.bind_eq_some_iff.mp H
    obtain ⟨t344, A110, H⟩ := H
    replace H : ((tower_mul.f kj3 (wrap64 (a0 - 1)) (Go.bits .xor .u64 t339 t340) (Go.bits .xor .u64 t341 t342)).bind fun t345 => ((tower_mulX.f kj3 (wrap64 (a0 - 1)) t343).bind fun t346 => ((tower_join.f a0 (Go.bits .xor .u64 (Go.bits .xor .u64 (Go.bits .xor .u64 t345 t343) t344) t346) (Go.bits .xor .u64 t344 t343)).bind fun t347 => (some t347)))) = some r := H
    have A11 := Aside0.mk A110
    clear A110
    replace H := Option.bind_eq_some_iff.mp H
    obtain ⟨t345, A120, H⟩ := H
    replace H : ((tower_mulX.f kj3 (wrap64 (a0 - 1)) t343).bind fun t346 => ((tower_join.f a0 (Go.bits .xor .u64 (Go.bits .xor .u64 (Go.bits .xor .u64 t345 t343) t344) t346) (Go.bits .xor .u64 t344 t343)).bind fun t347 => (some t347))) = some r := H
    have A12 := Aside0.mk A120
    clear A120
    replace H := Option.bind_eq_some_iff.mp H
    obtain ⟨t346, A130, H⟩ := H
    replace H : ((tower_join.f a0 (Go.bits .xor .u64 (Go.bits .xor .u64 (Go.bits .xor .u64 t345 t343) t344) t346) (Go.bits .xor .u64 t344 t343)).bind fun t347 => (some t347)) = some r := H
    have A13 := Aside0.mk A130
    clear A130
    replace H := Option.bind_eq_some_iff.mp H
    obtain ⟨t347, A140, H⟩ := H
    replace H : (some t347) = some r := H
    have A14 := Aside0.mk A140
    clear A140
    obtain rfl := Option.some.inj H
    go_wp2_with (first | ((with_reducible refine gate_callee (f := 170) rfl ?_); refine goesL_ (some 31) rfl rfl Try.func170 (by kernel_rfl) rfl #[.int .i64 a0, .int .u64 a1] rfl (by (try simp only [List.map_toArray, List.map_cons, List.map_nil]); first | done | rfl | (simp only [List.length_drop, List.length_take]; rfl)) ?_; (with_reducible refine (tower_halves.calls a0 a1 t339 t340 _ A8.out).mono ?_); rintro e w' ⟨rfl, ⟨nd, rfl⟩⟩; refine ⟨_, rfl, ?_⟩) | ((with_reducible refine gate_callee (f := 170) rfl ?_); refine goesL_ (some 37) rfl rfl Try.func170 (by kernel_rfl) rfl #[.int .i64 a0, .int .u64 a2] rfl (by (try simp only [List.map_toArray, List.map_cons, List.map_nil]); first | done | rfl | (simp only [List.length_drop, List.length_take]; rfl)) ?_; (with_reducible refine (tower_halves.calls a0 a2 t341 t342 _ A9.out).mono ?_); rintro e w' ⟨rfl, ⟨nd, rfl⟩⟩; refine ⟨_, rfl, ?_⟩) | ((with_reducible refine gate_callee (f := 149) rfl ?_); refine goesL_ (some 44) rfl rfl Try.func149 (by kernel_rfl) rfl #[.int .i64 (wrap64 (a0 - 1)), .int .u64 t339, .int .u64 t341] rfl (by (try simp only [List.map_toArray, List.map_cons, List.map_nil]); first | done | rfl | (simp only [List.length_drop, List.length_take]; rfl)) ?_; (with_reducible refine (ih kj3 (by have := HJ3.out; omega) (wrap64 (a0 - 1)) t339 t341 t343 _ A10.out).mono ?_); rintro e w' ⟨rfl, ⟨nd, rfl⟩⟩; refine ⟨_, rfl, ?_⟩) | ((with_reducible refine gate_callee (f := 149) rfl ?_); refine goesL_ (some 49) rfl rfl Try.func149 (by kernel_rfl) rfl #[.int .i64 (wrap64 (a0 - 1)), .int .u64 t340, .int .u64 t342] rfl (by (try simp only [List.map_toArray, List.map_cons, List.map_nil]); first | done | rfl | (simp only [List.length_drop, List.length_take]; rfl)) ?_; (with_reducible refine (ih kj3 (by have := HJ3.out; omega) (wrap64 (a0 - 1)) t340 t342 t344 _ A11.out).mono ?_); rintro e w' ⟨rfl, ⟨nd, rfl⟩⟩; refine ⟨_, rfl, ?_⟩) | ((with_reducible refine gate_callee (f := 149) rfl ?_); refine goesL_ (some 58) rfl rfl Try.func149 (by kernel_rfl) rfl #[.int .i64 (wrap64 (a0 - 1)), .int .u64 (Go.bits .xor .u64 t339 t340), .int .u64 (Go.bits .xor .u64 t341 t342)] rfl (by (try simp only [List.map_toArray, List.map_cons, List.map_nil]); first | done | rfl | (simp only [List.length_drop, List.length_take]; rfl)) ?_; (with_reducible refine (ih kj3 (by have := HJ3.out; omega) (wrap64 (a0 - 1)) (Go.bits .xor .u64 t339 t340) (Go.bits .xor .u64 t341 t342) t345 _ A12.out).mono ?_); rintro e w' ⟨rfl, ⟨nd, rfl⟩⟩; refine ⟨_, rfl, ?_⟩) | ((with_reducible refine gate_callee (f := 150) rfl ?_); refine goesL_ (some 68) rfl rfl Try.func150 (by kernel_rfl) rfl #[.int .i64 (wrap64 (a0 - 1)), .int .u64 t343] rfl (by (try simp only [List.map_toArray, List.map_cons, List.map_nil]); first | done | rfl | (simp only [List.length_drop, List.length_take]; rfl)) ?_; (with_reducible refine (tower_mulX.calls kj3 (wrap64 (a0 - 1)) t343 t346 _ A13.out).mono ?_); rintro e w' ⟨rfl, ⟨nd, rfl⟩⟩; refine ⟨_, rfl, ?_⟩) | ((with_reducible refine gate_callee (f := 171) rfl ?_); refine goesL_ (some 73) rfl rfl Try.func171 (by kernel_rfl) rfl #[.int .i64 a0, .int .u64 (Go.bits .xor .u64 (Go.bits .xor .u64 (Go.bits .xor .u64 t345 t343) t344) t346), .int .u64 (Go.bits .xor .u64 t344 t343)] rfl (by (try simp only [List.map_toArray, List.map_cons, List.map_nil]); first | done | rfl | (simp only [List.length_drop, List.length_take]; rfl)) ?_; (with_reducible refine (tower_join.calls a0 (Go.bits .xor .u64 (Go.bits .xor .u64 (Go.bits .xor .u64 t345 t343) t344) t346) (Go.bits .xor .u64 t344 t343) t347 _ A14.out).mono ?_); rintro e w' ⟨rfl, ⟨nd, rfl⟩⟩; refine ⟨_, rfl, ?_⟩))
    go_ret
    exact ⟨by first | rfl | (simp; done) | (simp [*]; done), by repeat (first | exact Drawn0.refl _ | apply Drawn0.step)⟩
def tower_Mul.j0 : Nat → Int → Bool → Int → Int → Int → Int → Option (Int × Int)
 | 0, _, _, _, _, _, _ => none
 | k + 1, x0, x10, x349000, x349001, x350000, x350001 => if x10 = true then (some (0, 0)) else (if x0 ≤ 6 then ((tower_mul.f k x0 x349001 x350001).bind fun t353 => (some (0, t353))) else ((tower_mul.f k 6 x349000 x350000).bind fun t354 => ((tower_mul.f k 6 x349001 x350001).bind fun t355 => ((tower_mul.f k 6 (Go.bits .xor .u64 x349000 x349001) (Go.bits .xor .u64 x350000 x350001)).bind fun t356 => ((tower_mulX.f k 6 t354).bind fun t357 => (some (Go.bits .xor .u64 (Go.bits .xor .u64 (Go.bits .xor .u64 t356 t354) t355) t357, Go.bits .xor .u64 t355 t354)))))))
def tower_Mul.f (k : Nat) (a0 : Int) (a1_0 : Int) (a1_1 : Int) (a2_0 : Int) (a2_1 : Int) : Option (Int × Int) := (octet_Of.f a0 a1_0 a1_1).bind fun t351 => (if t351 = true then ((octet_Of.f a0 a2_0 a2_1).bind fun t352 => (tower_Mul.j0 k a0 (!t352) a1_0 a1_1 a2_0 a2_1)) else (tower_Mul.j0 k a0 true a1_0 a1_1 a2_0 a2_1))
theorem tower_Mul.mono_l : ∀ k, (∀ y0 y1 y2 y3 y4 y5, LeO (tower_Mul.j0 k y0 y1 y2 y3 y4 y5) (tower_Mul.j0 (k + 1) y0 y1 y2 y3 y4 y5))
 | 0 => fun _ _ _ _ _ _ r h => by simp [tower_Mul.j0] at h
 | k + 1 => by
  have ih0 := tower_Mul.mono_l k
  ·intro y0 y1 y2 y3 y4 y5
   unfold tower_Mul.j0
   repeat' first
   | (with_reducible exact ih0 _ _ _ _ _ _)
   | (with_reducible exact tower_mul.mono _ _ _ _)
   | (with_reducible exact tower_mulX.mono _ _ _)
   | (with_reducible exact LeO.refl _)
   | (with_reducible exact LeO.none _)
   | (with_reducible refine LeO.ite ?_ ?_)
   | (with_reducible refine LeO.bind ?_ (fun _ => ?_))
   | exact ih0 _ _ _ _ _ _
   | exact tower_mul.mono _ _ _ _
   | exact tower_mulX.mono _ _ _
   | exact LeO.none _
   | refine LeO.ite ?_ ?_
   | refine LeO.bind ?_ (fun _ => ?_)
theorem tower_Mul.mono : ∀ a0 a1 a2 a3 a4 k, LeO (tower_Mul.f k a0 a1 a2 a3 a4) (tower_Mul.f (k + 1) a0 a1 a2 a3 a4) := by
 intro a0 a1 a2 a3 a4 k
 have ih0 := tower_Mul.mono_l k
 unfold tower_Mul.f
 repeat' first
   | (with_reducible exact ih0 _ _ _ _ _ _)
   | (with_reducible exact tower_mul.mono _ _ _ _)
   | (with_reducible exact tower_mulX.mono _ _ _)
   | (with_reducible exact LeO.refl _)
   | (with_reducible exact LeO.none _)
   | (with_reducible refine LeO.ite ?_ ?_)
   | (with_reducible refine LeO.bind ?_ (fun _ => ?_))
   | exact ih0 _ _ _ _ _ _
   | exact tower_mul.mono _ _ _ _
   | exact tower_mulX.mono _ _ _
   | exact LeO.none _
   | refine LeO.ite ?_ ?_
   | refine LeO.bind ?_ (fun _ => ?_)
set_option maxHeartbeats 8000000 in
set_option maxRecDepth 100000 in
theorem tower_Mul.calls (k : Nat) (a0 : Int) (a1_0 : Int) (a1_1 : Int) (a2_0 : Int) (a2_1 : Int) (r1 : Int) (r2 : Int) (w : World) (h : tower_Mul.f k a0 a1_0 a1_1 a2_0 a2_1 = some (r1, r2)) :
  Calls Try.prog 114 #[.int .i64 a0, .agg #[.int .u64 a1_0, .int .u64 a1_1], .agg #[.int .u64 a2_0, .int .u64 a2_1]] w fun e w' => e = .returned (.agg #[.int .u64 r1, .int .u64 r2]) ∧ Below w.heap.size w w' := by
 have hu28 := Try.underlying28
 have HB := Aside0.mk (Below.refl w.heap.size w)
 have H : ((octet_Of.f a0 a1_0 a1_1).bind fun t351 => (if t351 = true then ((octet_Of.f a0 a2_0 a2_1).bind fun t352 => (tower_Mul.j0 k a0 (!t352) a1_0 a1_1 a2_0 a2_1)) else (tower_Mul.j0 k a0 true a1_0 a1_1 a2_0 a2_1))) = some (r1, r2) := h
 clear h
 have HC4 := Aside0.mk H
 clear H
 go_enter Try.func114, Try.ntmps114
 go_upto_region 1 with (first | ((with_reducible refine gate_dst (N := 4) rfl ?_); refine box_event ?hg (N := 4) ?hd (cs := #[.int .u64 a1_0, .int .u64 a1_1]) (t := 28) ?hr ?_; (case hd => rfl); (case hg => rfl); (case hr => first | (go_simp; done) | (go_simp; rfl)); intro gb348 hg w5 hbox hb; have n0_ := Aside0.mk (below_step (by exact lF HB.out) hb); have n1_ := Aside0.mk (hbox); have n2_ := Aside0.mk ((by rw [hg]; exact (below_size (by exact lF HB.out)) : w.heap.size ≤ gb348)); have n3_ := Aside0.mk ((by rw [hg]; exact (below_size (by exact lF HB.out)) : w.heap.size ≤ gb348)); clear HB; have HB := n0_; have BK348 := n1_; have GW348 := n2_; have GE348 := n3_; clear n0_ n1_ n2_ n3_; clear hb hbox hg) | ((with_reducible refine gate_dst (N := 5) rfl ?_); refine box_event ?hg (N := 5) ?hd (cs := #[.int .u64 a2_0, .int .u64 a2_1]) (t := 28) ?hr ?_; (case hd => rfl); (case hg => rfl); (case hr => first | (go_simp; done) | (go_simp; rfl)); intro gb349 hg w6 hbox hb; have n0_ := Aside0.mk (blk_below (g := gb348) (o := .cells #[.int .u64 a1_0, .int .u64 a1_1] 28 (0, 0)) (by exact bF BK348.out) hb); have n1_ := Aside0.mk (below_step (by repeat (first | (with_reducible first | exact HB.out | apply bA | apply bN | apply bD | refine bS ?_ GE348.out) | exact HB.out)) hb); have n2_ := Aside0.mk (hbox); have n3_ := Aside0.mk ((by rw [hg]; exact (below_size (by repeat (first | (with_reducible first | exact HB.out | apply bA | apply bN | apply bD | refine bS ?_ GE348.out) | exact HB.out))) : w.heap.size ≤ gb349)); have n4_ := Aside0.mk ((by rw [hg]; exact (below_size (by repeat (first | (with_reducible first | exact HB.out | apply bA | apply bN | apply bD | refine bS ?_ GE348.out) | exact HB.out))) : w.heap.size ≤ gb349)); have n5_ := Aside0.mk ((by rw [hg]; exact Nat.ne_of_lt (blk_lt (g := gb348) (o := .cells #[.int .u64 a1_0, .int .u64 a1_1] 28 (0, 0)) (by exact bF BK348.out)) : gb348 ≠ gb349)); have n6_ := Aside0.mk ((by rw [hg]; exact Nat.ne_of_gt (blk_lt (g := gb348) (o := .cells #[.int .u64 a1_0, .int .u64 a1_1] 28 (0, 0)) (by exact bF BK348.out)) : gb349 ≠ gb348)); clear BK348; clear HB; have BK348 := n0_; have HB := n1_; have BK349 := n2_; have GW349 := n3_; have GE349 := n4_; have NB348_349 := n5_; have NB349_348 := n6_; clear n0_ n1_ n2_ n3_ n4_ n5_ n6_; clear hb hbox hg) | ((with_reducible refine gate_dst (N := 6) rfl ?_); refine box_event ?hg (N := 6) ?hd (cs := #[.int .u64 0, .int .u64 0]) (t := 28) ?hr ?_; (case hd => rfl); (case hg => rfl); (case hr => first | (go_simp; done) | (go_simp; rfl)); intro gb350 hg w7 hbox hb; have n0_ := Aside0.mk (blk_below (g := gb348) (o := .cells #[.int .u64 a1_0, .int .u64 a1_1] 28 (0, 0)) (by exact bF BK348.out) hb); have n1_ := Aside0.mk (blk_below (g := gb349) (o := .cells #[.int .u64 a2_0, .int .u64 a2_1] 28 (0, 0)) (by exact bF BK349.out) hb); have n2_ := Aside0.mk (below_step (by repeat (first | (with_reducible first | exact HB.out | apply bA | apply bN | apply bD | refine bS ?_ GE348.out | refine bS ?_ GE349.out) | exact HB.out)) hb); have n3_ := Aside0.mk (hbox); have n4_ := Aside0.mk ((by rw [hg]; exact (below_size (by repeat (first | (with_reducible first | exact HB.out | apply bA | apply bN | apply bD | refine bS ?_ GE348.out | refine bS ?_ GE349.out) | exact HB.out))) : w.heap.size ≤ gb350)); have n5_ := Aside0.mk ((by rw [hg]; exact (below_size (by repeat (first | (with_reducible first | exact HB.out | apply bA | apply bN | apply bD | refine bS ?_ GE348.out | refine bS ?_ GE349.out) | exact HB.out))) : w.heap.size ≤ gb350)); have n6_ := Aside0.mk ((by rw [hg]; exact Nat.ne_of_lt (blk_lt (g := gb348) (o := .cells #[.int .u64 a1_0, .int .u64 a1_1] 28 (0, 0)) (by exact bF BK348.out)) : gb348 ≠ gb350)); have n7_ := Aside0.mk ((by rw [hg]; exact Nat.ne_of_gt (blk_lt (g := gb348) (o := .cells #[.int .u64 a1_0, .int .u64 a1_1] 28 (0, 0)) (by exact bF BK348.out)) : gb350 ≠ gb348)); have n8_ := Aside0.mk ((by rw [hg]; exact Nat.ne_of_lt (blk_lt (g := gb349) (o := .cells #[.int .u64 a2_0, .int .u64 a2_1] 28 (0, 0)) (by exact bF BK349.out)) : gb349 ≠ gb350)); have n9_ := Aside0.mk ((by rw [hg]; exact Nat.ne_of_gt (blk_lt (g := gb349) (o := .cells #[.int .u64 a2_0, .int .u64 a2_1] 28 (0, 0)) (by exact bF BK349.out)) : gb350 ≠ gb349)); clear BK348; clear BK349; clear HB; have BK348 := n0_; have BK349 := n1_; have HB := n2_; have BK350 := n3_; have GW350 := n4_; have GE350 := n5_; have NB348_350 := n6_; have NB350_348 := n7_; have NB349_350 := n8_; have NB350_349 := n9_; clear n0_ n1_ n2_ n3_ n4_ n5_ n6_ n7_ n8_ n9_; clear hb hbox hg))
 repeat (go_quiet (first | ((with_reducible refine gate_dst (N := 4) rfl ?_); refine box_event ?hg (N := 4) ?hd (cs := #[.int .u64 a1_0, .int .u64 a1_1]) (t := 28) ?hr ?_; (case hd => rfl); (case hg => rfl); (case hr => first | (go_simp; done) | (go_simp; rfl)); intro gb348 hg w5 hbox hb; have n0_ := Aside0.mk (below_step (by exact lF HB.out) hb); have n1_ := Aside0.mk (hbox); have n2_ := Aside0.mk ((by rw [hg]; exact (below_size (by exact lF HB.out)) : w.heap.size ≤ gb348)); have n3_ := Aside0.mk ((by rw [hg]; exact (below_size (by exact lF HB.out)) : w.heap.size ≤ gb348)); clear HB; have HB := n0_; have BK348 := n1_; have GW348 := n2_; have GE348 := n3_; clear n0_ n1_ n2_ n3_; clear hb hbox hg) | ((with_reducible refine gate_dst (N := 5) rfl ?_); refine box_event ?hg (N := 5) ?hd (cs := #[.int .u64 a2_0, .int .u64 a2_1]) (t := 28) ?hr ?_; (case hd => rfl); (case hg => rfl); (case hr => first | (go_simp; done) | (go_simp; rfl)); intro gb349 hg w6 hbox hb; have n0_ := Aside0.mk (blk_below (g := gb348) (o := .cells #[.int .u64 a1_0, .int .u64 a1_1] 28 (0, 0)) (by exact bF BK348.out) hb); have n1_ := Aside0.mk (below_step (by repeat (first | (with_reducible first | exact HB.out | apply bA | apply bN | apply bD | refine bS ?_ GE348.out) | exact HB.out)) hb); have n2_ := Aside0.mk (hbox); have n3_ := Aside0.mk ((by rw [hg]; exact (below_size (by repeat (first | (with_reducible first | exact HB.out | apply bA | apply bN | apply bD | refine bS ?_ GE348.out) | exact HB.out))) : w.heap.size ≤ gb349)); have n4_ := Aside0.mk ((by rw [hg]; exact (below_size (by repeat (first | (with_reducible first | exact HB.out | apply bA | apply bN | apply bD | refine bS ?_ GE348.out) | exact HB.out))) : w.heap.size ≤ gb349)); have n5_ := Aside0.mk ((by rw [hg]; exact Nat.ne_of_lt (blk_lt (g := gb348) (o := .cells #[.int .u64 a1_0, .int .u64 a1_1] 28 (0, 0)) (by exact bF BK348.out)) : gb348 ≠ gb349)); have n6_ := Aside0.mk ((by rw [hg]; exact Nat.ne_of_gt (blk_lt (g := gb348) (o := .cells #[.int .u64 a1_0, .int .u64 a1_1] 28 (0, 0)) (by exact bF BK348.out)) : gb349 ≠ gb348)); clear BK348; clear HB; have BK348 := n0_; have HB := n1_; have BK349 := n2_; have GW349 := n3_; have GE349 := n4_; have NB348_349 := n5_; have NB349_348 := n6_; clear n0_ n1_ n2_ n3_ n4_ n5_ n6_; clear hb hbox hg) | ((with_reducible refine gate_dst (N := 6) rfl ?_); refine box_event ?hg (N := 6) ?hd (cs := #[.int .u64 0, .int .u64 0]) (t := 28) ?hr ?_; (case hd => rfl); (case hg => rfl); (case hr => first | (go_simp; done) | (go_simp; rfl)); intro gb350 hg w7 hbox hb; have n0_ := Aside0.mk (blk_below (g := gb348) (o := .cells #[.int .u64 a1_0, .int .u64 a1_1] 28 (0, 0)) (by exact bF BK348.out) hb); have n1_ := Aside0.mk (blk_below (g := gb349) (o := .cells #[.int .u64 a2_0, .int .u64 a2_1] 28 (0, 0)) (by exact bF BK349.out) hb); have n2_ := Aside0.mk (below_step (by repeat (first | (with_reducible first | exact HB.out | apply bA | apply bN | apply bD | refine bS ?_ GE348.out | refine bS ?_ GE349.out) | exact HB.out)) hb); have n3_ := Aside0.mk (hbox); have n4_ := Aside0.mk ((by rw [hg]; exact (below_size (by repeat (first | (with_reducible first | exact HB.out | apply bA | apply bN | apply bD | refine bS ?_ GE348.out | refine bS ?_ GE349.out) | exact HB.out))) : w.heap.size ≤ gb350)); have n5_ := Aside0.mk ((by rw [hg]; exact (below_size (by repeat (first | (with_reducible first | exact HB.out | apply bA | apply bN | apply bD | refine bS ?_ GE348.out | refine bS ?_ GE349.out) | exact HB.out))) : w.heap.size ≤ gb350)); have n6_ := Aside0.mk ((by rw [hg]; exact Nat.ne_of_lt (blk_lt (g := gb348) (o := .cells #[.int .u64 a1_0, .int .u64 a1_1] 28 (0, 0)) (by exact bF BK348.out)) : gb348 ≠ gb350)); have n7_ := Aside0.mk ((by rw [hg]; exact Nat.ne_of_gt (blk_lt (g := gb348) (o := .cells #[.int .u64 a1_0, .int .u64 a1_1] 28 (0, 0)) (by exact bF BK348.out)) : gb350 ≠ gb348)); have n8_ := Aside0.mk ((by rw [hg]; exact Nat.ne_of_lt (blk_lt (g := gb349) (o := .cells #[.int .u64 a2_0, .int .u64 a2_1] 28 (0, 0)) (by exact bF BK349.out)) : gb349 ≠ gb350)); have n9_ := Aside0.mk ((by rw [hg]; exact Nat.ne_of_gt (blk_lt (g := gb349) (o := .cells #[.int .u64 a2_0, .int .u64 a2_1] 28 (0, 0)) (by exact bF BK349.out)) : gb350 ≠ gb349)); clear BK348; clear BK349; clear HB; have BK348 := n0_; have BK349 := n1_; have HB := n2_; have BK350 := n3_; have GW350 := n4_; have GE350 := n5_; have NB348_350 := n6_; have NB350_348 := n7_; have NB349_350 := n8_; have NB350_349 := n9_; clear n0_ n1_ n2_ n3_ n4_ n5_ n6_ n7_ n8_ n9_; clear hb hbox hg)); go_upto_region 1 with (first | ((with_reducible refine gate_dst (N := 4) rfl ?_); refine box_event ?hg (N := 4) ?hd (cs := #[.int .u64 a1_0, .int .u64 a1_1]) (t := 28) ?hr ?_; (case hd => rfl); (case hg => rfl); (case hr => first | (go_simp; done) | (go_simp; rfl)); intro gb348 hg w5 hbox hb; have n0_ := Aside0.mk (below_step (by exact lF HB.out) hb); have n1_ := Aside0.mk (hbox); have n2_ := Aside0.mk ((by rw [hg]; exact (below_size (by exact lF HB.out)) : w.heap.size ≤ gb348)); have n3_ := Aside0.mk ((by rw [hg]; exact (below_size (by exact lF HB.out)) : w.heap.size ≤ gb348)); clear HB; have HB := n0_; have BK348 := n1_; have GW348 := n2_; have GE348 := n3_; clear n0_ n1_ n2_ n3_; clear hb hbox hg) | ((with_reducible refine gate_dst (N := 5) rfl ?_); refine box_event ?hg (N := 5) ?hd (cs := #[.int .u64 a2_0, .int .u64 a2_1]) (t := 28) ?hr ?_; (case hd => rfl); (case hg => rfl); (case hr => first | (go_simp; done) | (go_simp; rfl)); intro gb349 hg w6 hbox hb; have n0_ := Aside0.mk (blk_below (g := gb348) (o := .cells #[.int .u64 a1_0, .int .u64 a1_1] 28 (0, 0)) (by exact bF BK348.out) hb); have n1_ := Aside0.mk (below_step (by repeat (first | (with_reducible first | exact HB.out | apply bA | apply bN | apply bD | refine bS ?_ GE348.out) | exact HB.out)) hb); have n2_ := Aside0.mk (hbox); have n3_ := Aside0.mk ((by rw [hg]; exact (below_size (by repeat (first | (with_reducible first | exact HB.out | apply bA | apply bN | apply bD | refine bS ?_ GE348.out) | exact HB.out))) : w.heap.size ≤ gb349)); have n4_ := Aside0.mk ((by rw [hg]; exact (below_size (by repeat (first | (with_reducible first | exact HB.out | apply bA | apply bN | apply bD | refine bS ?_ GE348.out) | exact HB.out))) : w.heap.size ≤ gb349)); have n5_ := Aside0.mk ((by rw [hg]; exact Nat.ne_of_lt (blk_lt (g := gb348) (o := .cells #[.int .u64 a1_0, .int .u64 a1_1] 28 (0, 0)) (by exact bF BK348.out)) : gb348 ≠ gb349)); have n6_ := Aside0.mk ((by rw [hg]; exact Nat.ne_of_gt (blk_lt (g := gb348) (o := .cells #[.int .u64 a1_0, .int .u64 a1_1] 28 (0, 0)) (by exact bF BK348.out)) : gb349 ≠ gb348)); clear BK348; clear HB; have BK348 := n0_; have HB := n1_; have BK349 := n2_; have GW349 := n3_; have GE349 := n4_; have NB348_349 := n5_; have NB349_348 := n6_; clear n0_ n1_ n2_ n3_ n4_ n5_ n6_; clear hb hbox hg) | ((with_reducible refine gate_dst (N := 6) rfl ?_); refine box_event ?hg (N := 6) ?hd (cs := #[.int .u64 0, .int .u64 0]) (t := 28) ?hr ?_; (case hd => rfl); (case hg => rfl); (case hr => first | (go_simp; done) | (go_simp; rfl)); intro gb350 hg w7 hbox hb; have n0_ := Aside0.mk (blk_below (g := gb348) (o := .cells #[.int .u64 a1_0, .int .u64 a1_1] 28 (0, 0)) (by exact bF BK348.out) hb); have n1_ := Aside0.mk (blk_below (g := gb349) (o := .cells #[.int .u64 a2_0, .int .u64 a2_1] 28 (0, 0)) (by exact bF BK349.out) hb); have n2_ := Aside0.mk (below_step (by repeat (first | (with_reducible first | exact HB.out | apply bA | apply bN | apply bD | refine bS ?_ GE348.out | refine bS ?_ GE349.out) | exact HB.out)) hb); have n3_ := Aside0.mk (hbox); have n4_ := Aside0.mk ((by rw [hg]; exact (below_size (by repeat (first | (with_reducible first | exact HB.out | apply bA | apply bN | apply bD | refine bS ?_ GE348.out | refine bS ?_ GE349.out) | exact HB.out))) : w.heap.size ≤ gb350)); have n5_ := Aside0.mk ((by rw [hg]; exact (below_size (by repeat (first | (with_reducible first | exact HB.out | apply bA | apply bN | apply bD | refine bS ?_ GE348.out | refine bS ?_ GE349.out) | exact HB.out))) : w.heap.size ≤ gb350)); have n6_ := Aside0.mk ((by rw [hg]; exact Nat.ne_of_lt (blk_lt (g := gb348) (o := .cells #[.int .u64 a1_0, .int .u64 a1_1] 28 (0, 0)) (by exact bF BK348.out)) : gb348 ≠ gb350)); have n7_ := Aside0.mk ((by rw [hg]; exact Nat.ne_of_gt (blk_lt (g := gb348) (o := .cells #[.int .u64 a1_0, .int .u64 a1_1] 28 (0, 0)) (by exact bF BK348.out)) : gb350 ≠ gb348)); have n8_ := Aside0.mk ((by rw [hg]; exact Nat.ne_of_lt (blk_lt (g := gb349) (o := .cells #[.int .u64 a2_0, .int .u64 a2_1] 28 (0, 0)) (by exact bF BK349.out)) : gb349 ≠ gb350)); have n9_ := Aside0.mk ((by rw [hg]; exact Nat.ne_of_gt (blk_lt (g := gb349) (o := .cells #[.int .u64 a2_0, .int .u64 a2_1] 28 (0, 0)) (by exact bF BK349.out)) : gb350 ≠ gb349)); clear BK348; clear BK349; clear HB; have BK348 := n0_; have BK349 := n1_; have HB := n2_; have BK350 := n3_; have GW350 := n4_; have GE350 := n5_; have NB348_350 := n6_; have NB350_348 := n7_; have NB349_350 := n8_; have NB350_349 := n9_; clear n0_ n1_ n2_ n3_ n4_ n5_ n6_ n7_ n8_ n9_; clear hb hbox hg)))
 (try simp only [Act.put, List.setIfInBounds_toArray, List.set_cons_zero, List.set_cons_succ])
 go_cut [10] (fun v10 wc => ∃ (kq : Nat) (x10_3 : Bool), v10 = .bool x10_3 ∧ Aside0 (tower_Mul.j0 kq a0 x10_3 a1_0 a1_1 a2_0 a2_1 = some (r1, r2)) ∧ Aside0 (kq ≤ k) ∧ Aside0 (wc.heap[gb348]? = some (.cells #[.int .u64 a1_0, .int .u64 a1_1] 28 (0, 0))) ∧ Aside0 (wc.heap[gb349]? = some (.cells #[.int .u64 a2_0, .int .u64 a2_1] 28 (0, 0))) ∧ Aside0 (wc.heap[gb350]? = some (.cells #[.int .u64 0, .int .u64 0] 28 (0, 0))) ∧ Aside0 (Below w.heap.size w wc))
 case first =>
  have H := HC4.out
  clear HC4
  replace H := Option.bind_eq_some_iff.mp H
  obtain ⟨t351, A80, H⟩ := H
  replace H : (if t351 = true then ((octet_Of.f a0 a2_0 a2_1).bind fun t352 => (tower_Mul.j0 k a0 (!t352) a1_0 a1_1 a2_0 a2_1)) else (tower_Mul.j0 k a0 true a1_0 a1_1 a2_0 a2_1)) = some (r1, r2) := H
  have A8 := Aside0.mk A80
  clear A80
  by_cases c9 : t351 = true
  ·subst c9
   have H1 : ((octet_Of.f a0 a2_0 a2_1).bind fun t352 => (tower_Mul.j0 k a0 (!t352) a1_0 a1_1 a2_0 a2_1)) = some (r1, r2) := by rw [if_pos rfl] at H; exact H
   clear H
   have H := H1
   clear H1
   replace H := Option.bind_eq_some_iff.mp H
   obtain ⟨t352, A100, H⟩ := H
   replace H : (tower_Mul.j0 k a0 (!t352) a1_0 a1_1 a2_0 a2_1) = some (r1, r2) := H
   have A10 := Aside0.mk A100
   clear A100
   have H' := Aside0.mk H
   clear H
   have hnb11 := NB348_349.out
   have hnc11 := NB349_348.out
   have hnb12 := NB348_350.out
   have hnc12 := NB350_348.out
   have hcz13_0 : w7.cell? ⟨gb348, 0, none⟩ = some (.int .u64 a1_0) := (blk_cell BK348.out 0).trans rfl
   have hcz13_1 : w7.cell? ⟨gb348, 1, none⟩ = some (.int .u64 a1_1) := (blk_cell BK348.out 1).trans rfl
   have hfz13_0 := blk_frozen BK348.out 0
   have hfz13_1 := blk_frozen BK348.out 1
   go_wp2_with (first | (go_at_call 81; (with_reducible refine (octet_Of.calls a0 a1_0 a1_1 true _ A8.out).mono ?_); rintro e w14 ⟨rfl, hb⟩; have n0_ := Aside0.mk (blk_below (g := gb348) (o := .cells #[.int .u64 a1_0, .int .u64 a1_1] 28 (0, 0)) (by exact bF BK348.out) hb); have n1_ := Aside0.mk (blk_below (g := gb349) (o := .cells #[.int .u64 a2_0, .int .u64 a2_1] 28 (0, 0)) (by exact bF BK349.out) hb); have n2_ := Aside0.mk (blk_below (g := gb350) (o := .cells #[.int .u64 0, .int .u64 0] 28 (0, 0)) (by exact bF BK350.out) hb); have n3_ := Aside0.mk (below_step (by repeat (first | (with_reducible first | exact HB.out | apply bA | apply bN | apply bD | refine bS ?_ GE348.out | refine bS ?_ GE349.out | refine bS ?_ GE350.out) | exact HB.out)) hb); clear BK348; clear BK349; clear BK350; clear HB; have BK348 := n0_; have BK349 := n1_; have BK350 := n2_; have HB := n3_; clear n0_ n1_ n2_ n3_; (try clear hb); (try clear hb2); (try clear hk); (try clear hi); have hnb15 := NB349_350.out; have hnc15 := NB350_349.out; have hcz16_0 : w14.cell? ⟨gb349, 0, none⟩ = some (.int .u64 a2_0) := (blk_cell BK349.out 0).trans rfl; have hcz16_1 : w14.cell? ⟨gb349, 1, none⟩ = some (.int .u64 a2_1) := (blk_cell BK349.out 1).trans rfl; have hfz16_0 := blk_frozen BK349.out 0; have hfz16_1 := blk_frozen BK349.out 1) | (go_at_call 81; (with_reducible refine (octet_Of.calls a0 a2_0 a2_1 t352 _ A10.out).mono ?_); rintro e w17 ⟨rfl, hb⟩; have n0_ := Aside0.mk (blk_below (g := gb348) (o := .cells #[.int .u64 a1_0, .int .u64 a1_1] 28 (0, 0)) (by exact bF BK348.out) hb); have n1_ := Aside0.mk (blk_below (g := gb349) (o := .cells #[.int .u64 a2_0, .int .u64 a2_1] 28 (0, 0)) (by exact bF BK349.out) hb); have n2_ := Aside0.mk (blk_below (g := gb350) (o := .cells #[.int .u64 0, .int .u64 0] 28 (0, 0)) (by exact bF BK350.out) hb); have n3_ := Aside0.mk (below_step (by repeat (first | (with_reducible first | exact HB.out | apply bA | apply bN | apply bD | refine bS ?_ GE348.out | refine bS ?_ GE349.out | refine bS ?_ GE350.out) | exact HB.out)) hb); clear BK348; clear BK349; clear BK350; clear HB; have BK348 := n0_; have BK349 := n1_; have BK350 := n2_; have HB := n3_; clear n0_ n1_ n2_ n3_; (try clear hb); (try clear hb2); (try clear hk); (try clear hi)))
   repeat (go_quiet (first | (go_at_call 81; (with_reducible refine (octet_Of.calls a0 a1_0 a1_1 true _ A8.out).mono ?_); rintro e w14 ⟨rfl, hb⟩; have n0_ := Aside0.mk (blk_below (g := gb348) (o := .cells #[.int .u64 a1_0, .int .u64 a1_1] 28 (0, 0)) (by exact bF BK348.out) hb); have n1_ := Aside0.mk (blk_below (g := gb349) (o := .cells #[.int .u64 a2_0, .int .u64 a2_1] 28 (0, 0)) (by exact bF BK349.out) hb); have n2_ := Aside0.mk (blk_below (g := gb350) (o := .cells #[.int .u64 0, .int .u64 0] 28 (0, 0)) (by exact bF BK350.out) hb); have n3_ := Aside0.mk (below_step (by repeat (first | (with_reducible first | exact HB.out | apply bA | apply bN | apply bD | refine bS ?_ GE348.out | refine bS ?_ GE349.out | refine bS ?_ GE350.out) | exact HB.out)) hb); clear BK348; clear BK349; clear BK350; clear HB; have BK348 := n0_; have BK349 := n1_; have BK350 := n2_; have HB := n3_; clear n0_ n1_ n2_ n3_; (try clear hb); (try clear hb2); (try clear hk); (try clear hi); have hnb15 := NB349_350.out; have hnc15 := NB350_349.out; have hcz16_0 : w14.cell? ⟨gb349, 0, none⟩ = some (.int .u64 a2_0) := (blk_cell BK349.out 0).trans rfl; have hcz16_1 : w14.cell? ⟨gb349, 1, none⟩ = some (.int .u64 a2_1) := (blk_cell BK349.out 1).trans rfl; have hfz16_0 := blk_frozen BK349.out 0; have hfz16_1 := blk_frozen BK349.out 1) | (go_at_call 81; (with_reducible refine (octet_Of.calls a0 a2_0 a2_1 t352 _ A10.out).mono ?_); rintro e w17 ⟨rfl, hb⟩; have n0_ := Aside0.mk (blk_below (g := gb348) (o := .cells #[.int .u64 a1_0, .int .u64 a1_1] 28 (0, 0)) (by exact bF BK348.out) hb); have n1_ := Aside0.mk (blk_below (g := gb349) (o := .cells #[.int .u64 a2_0, .int .u64 a2_1] 28 (0, 0)) (by exact bF BK349.out) hb); have n2_ := Aside0.mk (blk_below (g := gb350) (o := .cells #[.int .u64 0, .int .u64 0] 28 (0, 0)) (by exact bF BK350.out) hb); have n3_ := Aside0.mk (below_step (by repeat (first | (with_reducible first | exact HB.out | apply bA | apply bN | apply bD | refine bS ?_ GE348.out | refine bS ?_ GE349.out | refine bS ?_ GE350.out) | exact HB.out)) hb); clear BK348; clear BK349; clear BK350; clear HB; have BK348 := n0_; have BK349 := n1_; have BK350 := n2_; have HB := n3_; clear n0_ n1_ n2_ n3_; (try clear hb); (try clear hb2); (try clear hk); (try clear hi))); try go_wp2_with (first | (go_at_call 81; (with_reducible refine (octet_Of.calls a0 a1_0 a1_1 true _ A8.out).mono ?_); rintro e w14 ⟨rfl, hb⟩; have n0_ := Aside0.mk (blk_below (g := gb348) (o := .cells #[.int .u64 a1_0, .int .u64 a1_1] 28 (0, 0)) (by exact bF BK348.out) hb); have n1_ := Aside0.mk (blk_below (g := gb349) (o := .cells #[.int .u64 a2_0, .int .u64 a2_1] 28 (0, 0)) (by exact bF BK349.out) hb); have n2_ := Aside0.mk (blk_below (g := gb350) (o := .cells #[.int .u64 0, .int .u64 0] 28 (0, 0)) (by exact bF BK350.out) hb); have n3_ := Aside0.mk (below_step (by repeat (first | (with_reducible first | exact HB.out | apply bA | apply bN | apply bD | refine bS ?_ GE348.out | refine bS ?_ GE349.out | refine bS ?_ GE350.out) | exact HB.out)) hb); clear BK348; clear BK349; clear BK350; clear HB; have BK348 := n0_; have BK349 := n1_; have BK350 := n2_; have HB := n3_; clear n0_ n1_ n2_ n3_; (try clear hb); (try clear hb2); (try clear hk); (try clear hi); have hnb15 := NB349_350.out; have hnc15 := NB350_349.out; have hcz16_0 : w14.cell? ⟨gb349, 0, none⟩ = some (.int .u64 a2_0) := (blk_cell BK349.out 0).trans rfl; have hcz16_1 : w14.cell? ⟨gb349, 1, none⟩ = some (.int .u64 a2_1) := (blk_cell BK349.out 1).trans rfl; have hfz16_0 := blk_frozen BK349.out 0; have hfz16_1 := blk_frozen BK349.out 1) | (go_at_call 81; (with_reducible refine (octet_Of.calls a0 a2_0 a2_1 t352 _ A10.out).mono ?_); rintro e w17 ⟨rfl, hb⟩; have n0_ := Aside0.mk (blk_below (g := gb348) (o := .cells #[.int .u64 a1_0, .int .u64 a1_1] 28 (0, 0)) (by exact bF BK348.out) hb); have n1_ := Aside0.mk (blk_below (g := gb349) (o := .cells #[.int .u64 a2_0, .int .u64 a2_1] 28 (0, 0)) (by exact bF BK349.out) hb); have n2_ := Aside0.mk (blk_below (g := gb350) (o := .cells #[.int .u64 0, .int .u64 0] 28 (0, 0)) (by exact bF BK350.out) hb); have n3_ := Aside0.mk (below_step (by repeat (first | (with_reducible first | exact HB.out | apply bA | apply bN | apply bD | refine bS ?_ GE348.out | refine bS ?_ GE349.out | refine bS ?_ GE350.out) | exact HB.out)) hb); clear BK348; clear BK349; clear BK350; clear HB; have BK348 := n0_; have BK349 := n1_; have BK350 := n2_; have HB := n3_; clear n0_ n1_ n2_ n3_; (try clear hb); (try clear hb2); (try clear hk); (try clear hi))))
   go_meet
   case rel => exact ⟨_, (!t352), (by first | rfl | (simp; done) | (simp [*]; done)), H', ⟨by first | omega | exact Nat.le_refl _⟩, ⟨by exact bF BK348.out⟩, ⟨by exact bF BK349.out⟩, ⟨by exact bF BK350.out⟩, ⟨by repeat (first | (with_reducible first | exact HB.out | apply bA | apply bN | apply bD | refine bS ?_ GE348.out | refine bS ?_ GE349.out | refine bS ?_ GE350.out) | exact HB.out)⟩⟩
  ·replace c9 := Bool.eq_false_iff.mpr c9
   subst c9
   have H1 : (tower_Mul.j0 k a0 true a1_0 a1_1 a2_0 a2_1) = some (r1, r2) := by rw [if_neg (show ¬ (false = true) by decide)] at H; exact H
   clear H
   have H := H1
   clear H1
   have H' := Aside0.mk H
   clear H
   have hnb18 := NB348_349.out
   have hnc18 := NB349_348.out
   have hnb19 := NB348_350.out
   have hnc19 := NB350_348.out
   have hcz20_0 : w7.cell? ⟨gb348, 0, none⟩ = some (.int .u64 a1_0) := (blk_cell BK348.out 0).trans rfl
   have hcz20_1 : w7.cell? ⟨gb348, 1, none⟩ = some (.int .u64 a1_1) := (blk_cell BK348.out 1).trans rfl
   have hfz20_0 := blk_frozen BK348.out 0
   have hfz20_1 := blk_frozen BK348.out 1
   go_wp2_with (first | (go_at_call 81; (with_reducible refine (octet_Of.calls a0 a1_0 a1_1 false _ A8.out).mono ?_); rintro e w21 ⟨rfl, hb⟩; have n0_ := Aside0.mk (blk_below (g := gb348) (o := .cells #[.int .u64 a1_0, .int .u64 a1_1] 28 (0, 0)) (by exact bF BK348.out) hb); have n1_ := Aside0.mk (blk_below (g := gb349) (o := .cells #[.int .u64 a2_0, .int .u64 a2_1] 28 (0, 0)) (by exact bF BK349.out) hb); have n2_ := Aside0.mk (blk_below (g := gb350) (o := .cells #[.int .u64 0, .int .u64 0] 28 (0, 0)) (by exact bF BK350.out) hb); have n3_ := Aside0.mk (below_step (by repeat (first | (with_reducible first | exact HB.out | apply bA | apply bN | apply bD | refine bS ?_ GE348.out | refine bS ?_ GE349.out | refine bS ?_ GE350.out) | exact HB.out)) hb); clear BK348; clear BK349; clear BK350; clear HB; have BK348 := n0_; have BK349 := n1_; have BK350 := n2_; have HB := n3_; clear n0_ n1_ n2_ n3_; (try clear hb); (try clear hb2); (try clear hk); (try clear hi)))
   repeat (go_quiet (first | (go_at_call 81; (with_reducible refine (octet_Of.calls a0 a1_0 a1_1 false _ A8.out).mono ?_); rintro e w21 ⟨rfl, hb⟩; have n0_ := Aside0.mk (blk_below (g := gb348) (o := .cells #[.int .u64 a1_0, .int .u64 a1_1] 28 (0, 0)) (by exact bF BK348.out) hb); have n1_ := Aside0.mk (blk_below (g := gb349) (o := .cells #[.int .u64 a2_0, .int .u64 a2_1] 28 (0, 0)) (by exact bF BK349.out) hb); have n2_ := Aside0.mk (blk_below (g := gb350) (o := .cells #[.int .u64 0, .int .u64 0] 28 (0, 0)) (by exact bF BK350.out) hb); have n3_ := Aside0.mk (below_step (by repeat (first | (with_reducible first | exact HB.out | apply bA | apply bN | apply bD | refine bS ?_ GE348.out | refine bS ?_ GE349.out | refine bS ?_ GE350.out) | exact HB.out)) hb); clear BK348; clear BK349; clear BK350; clear HB; have BK348 := n0_; have BK349 := n1_; have BK350 := n2_; have HB := n3_; clear n0_ n1_ n2_ n3_; (try clear hb); (try clear hb2); (try clear hk); (try clear hi))); try go_wp2_with (first | (go_at_call 81; (with_reducible refine (octet_Of.calls a0 a1_0 a1_1 false _ A8.out).mono ?_); rintro e w21 ⟨rfl, hb⟩; have n0_ := Aside0.mk (blk_below (g := gb348) (o := .cells #[.int .u64 a1_0, .int .u64 a1_1] 28 (0, 0)) (by exact bF BK348.out) hb); have n1_ := Aside0.mk (blk_below (g := gb349) (o := .cells #[.int .u64 a2_0, .int .u64 a2_1] 28 (0, 0)) (by exact bF BK349.out) hb); have n2_ := Aside0.mk (blk_below (g := gb350) (o := .cells #[.int .u64 0, .int .u64 0] 28 (0, 0)) (by exact bF BK350.out) hb); have n3_ := Aside0.mk (below_step (by repeat (first | (with_reducible first | exact HB.out | apply bA | apply bN | apply bD | refine bS ?_ GE348.out | refine bS ?_ GE349.out | refine bS ?_ GE350.out) | exact HB.out)) hb); clear BK348; clear BK349; clear BK350; clear HB; have BK348 := n0_; have BK349 := n1_; have BK350 := n2_; have HB := n3_; clear n0_ n1_ n2_ n3_; (try clear hb); (try clear hb2); (try clear hk); (try clear hi))))
   go_meet
   case rel => exact ⟨_, (true), (by first | rfl | (simp; done) | (simp [*]; done)), H', ⟨by first | omega | exact Nat.le_refl _⟩, ⟨by exact bF BK348.out⟩, ⟨by exact bF BK349.out⟩, ⟨by exact bF BK350.out⟩, ⟨by repeat (first | (with_reducible first | exact HB.out | apply bA | apply bN | apply bD | refine bS ?_ GE348.out | refine bS ?_ GE349.out | refine bS ?_ GE350.out) | exact HB.out)⟩⟩
 case rest =>
  clear HC4
  try clear c1
  try clear p2
  try clear c9
  try clear c11
  try clear c12
  try clear c15
  try clear c18
  try clear c19
  try clear hcz13_0
  try clear hcz13_1
  try clear hcz16_0
  try clear hcz16_1
  try clear hcz20_0
  try clear hcz20_1
  try clear hfz13_0
  try clear hfz13_1
  try clear hfz16_0
  try clear hfz16_1
  try clear hfz20_0
  try clear hfz20_1
  obtain ⟨kq, x10_3, rfl, HA, HJ3, BK348, BK349, BK350, HB⟩ := hcut
  cases kq with
  | zero => exact absurd HA.out (by simp [tower_Mul.j0])
  | succ kj3 =>
   have H := HA.out
   clear HA
   simp only [tower_Mul.j0] at H
   by_cases c22 : x10_3 = true
   ·subst c22
    have H1 : (some (0, 0)) = some (r1, r2) := by rw [if_pos rfl] at H; exact H
    clear H
    have H := H1
    clear H1
    simp only [Option.some.injEq, Prod.mk.injEq] at H
    obtain ⟨rfl, rfl⟩ := H
    have hnb23 := NB350_348.out
    have hnc23 := NB348_350.out
    have hnb24 := NB350_349.out
    have hnc24 := NB349_350.out
    have hcz25_0 : wc.cell? ⟨gb350, 0, none⟩ = some (.int .u64 0) := (blk_cell BK350.out 0).trans rfl
    have hcz25_1 : wc.cell? ⟨gb350, 1, none⟩ = some (.int .u64 0) := (blk_cell BK350.out 1).trans rfl
    have hfz25_0 := blk_frozen BK350.out 0
    have hfz25_1 := blk_frozen BK350.out 1
    go_wp2
    repeat (go_quiet (fail); try go_wp2)
    refine bodyPost_ret (results_cell_row rfl _ _ gb350 28 #[.int .u64 0, .int .u64 0] (0, 0) _ rfl (by (with_reducible repeat (first | refine blk_drewN ?_ _ | refine blk_drew ?_ | refine blk_alloc ?_ _)); refine blk_put (cs := #[.int .u64 0, .int .u64 0]) ?_ 1 _ rfl; (with_reducible repeat (first | refine blk_drewN ?_ _ | refine blk_drew ?_ | refine blk_alloc ?_ _)); refine blk_put (cs := #[.int .u64 0, .int .u64 0]) ?_ 0 _ rfl; exact bF BK350.out) Try.underlying28 rfl (by kernel_rfl)) rfl ?_
    exact ⟨by first | rfl | (simp [errW_none, errW_some] <;> rfl) | (simp [*, errW_none, errW_some] <;> rfl), by repeat (first | (with_reducible first | exact HB.out | apply bA | apply bN | apply bD | refine bS ?_ GE348.out | refine bS ?_ GE349.out | refine bS ?_ GE350.out) | exact HB.out)⟩
   ·replace c22 := Bool.eq_false_iff.mpr c22
    subst c22
    have H1 : (if a0 ≤ 6 then ((tower_mul.f kj3 a0 a1_1 a2_1).bind fun t353 => (some (0, t353))) else ((tower_mul.f kj3 6 a1_0 a2_0).bind fun t354 => ((tower_mul.f kj3 6 a1_1 a2_1).bind fun t355 => ((tower_mul.f kj3 6 (Go.bits .xor .u64 a1_0 a1_1) (Go.bits .xor .u64 a2_0 a2_1)).bind fun t356 => ((tower_mulX.f kj3 6 t354).bind fun t357 => (some (Go.bits .xor .u64 (Go.bits .xor .u64 (Go.bits .xor .u64 t356 t354) t355) t357, Go.bits .xor .u64 t355 t354))))))) = some (r1, r2) := by rw [if_neg (show ¬ (false = true) by decide)] at H; exact H
    clear H
    have H := H1
    clear H1
    by_cases c26 : a0 ≤ 6
    ·rw [if_pos c26] at H
     have c26b0 : decide (a0 ≤ 6) = true := decide_eq_true c26
     clear c26
     replace H := Option.bind_eq_some_iff.mp H
     obtain ⟨t353, A270, H⟩ := H
     replace H : (some (0, t353)) = some (r1, r2) := H
     have A27 := Aside0.mk A270
     clear A270
     simp only [Option.some.injEq, Prod.mk.injEq] at H
     obtain ⟨rfl, rfl⟩ := H
     have hnb28 := NB348_349.out
     have hnc28 := NB349_348.out
     have hnb29 := NB348_350.out
     have hnc29 := NB350_348.out
     have hcz30_0 : wc.cell? ⟨gb348, 0, none⟩ = some (.int .u64 a1_0) := (blk_cell BK348.out 0).trans rfl
     have hcz30_1 : wc.cell? ⟨gb348, 1, none⟩ = some (.int .u64 a1_1) := (blk_cell BK348.out 1).trans rfl
     have hfz30_0 := blk_frozen BK348.out 0
     have hfz30_1 := blk_frozen BK348.out 1
     have hnb31 := NB349_350.out
     have hnc31 := NB350_349.out
     have hcz32_0 : wc.cell? ⟨gb349, 0, none⟩ = some (.int .u64 a2_0) := (blk_cell BK349.out 0).trans rfl
     have hcz32_1 : wc.cell? ⟨gb349, 1, none⟩ = some (.int .u64 a2_1) := (blk_cell BK349.out 1).trans rfl
     have hfz32_0 := blk_frozen BK349.out 0
     have hfz32_1 := blk_frozen BK349.out 1
     go_wp2_with (first | (go_at_call 149; (with_reducible refine (tower_mul.calls kj3 a0 a1_1 a2_1 t353 _ A27.out).mono ?_); rintro e w' ⟨rfl, ⟨nd, rfl⟩⟩; (try first | exact ⟨rfl, _, World.drewN_drewN _ _ _⟩ | exact ⟨rfl, _, Eq.trans (World.drewN_drewN _ _ _) (congrArg (World.drewN _) (Nat.add_assoc _ _ _))⟩); have hcz33_0 : wc.cell? ⟨gb350, 0, none⟩ = some (.int .u64 0) := (blk_cell BK350.out 0).trans rfl; have hcz33_1 : wc.cell? ⟨gb350, 1, none⟩ = some (.int .u64 0) := (blk_cell BK350.out 1).trans rfl; have hfz33_0 := blk_frozen BK350.out 0; have hfz33_1 := blk_frozen BK350.out 1))
     repeat (go_quiet (first | (go_at_call 149; (with_reducible refine (tower_mul.calls kj3 a0 a1_1 a2_1 t353 _ A27.out).mono ?_); rintro e w' ⟨rfl, ⟨nd, rfl⟩⟩; (try first | exact ⟨rfl, _, World.drewN_drewN _ _ _⟩ | exact ⟨rfl, _, Eq.trans (World.drewN_drewN _ _ _) (congrArg (World.drewN _) (Nat.add_assoc _ _ _))⟩); have hcz33_0 : wc.cell? ⟨gb350, 0, none⟩ = some (.int .u64 0) := (blk_cell BK350.out 0).trans rfl; have hcz33_1 : wc.cell? ⟨gb350, 1, none⟩ = some (.int .u64 0) := (blk_cell BK350.out 1).trans rfl; have hfz33_0 := blk_frozen BK350.out 0; have hfz33_1 := blk_frozen BK350.out 1)); try go_wp2_with (first | (go_at_call 149; (with_reducible refine (tower_mul.calls kj3 a0 a1_1 a2_1 t353 _ A27.out).mono ?_); rintro e w' ⟨rfl, ⟨nd, rfl⟩⟩; (try first | exact ⟨rfl, _, World.drewN_drewN _ _ _⟩ | exact ⟨rfl, _, Eq.trans (World.drewN_drewN _ _ _) (congrArg (World.drewN _) (Nat.add_assoc _ _ _))⟩); have hcz33_0 : wc.cell? ⟨gb350, 0, none⟩ = some (.int .u64 0) := (blk_cell BK350.out 0).trans rfl; have hcz33_1 : wc.cell? ⟨gb350, 1, none⟩ = some (.int .u64 0) := (blk_cell BK350.out 1).trans rfl; have hfz33_0 := blk_frozen BK350.out 0; have hfz33_1 := blk_frozen BK350.out 1)))
     refine bodyPost_ret (results_cell_row rfl _ _ gb350 28 #[.int .u64 0, .int .u64 t353] (0, 0) _ rfl (by (with_reducible repeat (first | refine blk_drewN ?_ _ | refine blk_drew ?_ | refine blk_alloc ?_ _)); refine blk_put (cs := #[.int .u64 0, .int .u64 0]) ?_ 1 _ rfl; (with_reducible repeat (first | refine blk_drewN ?_ _ | refine blk_drew ?_ | refine blk_alloc ?_ _)); refine blk_put (cs := #[.int .u64 0, .int .u64 0]) ?_ 0 _ rfl; exact bF BK350.out) Try.underlying28 rfl (by kernel_rfl)) rfl ?_
     exact ⟨by first | rfl | (simp [errW_none, errW_some] <;> rfl) | (simp [*, errW_none, errW_some] <;> rfl), by repeat (first | (with_reducible first | exact HB.out | apply bA | apply bN | apply bD | refine bS ?_ GE348.out | refine bS ?_ GE349.out | refine bS ?_ GE350.out) | exact HB.out)⟩
    ·rw [if_neg c26] at H
     have c26b0 : decide (a0 ≤ 6) = false := decide_eq_false c26
     clear c26
     replace H := Option.bind_eq_some_iff.mp H
     obtain ⟨t354, A340, H⟩ := H
     replace H : ((tower_mul.f kj3 6 a1_1 a2_1).bind fun t355 => ((tower_mul.f kj3 6 (Go.bits .xor .u64 a1_0 a1_1) (Go.bits .xor .u64 a2_0 a2_1)).bind fun t356 => ((tower_mulX.f kj3 6 t354).bind fun t357 => (some (Go.bits .xor .u64 (Go.bits .xor .u64 (Go.bits .xor .u64 t356 t354) t355) t357, Go.bits .xor .u64 t355 t354))))) = some (r1, r2) := H
     have A34 := Aside0.mk A340
     clear A340
     replace H := Option.bind_eq_some_iff.mp H
     obtain ⟨t355, A350, H⟩ := H
     replace H : ((tower_mul.f kj3 6 (Go.bits .xor .u64 a1_0 a1_1) (Go.bits .xor .u64 a2_0 a2_1)).bind fun t356 => ((tower_mulX.f kj3 6 t354).bind fun t357 => (some (Go.bits .xor .u64 (Go.bits .xor .u64 (Go.bits .xor .u64 t356 t354) t355) t357, Go.bits .xor .u64 t355 t354)))) = some (r1, r2) := H
     have A35 := Aside0.mk A350
     clear A350
     replace H := Option.bind_eq_some_iff.mp H
     obtain ⟨t356, A360, H⟩ := H
     replace H : ((tower_mulX.f kj3 6 t354).bind fun t357 => (some (Go.bits .xor .u64 (Go.bits .xor .u64 (Go.bits .xor .u64 t356 t354) t355) t357, Go.bits .xor .u64 t355 t354))) = some (r1, r2) := H
     have A36 := Aside0.mk A360
     clear A360
     replace H := Option.bind_eq_some_iff.mp H
     obtain ⟨t357, A370, H⟩ := H
     replace H : (some (Go.bits .xor .u64 (Go.bits .xor .u64 (Go.bits .xor .u64 t356 t354) t355) t357, Go.bits .xor .u64 t355 t354)) = some (r1, r2) := H
     have A37 := Aside0.mk A370
     clear A370
     simp only [Option.some.injEq, Prod.mk.injEq] at H
     obtain ⟨rfl, rfl⟩ := H
     have hnb38 := NB348_349.out
     have hnc38 := NB349_348.out
     have hnb39 := NB348_350.out
     have hnc39 := NB350_348.out
     have hcz40_0 : wc.cell? ⟨gb348, 0, none⟩ = some (.int .u64 a1_0) := (blk_cell BK348.out 0).trans rfl
     have hcz40_1 : wc.cell? ⟨gb348, 1, none⟩ = some (.int .u64 a1_1) := (blk_cell BK348.out 1).trans rfl
     have hfz40_0 := blk_frozen BK348.out 0
     have hfz40_1 := blk_frozen BK348.out 1
     have hnb41 := NB349_350.out
     have hnc41 := NB350_349.out
     have hcz42_0 : wc.cell? ⟨gb349, 0, none⟩ = some (.int .u64 a2_0) := (blk_cell BK349.out 0).trans rfl
     have hcz42_1 : wc.cell? ⟨gb349, 1, none⟩ = some (.int .u64 a2_1) := (blk_cell BK349.out 1).trans rfl
     have hfz42_0 := blk_frozen BK349.out 0
     have hfz42_1 := blk_frozen BK349.out 1
     go_wp2_with (first | (go_at_call 149; (with_reducible refine (tower_mul.calls kj3 6 a1_0 a2_0 t354 _ A34.out).mono ?_); rintro e w' ⟨rfl, ⟨nd, rfl⟩⟩; (try first | exact ⟨rfl, _, World.drewN_drewN _ _ _⟩ | exact ⟨rfl, _, Eq.trans (World.drewN_drewN _ _ _) (congrArg (World.drewN _) (Nat.add_assoc _ _ _))⟩)) | (go_at_call 149; (with_reducible refine (tower_mul.calls kj3 6 a1_1 a2_1 t355 _ A35.out).mono ?_); rintro e w' ⟨rfl, ⟨nd, rfl⟩⟩; (try first | exact ⟨rfl, _, World.drewN_drewN _ _ _⟩ | exact ⟨rfl, _, Eq.trans (World.drewN_drewN _ _ _) (congrArg (World.drewN _) (Nat.add_assoc _ _ _))⟩)) | (go_at_call 149; (with_reducible refine (tower_mul.calls kj3 6 (Go.bits .xor .u64 a1_0 a1_1) (Go.bits .xor .u64 a2_0 a2_1) t356 _ A36.out).mono ?_); rintro e w' ⟨rfl, ⟨nd, rfl⟩⟩; (try first | exact ⟨rfl, _, World.drewN_drewN _ _ _⟩ | exact ⟨rfl, _, Eq.trans (World.drewN_drewN _ _ _) (congrArg (World.drewN _) (Nat.add_assoc _ _ _))⟩)) | (go_at_call 150; (with_reducible refine (tower_mulX.calls kj3 6 t354 t357 _ A37.out).mono ?_); rintro e w' ⟨rfl, ⟨nd, rfl⟩⟩; (try first | exact ⟨rfl, _, World.drewN_drewN _ _ _⟩ | exact ⟨rfl, _, Eq.trans (World.drewN_drewN _ _ _) (congrArg (World.drewN _) (Nat.add_assoc _ _ _))⟩); have hcz43_0 : wc.cell? ⟨gb350, 0, none⟩ = some (.int .u64 0) := (blk_cell BK350.out 0).trans rfl; have hcz43_1 : wc.cell? ⟨gb350, 1, none⟩ = some (.int .u64 0) := (blk_cell BK350.out 1).trans rfl; have hfz43_0 := blk_frozen BK350.out 0; have hfz43_1 := blk_frozen BK350.out 1))
     repeat (go_quiet (first | (go_at_call 149; (with_reducible refine (tower_mul.calls kj3 6 a1_0 a2_0 t354 _ A34.out).mono ?_); rintro e w' ⟨rfl, ⟨nd, rfl⟩⟩; (try first | exact ⟨rfl, _, World.drewN_drewN _ _ _⟩ | exact ⟨rfl, _, Eq.trans (World.drewN_drewN _ _ _) (congrArg (World.drewN _) (Nat.add_assoc _ _ _))⟩)) | (go_at_call 149; (with_reducible refine (tower_mul.calls kj3 6 a1_1 a2_1 t355 _ A35.out).mono ?_); rintro e w' ⟨rfl, ⟨nd, rfl⟩⟩; (try first | exact ⟨rfl, _, World.drewN_drewN _ _ _⟩ | exact ⟨rfl, _, Eq.trans (World.drewN_drewN _ _ _) (congrArg (World.drewN _) (Nat.add_assoc _ _ _))⟩)) | (go_at_call 149; (with_reducible refine (tower_mul.calls kj3 6 (Go.bits .xor .u64 a1_0 a1_1) (Go.bits .xor .u64 a2_0 a2_1) t356 _ A36.out).mono ?_); rintro e w' ⟨rfl, ⟨nd, rfl⟩⟩; (try first | exact ⟨rfl, _, World.drewN_drewN _ _ _⟩ | exact ⟨rfl, _, Eq.trans (World.drewN_drewN _ _ _) (congrArg (World.drewN _) (Nat.add_assoc _ _ _))⟩)) | (go_at_call 150; (with_reducible refine (tower_mulX.calls kj3 6 t354 t357 _ A37.out).mono ?_); rintro e w' ⟨rfl, ⟨nd, rfl⟩⟩; (try first | exact ⟨rfl, _, World.drewN_drewN _ _ _⟩ | exact ⟨rfl, _, Eq.trans (World.drewN_drewN _ _ _) (congrArg (World.drewN _) (Nat.add_assoc _ _ _))⟩); have hcz43_0 : wc.cell? ⟨gb350, 0, none⟩ = some (.int .u64 0) := (blk_cell BK350.out 0).trans rfl; have hcz43_1 : wc.cell? ⟨gb350, 1, none⟩ = some (.int .u64 0) := (blk_cell BK350.out 1).trans rfl; have hfz43_0 := blk_frozen BK350.out 0; have hfz43_1 := blk_frozen BK350.out 1)); try go_wp2_with (first | (go_at_call 149; (with_reducible refine (tower_mul.calls kj3 6 a1_0 a2_0 t354 _ A34.out).mono ?_); rintro e w' ⟨rfl, ⟨nd, rfl⟩⟩; (try first | exact ⟨rfl, _, World.drewN_drewN _ _ _⟩ | exact ⟨rfl, _, Eq.trans (World.drewN_drewN _ _ _) (congrArg (World.drewN _) (Nat.add_assoc _ _ _))⟩)) | (go_at_call 149; (with_reducible refine (tower_mul.calls kj3 6 a1_1 a2_1 t355 _ A35.out).mono ?_); rintro e w' ⟨rfl, ⟨nd, rfl⟩⟩; (try first | exact ⟨rfl, _, World.drewN_drewN _ _ _⟩ | exact ⟨rfl, _, Eq.trans (World.drewN_drewN _ _ _) (congrArg (World.drewN _) (Nat.add_assoc _ _ _))⟩)) | (go_at_call 149; (with_reducible refine (tower_mul.calls kj3 6 (Go.bits .xor .u64 a1_0 a1_1) (Go.bits .xor .u64 a2_0 a2_1) t356 _ A36.out).mono ?_); rintro e w' ⟨rfl, ⟨nd, rfl⟩⟩; (try first | exact ⟨rfl, _, World.drewN_drewN _ _ _⟩ | exact ⟨rfl, _, Eq.trans (World.drewN_drewN _ _ _) (congrArg (World.drewN _) (Nat.add_assoc _ _ _))⟩)) | (go_at_call 150; (with_reducible refine (tower_mulX.calls kj3 6 t354 t357 _ A37.out).mono ?_); rintro e w' ⟨rfl, ⟨nd, rfl⟩⟩; (try first | exact ⟨rfl, _, World.drewN_drewN _ _ _⟩ | exact ⟨rfl, _, Eq.trans (World.drewN_drewN _ _ _) (congrArg (World.drewN _) (Nat.add_assoc _ _ _))⟩); have hcz43_0 : wc.cell? ⟨gb350, 0, none⟩ = some (.int .u64 0) := (blk_cell BK350.out 0).trans rfl; have hcz43_1 : wc.cell? ⟨gb350, 1, none⟩ = some (.int .u64 0) := (blk_cell BK350.out 1).trans rfl; have hfz43_0 := blk_frozen BK350.out 0; have hfz43_1 := blk_frozen BK350.out 1)))
     refine bodyPost_ret (results_cell_row rfl _ _ gb350 28 #[.int .u64 (Go.bits .xor .u64 (Go.bits .xor .u64 (Go.bits .xor .u64 t356 t354) t355) t357), .int .u64 (Go.bits .xor .u64 t355 t354)] (0, 0) _ rfl (by (with_reducible repeat (first | refine blk_drewN ?_ _ | refine blk_drew ?_ | refine blk_alloc ?_ _)); refine blk_put (cs := #[.int .u64 (Go.bits .xor .u64 (Go.bits .xor .u64 (Go.bits .xor .u64 t356 t354) t355) t357), .int .u64 0]) ?_ 1 _ rfl; (with_reducible repeat (first | refine blk_drewN ?_ _ | refine blk_drew ?_ | refine blk_alloc ?_ _)); refine blk_put (cs := #[.int .u64 0, .int .u64 0]) ?_ 0 _ rfl; exact bF BK350.out) Try.underlying28 rfl (by kernel_rfl)) rfl ?_
     exact ⟨by first | rfl | (simp [errW_none, errW_some] <;> rfl) | (simp [*, errW_none, errW_some] <;> rfl), by repeat (first | (with_reducible first | exact HB.out | apply bA | apply bN | apply bD | refine bS ?_ GE348.out | refine bS ?_ GE349.out | refine bS ?_ GE350.out) | exact HB.out)⟩
def tower_One.f  : Option (Int × Int) := some (0, 1)
set_option maxHeartbeats 8000000 in
set_option maxRecDepth 100000 in
theorem tower_One.calls  (r1 : Int) (r2 : Int) (w : World) (h : tower_One.f  = some (r1, r2)) :
  Calls Try.prog 130 #[] w fun e w' => e = .returned (.agg #[.int .u64 r1, .int .u64 r2]) ∧ Below w.heap.size w w' := by
 have hu28 := Try.underlying28
 have HB := Aside0.mk (Below.refl w.heap.size w)
 have H : (some (0, 1)) = some (r1, r2) := h
 clear h
 simp only [Option.some.injEq, Prod.mk.injEq] at H
 obtain ⟨rfl, rfl⟩ := H
 go_enter Try.func130, Try.ntmps130
 go_wp2_with (first | ((with_reducible refine gate_dst (N := 0) rfl ?_); refine box_event ?hg (N := 0) ?hd (cs := #[.int .u64 0, .int .u64 0]) (t := 28) ?hr ?_; (case hd => rfl); (case hg => rfl); (case hr => first | (go_simp; done) | (go_simp; rfl)); intro gb418 hg w1 hbox hb; have n0_ := Aside0.mk (below_step (by exact lF HB.out) hb); have n1_ := Aside0.mk (hbox); have n2_ := Aside0.mk ((by rw [hg]; exact (below_size (by exact lF HB.out)) : w.heap.size ≤ gb418)); have n3_ := Aside0.mk ((by rw [hg]; exact (below_size (by exact lF HB.out)) : w.heap.size ≤ gb418)); clear HB; have HB := n0_; have BK418 := n1_; have GW418 := n2_; have GE418 := n3_; clear n0_ n1_ n2_ n3_; clear hb hbox hg; have hcz2_0 : w1.cell? ⟨gb418, 0, none⟩ = some (.int .u64 0) := (blk_cell BK418.out 0).trans rfl; have hcz2_1 : w1.cell? ⟨gb418, 1, none⟩ = some (.int .u64 0) := (blk_cell BK418.out 1).trans rfl; have hfz2_0 := blk_frozen BK418.out 0; have hfz2_1 := blk_frozen BK418.out 1))
 refine bodyPost_ret (results_cell_row rfl _ _ gb418 28 #[.int .u64 0, .int .u64 1] (0, 0) _ rfl (by (with_reducible repeat (first | refine blk_drewN ?_ _ | refine blk_drew ?_ | refine blk_alloc ?_ _)); refine blk_put (cs := #[.int .u64 0, .int .u64 0]) ?_ 1 _ rfl; (with_reducible repeat (first | refine blk_drewN ?_ _ | refine blk_drew ?_ | refine blk_alloc ?_ _)); refine blk_put (cs := #[.int .u64 0, .int .u64 0]) ?_ 0 _ rfl; exact bF BK418.out) Try.underlying28 rfl (by kernel_rfl)) rfl ?_
 exact ⟨by first | rfl | (simp [errW_none, errW_some] <;> rfl) | (simp [*, errW_none, errW_some] <;> rfl), by repeat (first | (with_reducible first | exact HB.out | apply bA | apply bN | apply bD | refine bS ?_ GE418.out) | exact HB.out)⟩
def api_Op.f (l0 : List (S149)) : Option ((List (S149))) := if l0.length * 40 ≤ 140737488355328 then some l0 else none
set_option maxHeartbeats 8000000 in
set_option maxRecDepth 100000 in
theorem api_Op.calls (A0 : Option Addr) (c0 : Nat) (l0 : List (S149)) (r : List (S149)) (w : World) (hr0 : Kd.C k149 w A0 l0.length l0) (hc0 : l0.length ≤ c0) (h : api_Op.f l0 = some r) :
  Calls Try.prog 165 #[.slice A0 l0.length c0] w fun e w' => ∃ v0_ : Value, e = .returned (v0_) ∧ Kd.R k149 149 w' w.heap.size (fun _ => True) v0_ r ∧ Below w.heap.size w w' := by
 unfold api_Op.f at h
 by_cases hb : l0.length * 40 ≤ 140737488355328
 ·rw [if_pos hb] at h
  obtain rfl := Option.some.inj h
  clear h
  have hsz : l0.length ≤ 9223372036854775807 := hr0.2.1
  cases A0 with
  | none =>
   have hl : l0.length = 0 := by
    rcases Nat.eq_zero_or_pos l0.length with h | h
    ·exact h
    ·obtain ⟨ad, e, _⟩ := hr0.2.2 h
     cases e
   obtain rfl := List.eq_nil_of_length_eq_zero hl
   clear hl hb hr0
   have he : ∀ W, (binOp .eql 83 (.slice none 0 c0) (.slice none 0 0)).run Try.prog W = .ok (.bool true) W := fun W => Lib.run_eql_slice_nil (P := Try.prog) W 83 149 none 0 c0 0 0 Try.underlying83
   go_enter Try.func165, Try.ntmps165
   go_wp2
   go_ret
   exact ⟨_, rfl, Kd.R_nil _ _ _ _ _, Below.refl _ _⟩
  | some ad =>
   have he : ∀ W, (binOp .eql 83 (.slice (some ad) l0.length c0) (.slice none 0 0)).run Try.prog W = .ok (.bool false) W := fun W => Lib.run_eql_slice_nil (P := Try.prog) W 83 149 (some ad) l0.length c0 0 0 Try.underlying83
   have HR := Aside0.mk hr0
   have HL := Aside0.mk hb
   clear hr0 hb
   go_enter Try.func165, Try.ntmps165
   go_wp2_with (first | ((with_reducible refine gate_dst (N := 5) rfl ?_); refine Kd.R_lit k149 _ 149 ?hg (N := 5) ?hd (xs := ([] : List S149)) (inner := []) (ok := fun _ => True) (okp := fun _ => True) ?hr ?hp (fun _ hk => hk) trivial (Below.refl _ _) (Nat.le_refl _) (by simp) ?_; (case hd => rfl); (case hg => rfl); (case hr => first | (go_simp; done) | (go_simp; rfl)); (case hp => exact Reps.none _ _); intro v1 w1 ho1 hb1 hg_ hnew_; clear hg_ hnew_; have HO := Aside0.mk ho1; have HB := Aside0.mk hb1; have HR1 := Aside0.mk (Kd.C_below HR.out hb1); clear ho1 hb1) | ((with_reducible refine gate_builtin (b := .append) (xs := #[.tmp 5, .tmp 6]) rfl ?_); at_builtin; refine Kd.R_append_rows k149 (w0 := w) w.heap.size rfl (.tmp 5) (.tmp 6) 83 149 (.agg #[(.int .i64 0), (.int .i64 0), (.int .i64 0), (.int .u64 0), (.int .u64 0)]) 40 rfl Try.underlying83 info149 rfl (by decide) (by omega) v1 ([] : List S149) l0 _ _ _ (fun _ => True) (fun _ => False) rfl rfl HO.out HR1.out ?aK (fun _ h => h.elim) (fun _ _ => trivial) HB.out HB.out.size ?aL ?_; (case aK => (intro x cs h; obtain rfl := k149_open h; exact k149_mkM _ _ _ x)); (case aL => (have := HL.out; simp; omega)); intro v2 w2 ho2 hb2 hg_ hnew_; clear hg_ hnew_; have HO2 := Aside0.mk ho2; have HB2 := Aside0.mk hb2; clear ho2 hb2))
   go_ret
   exact ⟨_, rfl, HO2.out, HB2.out⟩
 ·rw [if_neg hb] at h
  cases h
def zero_behind.l0 : Nat → Int → List (S149) → Int → Int → Option ((List (S149)))
 | 0, _, _, _, _ => none
 | k + 1, x0, x5, x10, x11 => if x11 < x10 then (if 0 ≤ x11 then (if x11 < (x5.length : Int) then (if ((rd_T149 x5 x11).f0) = 3 then ((some (x5.set (x11 : Int).toNat (⟨(rd_T149 x5 x11).f0, wrap64 (((rd_T149 x5 x11).f1) + x0), (rd_T149 x5 x11).f2, (⟨(rd_T149 x5 x11).f3.f0, (rd_T149 x5 x11).f3.f1⟩ : S28)⟩ : S149) : List (S149))).bind fun y424 => (zero_behind.l0 k x0 (y424.set (x11 : Int).toNat (⟨(rd_T149 y424 x11).f0, (rd_T149 y424 x11).f1, wrap64 (((rd_T149 y424 x11).f2) + x0), (⟨(rd_T149 y424 x11).f3.f0, (rd_T149 y424 x11).f3.f1⟩ : S28)⟩ : S149)) x10 (wrap64 (x11 + 1)))) else (if ((rd_T149 x5 x11).f0) = 4 then ((some (x5.set (x11 : Int).toNat (⟨(rd_T149 x5 x11).f0, wrap64 (((rd_T149 x5 x11).f1) + x0), (rd_T149 x5 x11).f2, (⟨(rd_T149 x5 x11).f3.f0, (rd_T149 x5 x11).f3.f1⟩ : S28)⟩ : S149) : List (S149))).bind fun y429 => (zero_behind.l0 k x0 (y429.set (x11 : Int).toNat (⟨(rd_T149 y429 x11).f0, (rd_T149 y429 x11).f1, wrap64 (((rd_T149 y429 x11).f2) + x0), (⟨(rd_T149 y429 x11).f3.f0, (rd_T149 y429 x11).f3.f1⟩ : S28)⟩ : S149)) x10 (wrap64 (x11 + 1)))) else (zero_behind.l0 k x0 x5 x10 (wrap64 (x11 + 1))))) else (none)) else (none)) else (some x5)
def zero_behind.f (k : Nat) (a0 : Int) (l1 : List (S149)) : Option ((List (S149))) := (api_Op.f l1).bind fun t419 => (zero_behind.l0 k a0 t419 (t419.length : Int) 0)
set_option maxHeartbeats 8000000 in
set_option maxRecDepth 100000 in
theorem zero_behind.calls (k : Nat) (a0 : Int) (A1 : Option Addr) (c1 : Nat) (l1 : List (S149)) (r : List (S149)) (w : World) (hr1 : Kd.C k149 w A1 l1.length l1) (hc1 : l1.length ≤ c1) (h : zero_behind.f k a0 l1 = some r) :
  Calls Try.prog 133 #[.int .i64 a0, .slice A1 l1.length c1] w fun e w' => ∃ v0_ : Value, e = .returned (v0_) ∧ Kd.R k149 149 w' w.heap.size (fun _ => True) v0_ r ∧ Below w.heap.size w w' := by
 have HR1 := Aside0.mk hr1
 have HC1 := Aside0.mk hc1
 clear hr1 hc1
 have HB := Aside0.mk (Below.refl w.heap.size w)
 have H : ((api_Op.f l1).bind fun t419 => (zero_behind.l0 k a0 t419 (t419.length : Int) 0)) = some r := h
 clear h
 replace H := Option.bind_eq_some_iff.mp H
 obtain ⟨t419, A30, H⟩ := H
 replace H : (zero_behind.l0 k a0 t419 (t419.length : Int) 0) = some r := H
 have A3 := Aside0.mk A30
 clear A30
 have H' := Aside0.mk H
 clear H
 go_enter Try.func133, Try.ntmps133
 go_wp2_with (first | ((with_reducible refine gate_callee (f := 165) rfl ?_); refine goesL_ (some 8) rfl rfl Try.func165 (by kernel_rfl) rfl #[.slice A1 l1.length c1] rfl (by (try simp only [List.map_toArray, List.map_cons, List.map_nil]); first | done | rfl | (simp only [List.length_drop, List.length_take]; rfl)) ?_; (with_reducible refine (api_Op.calls _ _ l1 t419 _ ?side1 ?side2 A3.out).mono ?_); (case side1 => repeat (first | exact HR1.out | (with_reducible refine Kd.C_alloc ?_ _) | (with_reducible refine Kd.C_drewN ?_ _) | (with_reducible refine Kd.C_drew ?_))); (case side2 => exact HC1.out); rintro e w4 ⟨v420, rfl, ho0, hb⟩; refine ⟨_, rfl, ?_⟩; have n0_ := Aside0.mk (Kd.R_lower ho0 (below_size (by exact lF HB.out))); have n1_ := Aside0.mk (below_step (by exact lF HB.out) hb); clear HB; have HO421 := n0_; have HB := n1_; clear n0_ n1_; (try clear hb); (try clear hb2); (try clear hk); (try clear hi); (try clear ho0); obtain ⟨Ao5, co5, eo5⟩ := Kd.R_slice HO421.out; subst eo5))
 go_loopg [11] k (fun kq v11 w' => ∃ (x5_1 : List (S149)) (x11_1 : Int), v11 = .int .i64 x11_1 ∧ Aside0 (zero_behind.l0 kq a0 x5_1 (t419.length : Int) x11_1 = some r) ∧ Aside0 (kq ≤ k) ∧ Aside0 (Kd.R k149 149 w' w.heap.size (fun _ => True) (.slice Ao5 t419.length co5) x5_1) ∧ Aside0 (Below w.heap.size w w'))
 case atStart => exact ⟨(t419), (0), (by first | rfl | (simp; done) | (simp [*]; done)), H', ⟨Nat.le_refl _⟩, ⟨by exact rF HO421.out⟩, ⟨by repeat (first | (with_reducible first | exact HB.out | apply bA | apply bN | apply bD) | exact HB.out)⟩⟩
 case round =>
  clear H'
  try clear c1
  try clear p2
  obtain ⟨x5_1, x11_1, rfl, HA, HK1, HO_5, HB⟩ := hrel
  have hl5_1 := (Kd.R_reads' HO_5.out).1
  rw [hl5_1] at HO_5
  (try simp only [hl5_1])
  cases gk with
  | zero => exact absurd HA.out (by simp [zero_behind.l0])
  | succ k1 =>
   have H := HA.out
   clear HA
   simp only [zero_behind.l0] at H
   by_cases c6 : x11_1 < (t419.length : Int)
   ·rw [if_pos c6] at H
    have c6b0 : decide (x11_1 < (t419.length : Int)) = true := decide_eq_true c6
    (try rw [hl5_1] at c6b0)
    clear c6
    by_cases c7 : 0 ≤ x11_1
    ·rw [if_pos c7] at H
     have c7b0 : decide (0 ≤ x11_1) = true := decide_eq_true c7
     clear c7
     by_cases c8 : x11_1 < (x5_1.length : Int)
     ·rw [if_pos c8] at H
      have c8b0 : decide (x11_1 < (x5_1.length : Int)) = true := decide_eq_true c8
      (try rw [hl5_1] at c8b0)
      clear c8
      by_cases c9 : ((rd_T149 x5_1 x11_1).f0) = 3
      ·rw [if_pos c9] at H
       have c9b0 : (((rd_T149 x5_1 x11_1).f0) == 3) = true := beq_iff_eq.mpr c9
       have c9b1 : (((rd_T149 x5_1 x11_1).f0) != 3) = false := bne_eq_false_iff_eq.mpr c9
       clear c9
       obtain ⟨y424, hy424⟩ : ∃ y_ : List (S149), y_ = (x5_1.set (x11_1 : Int).toNat (⟨(rd_T149 x5_1 x11_1).f0, wrap64 (((rd_T149 x5_1 x11_1).f1) + a0), (rd_T149 x5_1 x11_1).f2, (⟨(rd_T149 x5_1 x11_1).f3.f0, (rd_T149 x5_1 x11_1).f3.f1⟩ : S28)⟩ : S149)) := ⟨_, rfl⟩
       replace H : (zero_behind.l0 k1 a0 (y424.set (x11_1 : Int).toNat (⟨(rd_T149 y424 x11_1).f0, (rd_T149 y424 x11_1).f1, wrap64 (((rd_T149 y424 x11_1).f2) + a0), (⟨(rd_T149 y424 x11_1).f3.f0, (rd_T149 y424 x11_1).f3.f1⟩ : S28)⟩ : S149)) (t419.length : Int) (wrap64 (x11_1 + 1))) = some r := by first | (rw [hy424]; with_reducible exact H) | (have H2_ := (Option.bind_some _ _).symm.trans H; rw [hy424]; with_reducible exact H2_) | (have H2_ := (Option.bind_some _ _).symm.trans H; with_reducible exact H2_) | with_reducible exact H | (rw [hy424]; exact H) | exact H
       have Ny424 := Aside0.mk hy424
       clear hy424
       obtain ⟨y426, hy426⟩ : ∃ y_ : List (S149), y_ = (y424.set (x11_1 : Int).toNat (⟨(rd_T149 y424 x11_1).f0, (rd_T149 y424 x11_1).f1, wrap64 (((rd_T149 y424 x11_1).f2) + a0), (⟨(rd_T149 y424 x11_1).f3.f0, (rd_T149 y424 x11_1).f3.f1⟩ : S28)⟩ : S149)) := ⟨_, rfl⟩
       replace H : (zero_behind.l0 k1 a0 y426 (t419.length : Int) (wrap64 (x11_1 + 1))) = some r := by first | (rw [hy426]; with_reducible exact H) | (have H2_ := (Option.bind_some _ _).symm.trans H; rw [hy426]; with_reducible exact H2_) | (have H2_ := (Option.bind_some _ _).symm.trans H; with_reducible exact H2_) | with_reducible exact H | (rw [hy426]; exact H) | exact H
       have Ny426 := Aside0.mk hy426
       clear hy426
       have H' := Aside0.mk H
       clear H
       have p422 : 0 ≤ (x11_1 : Int) := of_decide_eq_true (by first | (with_reducible assumption) | assumption)
       have q422 : x11_1 < (x5_1.length : Int) := of_decide_eq_true (by first | (with_reducible assumption) | assumption)
       obtain ⟨ad422, e422, hx422_0, hx422_1, hx422_2, hx422_3, hx422_4⟩ := at_T149 (Kd.R_reads' HO_5.out).2.2 x11_1 p422 q422
       cases e422
       replace p422 := eq_true p422
       replace q422 := eq_true q422
       have p423 : 0 ≤ (x11_1 : Int) := of_decide_eq_true (by first | (with_reducible assumption) | assumption)
       have q423 : x11_1 < (x5_1.length : Int) := of_decide_eq_true (by first | (with_reducible assumption) | assumption)
       obtain ⟨ad423, e423, hx423_0, hx423_1, hx423_2, hx423_3, hx423_4⟩ := at_T149 (Kd.R_reads' HO_5.out).2.2 x11_1 p423 q423
       obtain rfl : ad422 = ad423 := (by injection e423)
       replace p423 := eq_true p423
       replace q423 := eq_true q423
       have p10 : 0 ≤ (x11_1 : Int) := of_decide_eq_true (by first | (with_reducible assumption) | assumption)
       have q10 : (x11_1 : Int) < ((x5_1.length : Int) : Int) := of_decide_eq_true (by first | (with_reducible assumption) | assumption)
       obtain ⟨go10, co10, eo10, gb10, gl10, cl10, HG10⟩ := Kd.R_form HO_5.out (by omega)
       (first | cases eo10 | (injection eo10 with ea_ en_ ec_; (first | subst ea_ | (injection ea_ with ea_; subst ea_)); subst ec_; clear en_))
       have GB10 := Aside0.mk gb10
       have GG10 := Aside0.mk HG10
       clear gb10 gl10 HG10
       (first | simp only [add_plain] at hx422_0 | skip)
       (first | simp only [add_plain] at hx422_1 | skip)
       (first | simp only [add_plain] at hx422_2 | skip)
       (first | simp only [add_plain] at hx422_3 | skip)
       (first | simp only [add_plain] at hx422_4 | skip)
       (first | simp only [add_plain] at hx423_0 | skip)
       (first | simp only [add_plain] at hx423_1 | skip)
       (first | simp only [add_plain] at hx423_2 | skip)
       (first | simp only [add_plain] at hx423_3 | skip)
       (first | simp only [add_plain] at hx423_4 | skip)
       obtain ⟨ce10, hcl10, hM10, hcc10, hfr10⟩ := Kd.R_elem HO_5.out z149 (x11_1 : Int) p10 q10
       obtain rfl := k149_openM hM10
       have hx10_0 : wr.cell? ⟨go10, (x11_1 : Int).toNat * 5, none⟩ = some (.int .i64 ((rd_T149 x5_1 x11_1).f0)) := hcc10 0 _ rfl
       have hx10_1 : wr.cell? ⟨go10, (x11_1 : Int).toNat * 5 + 1, none⟩ = some (.int .i64 ((rd_T149 x5_1 x11_1).f1)) := hcc10 1 _ rfl
       have hx10_2 : wr.cell? ⟨go10, (x11_1 : Int).toNat * 5 + 2, none⟩ = some (.int .i64 ((rd_T149 x5_1 x11_1).f2)) := hcc10 2 _ rfl
       have hx10_3 : wr.cell? ⟨go10, (x11_1 : Int).toNat * 5 + 3, none⟩ = some (.int .u64 ((rd_T149 x5_1 x11_1).f3.f0)) := hcc10 3 _ rfl
       have hx10_4 : wr.cell? ⟨go10, (x11_1 : Int).toNat * 5 + 4, none⟩ = some (.int .u64 ((rd_T149 x5_1 x11_1).f3.f1)) := hcc10 4 _ rfl
       have hf10_0 : wr.frozen? ⟨go10, (x11_1 : Int).toNat * 5, none⟩ = false := hfr10 0
       have hf10_1 : wr.frozen? ⟨go10, (x11_1 : Int).toNat * 5 + 1, none⟩ = false := hfr10 1
       have hf10_2 : wr.frozen? ⟨go10, (x11_1 : Int).toNat * 5 + 2, none⟩ = false := hfr10 2
       have hf10_3 : wr.frozen? ⟨go10, (x11_1 : Int).toNat * 5 + 3, none⟩ = false := hfr10 3
       have hf10_4 : wr.frozen? ⟨go10, (x11_1 : Int).toNat * 5 + 4, none⟩ = false := hfr10 4
       clear hcl10 hcc10 hfr10 hM10
       replace p10 := eq_true p10
       replace q10 := eq_true q10
       have HX12 := Aside0.mk (show Kd.R k149 149 wr w.heap.size (fun _ => True) (.slice (some ⟨go10, 0, none⟩) x5_1.length co5) x5_1 from (by exact rF HO_5.out))
       obtain ⟨ce12, hcl12, hM12, hcc12, hfr12⟩ := Kd.R_elem HX12.out z149 (x11_1 : Int) (of_decide_eq_true (by first | (with_reducible assumption) | assumption)) (by have h_ : (x11_1 : Int) < ((x5_1.length : Int) : Int) := of_decide_eq_true (by first | (with_reducible assumption) | assumption); first | exact h_ | (have e_ := (Kd.R_reads' HO_5.out).1; omega) | simpa using h_)
       obtain rfl := k149_openM hM12
       have HP12 := Kd.R_seg HX12.out (x11_1 : Int) (of_decide_eq_true (by first | (with_reducible assumption) | assumption)) (by have h_ : (x11_1 : Int) < ((x5_1.length : Int) : Int) := of_decide_eq_true (by first | (with_reducible assumption) | assumption); first | exact h_ | (have e_ := (Kd.R_reads' HO_5.out).1; omega) | simpa using h_) (seg := [.int .i64 (wrap64 (((rd_T149 x5_1 x11_1).f1) + a0))]) (j := 1) hcl12 hcc12 (show 2 ≤ 5 from by decide) (x' := (⟨(rd_T149 x5_1 x11_1).f0, wrap64 (((rd_T149 x5_1 x11_1).f1) + a0), (rd_T149 x5_1 x11_1).f2, (⟨(rd_T149 x5_1 x11_1).f3.f0, (rd_T149 x5_1 x11_1).f3.f1⟩ : S28)⟩ : S149)) (k149_mkM _ _ _ (⟨(rd_T149 x5_1 x11_1).f0, wrap64 (((rd_T149 x5_1 x11_1).f1) + a0), (rd_T149 x5_1 x11_1).f2, (⟨(rd_T149 x5_1 x11_1).f3.f0, (rd_T149 x5_1 x11_1).f3.f1⟩ : S28)⟩ : S149) ) (fun _ hk => hk)
       have hx12_1 := hcc12 1 _ rfl
       (try simp only [show (k149).sz = 5 from rfl, Nat.mul_one, Nat.add_zero] at hx12_1)
       have hf12_1 := hfr12 1
       (try simp only [show (k149).sz = 5 from rfl, Nat.mul_one, Nat.add_zero] at hf12_1)
       clear hcl12 hcc12 hfr12 hM12
       go_wp2_with (first | ((with_reducible refine gate_store (t := 3) (p := 36) rfl ?_); refine store_event (t := 3) (p := 36) (v := ?vo_w13) (w1 := (wr.setCell ⟨go10, (x11_1 : Int).toNat * 5 + 1, none⟩ (.int .i64 (wrap64 (((rd_T149 x5_1 x11_1).f1) + a0))))) ?hg ?ho ?hn ?hr ?_; (case ho => rfl); (case hg => rfl); (case hn => rfl); (case hr => first | (go_simp; done) | (go_simp; rfl)); intro w13 hw; have hg : wr.grownBy w13 (some go10) := (by rw [hw]; exact HP12.2); have hp_ : Kd.R k149 149 w13 w.heap.size (fun _ => True) (.slice (some ⟨go10, 0, none⟩) x5_1.length co5) y424 := (by rw [hw, Ny424.out]; exact HP12.1); clear HP12; have n0_ := Aside0.mk (hp_); have n1_ := Aside0.mk ((by rw [hw]; exact below_set (HB.out) GB10.out : Below w.heap.size w w13)); clear HO_5; clear HB; have HO_5 := n0_; have HB := n1_; clear n0_ n1_; clear hg hw hp_; have p425 : 0 ≤ (x11_1 : Int) := of_decide_eq_true (by first | (with_reducible assumption) | assumption); have q425 : x11_1 < (y424.length : Int) := (by have h_ : (x11_1 : Int) < ((x5_1.length : Int) : Int) := of_decide_eq_true (by first | (with_reducible assumption) | assumption); first | (have e_ := (Kd.R_reads' HO_5.out).1; omega) | simpa only [Ny424.out, List.length_set] using h_); have ql425 : ((x11_1 : Int) < ((x5_1.length : Int) : Int)) = True := eq_true (of_decide_eq_true (by first | (with_reducible assumption) | assumption)); obtain ⟨ad425, e425, hx425_0, hx425_1, hx425_2, hx425_3, hx425_4⟩ := at_T149 (Kd.R_reads' HO_5.out).2.2 x11_1 p425 q425; obtain rfl : (⟨go10, 0, none⟩ : Addr) = ad425 := (by injection e425); (first | simp only [add_plain] at hx425_0 | simp only [add_at] at hx425_0 | simp only [Addr.add, Nat.zero_add] at hx425_0 | skip); (first | simp only [add_plain] at hx425_1 | simp only [add_at] at hx425_1 | simp only [Addr.add, Nat.zero_add] at hx425_1 | skip); (first | simp only [add_plain] at hx425_2 | simp only [add_at] at hx425_2 | simp only [Addr.add, Nat.zero_add] at hx425_2 | skip); (first | simp only [add_plain] at hx425_3 | simp only [add_at] at hx425_3 | simp only [Addr.add, Nat.zero_add] at hx425_3 | skip); (first | simp only [add_plain] at hx425_4 | simp only [add_at] at hx425_4 | simp only [Addr.add, Nat.zero_add] at hx425_4 | skip); replace p425 := eq_true p425; replace q425 := eq_true q425; have p11 : 0 ≤ (x11_1 : Int) := of_decide_eq_true (by first | (with_reducible assumption) | assumption); have q11 : (x11_1 : Int) < ((x5_1.length : Int) : Int) := of_decide_eq_true (by first | (with_reducible assumption) | assumption); obtain ⟨ce11, hcl11, hM11, hcc11, hfr11⟩ := Kd.R_elem HO_5.out z149 (x11_1 : Int) p11 q11; obtain rfl := k149_openM hM11; have hx11_0 : w13.cell? ⟨go10, (x11_1 : Int).toNat * 5, none⟩ = some (.int .i64 ((rd_T149 y424 x11_1).f0)) := hcc11 0 _ rfl; have hx11_1 : w13.cell? ⟨go10, (x11_1 : Int).toNat * 5 + 1, none⟩ = some (.int .i64 ((rd_T149 y424 x11_1).f1)) := hcc11 1 _ rfl; have hx11_2 : w13.cell? ⟨go10, (x11_1 : Int).toNat * 5 + 2, none⟩ = some (.int .i64 ((rd_T149 y424 x11_1).f2)) := hcc11 2 _ rfl; have hx11_3 : w13.cell? ⟨go10, (x11_1 : Int).toNat * 5 + 3, none⟩ = some (.int .u64 ((rd_T149 y424 x11_1).f3.f0)) := hcc11 3 _ rfl; have hx11_4 : w13.cell? ⟨go10, (x11_1 : Int).toNat * 5 + 4, none⟩ = some (.int .u64 ((rd_T149 y424 x11_1).f3.f1)) := hcc11 4 _ rfl; have hf11_0 : w13.frozen? ⟨go10, (x11_1 : Int).toNat * 5, none⟩ = false := hfr11 0; have hf11_1 : w13.frozen? ⟨go10, (x11_1 : Int).toNat * 5 + 1, none⟩ = false := hfr11 1; have hf11_2 : w13.frozen? ⟨go10, (x11_1 : Int).toNat * 5 + 2, none⟩ = false := hfr11 2; have hf11_3 : w13.frozen? ⟨go10, (x11_1 : Int).toNat * 5 + 3, none⟩ = false := hfr11 3; have hf11_4 : w13.frozen? ⟨go10, (x11_1 : Int).toNat * 5 + 4, none⟩ = false := hfr11 4; clear hcl11 hcc11 hfr11 hM11; replace p11 := eq_true p11; replace q11 := eq_true q11; have HX14 := Aside0.mk (show Kd.R k149 149 w13 w.heap.size (fun _ => True) (.slice (some ⟨go10, 0, none⟩) x5_1.length co5) y424 from (by exact rF HO_5.out)); obtain ⟨ce14, hcl14, hM14, hcc14, hfr14⟩ := Kd.R_elem HX14.out z149 (x11_1 : Int) (of_decide_eq_true (by first | (with_reducible assumption) | assumption)) (by have h_ : (x11_1 : Int) < ((x5_1.length : Int) : Int) := of_decide_eq_true (by first | (with_reducible assumption) | assumption); first | exact h_ | (have e_ := (Kd.R_reads' HO_5.out).1; omega) | simpa using h_); obtain rfl := k149_openM hM14; have HP14 := Kd.R_seg HX14.out (x11_1 : Int) (of_decide_eq_true (by first | (with_reducible assumption) | assumption)) (by have h_ : (x11_1 : Int) < ((x5_1.length : Int) : Int) := of_decide_eq_true (by first | (with_reducible assumption) | assumption); first | exact h_ | (have e_ := (Kd.R_reads' HO_5.out).1; omega) | simpa using h_) (seg := [.int .i64 (wrap64 (((rd_T149 y424 x11_1).f2) + a0))]) (j := 2) hcl14 hcc14 (show 3 ≤ 5 from by decide) (x' := (⟨(rd_T149 y424 x11_1).f0, (rd_T149 y424 x11_1).f1, wrap64 (((rd_T149 y424 x11_1).f2) + a0), (⟨(rd_T149 y424 x11_1).f3.f0, (rd_T149 y424 x11_1).f3.f1⟩ : S28)⟩ : S149)) (k149_mkM _ _ _ (⟨(rd_T149 y424 x11_1).f0, (rd_T149 y424 x11_1).f1, wrap64 (((rd_T149 y424 x11_1).f2) + a0), (⟨(rd_T149 y424 x11_1).f3.f0, (rd_T149 y424 x11_1).f3.f1⟩ : S28)⟩ : S149) ) (fun _ hk => hk); have hx14_2 := hcc14 2 _ rfl; (try simp only [show (k149).sz = 5 from rfl, Nat.mul_one, Nat.add_zero] at hx14_2); have hf14_2 := hfr14 2; (try simp only [show (k149).sz = 5 from rfl, Nat.mul_one, Nat.add_zero] at hf14_2); clear hcl14 hcc14 hfr14 hM14) | ((with_reducible refine gate_store (t := 3) (p := 45) rfl ?_); refine store_event (t := 3) (p := 45) (v := ?vo_w15) (w1 := (w13.setCell ⟨go10, (x11_1 : Int).toNat * 5 + 2, none⟩ (.int .i64 (wrap64 (((rd_T149 y424 x11_1).f2) + a0))))) ?hg ?ho ?hn ?hr ?_; (case ho => rfl); (case hg => rfl); (case hn => rfl); (case hr => first | (go_simp; done) | (go_simp; rfl)); intro w15 hw; have hg : w13.grownBy w15 (some go10) := (by rw [hw]; exact HP14.2); have hp_ : Kd.R k149 149 w15 w.heap.size (fun _ => True) (.slice (some ⟨go10, 0, none⟩) x5_1.length co5) y426 := (by rw [hw, Ny426.out]; exact HP14.1); clear HP14; have n0_ := Aside0.mk (hp_); have n1_ := Aside0.mk ((by rw [hw]; exact below_set (HB.out) GB10.out : Below w.heap.size w w15)); clear HO_5; clear HB; have HO_5 := n0_; have HB := n1_; clear n0_ n1_; clear hg hw hp_))
       (try simp only [← hl5_1])
       go_roundg k1
       case measure => have := HK1.out; omega
       case rel => exact ⟨(y426), (wrap64 (x11_1 + 1)), (by first | rfl | (simp; done) | (simp [*]; done)), H', ⟨by have := HK1.out; omega⟩, ⟨by (try simp only [hl5_1]); exact rF HO_5.out⟩, ⟨by repeat (first | (with_reducible first | exact HB.out | apply bA | apply bN | apply bD) | exact HB.out)⟩⟩
      ·rw [if_neg c9] at H
       have c9b0 : (((rd_T149 x5_1 x11_1).f0) == 3) = false := beq_eq_false_iff_ne.mpr c9
       have c9b1 : (((rd_T149 x5_1 x11_1).f0) != 3) = true := bne_iff_ne.mpr c9
       by_cases c16 : ((rd_T149 x5_1 x11_1).f0) = 4
       ·rw [if_pos c16] at H
        have c16b0 : (((rd_T149 x5_1 x11_1).f0) == 4) = true := beq_iff_eq.mpr c16
        have c16b1 : (((rd_T149 x5_1 x11_1).f0) != 4) = false := bne_eq_false_iff_eq.mpr c16
        clear c16
        obtain ⟨y429, hy429⟩ : ∃ y_ : List (S149), y_ = (x5_1.set (x11_1 : Int).toNat (⟨(rd_T149 x5_1 x11_1).f0, wrap64 (((rd_T149 x5_1 x11_1).f1) + a0), (rd_T149 x5_1 x11_1).f2, (⟨(rd_T149 x5_1 x11_1).f3.f0, (rd_T149 x5_1 x11_1).f3.f1⟩ : S28)⟩ : S149)) := ⟨_, rfl⟩
        replace H : (zero_behind.l0 k1 a0 (y429.set (x11_1 : Int).toNat (⟨(rd_T149 y429 x11_1).f0, (rd_T149 y429 x11_1).f1, wrap64 (((rd_T149 y429 x11_1).f2) + a0), (⟨(rd_T149 y429 x11_1).f3.f0, (rd_T149 y429 x11_1).f3.f1⟩ : S28)⟩ : S149)) (t419.length : Int) (wrap64 (x11_1 + 1))) = some r := by first | (rw [hy429]; with_reducible exact H) | (have H2_ := (Option.bind_some _ _).symm.trans H; rw [hy429]; with_reducible exact H2_) | (have H2_ := (Option.bind_some _ _).symm.trans H; with_reducible exact H2_) | with_reducible exact H | (rw [hy429]; exact H) | exact H
        have Ny429 := Aside0.mk hy429
        clear hy429
        obtain ⟨y431, hy431⟩ : ∃ y_ : List (S149), y_ = (y429.set (x11_1 : Int).toNat (⟨(rd_T149 y429 x11_1).f0, (rd_T149 y429 x11_1).f1, wrap64 (((rd_T149 y429 x11_1).f2) + a0), (⟨(rd_T149 y429 x11_1).f3.f0, (rd_T149 y429 x11_1).f3.f1⟩ : S28)⟩ : S149)) := ⟨_, rfl⟩
        replace H : (zero_behind.l0 k1 a0 y431 (t419.length : Int) (wrap64 (x11_1 + 1))) = some r := by first | (rw [hy431]; with_reducible exact H) | (have H2_ := (Option.bind_some _ _).symm.trans H; rw [hy431]; with_reducible exact H2_) | (have H2_ := (Option.bind_some _ _).symm.trans H; with_reducible exact H2_) | with_reducible exact H | (rw [hy431]; exact H) | exact H
        have Ny431 := Aside0.mk hy431
        clear hy431
        have H' := Aside0.mk H
        clear H
        have p422 : 0 ≤ (x11_1 : Int) := of_decide_eq_true (by first | (with_reducible assumption) | assumption)
        have q422 : x11_1 < (x5_1.length : Int) := of_decide_eq_true (by first | (with_reducible assumption) | assumption)
        obtain ⟨ad422, e422, hx422_0, hx422_1, hx422_2, hx422_3, hx422_4⟩ := at_T149 (Kd.R_reads' HO_5.out).2.2 x11_1 p422 q422
        cases e422
        replace p422 := eq_true p422
        replace q422 := eq_true q422
        have p427 : 0 ≤ (x11_1 : Int) := of_decide_eq_true (by first | (with_reducible assumption) | assumption)
        have q427 : x11_1 < (x5_1.length : Int) := of_decide_eq_true (by first | (with_reducible assumption) | assumption)
        obtain ⟨ad427, e427, hx427_0, hx427_1, hx427_2, hx427_3, hx427_4⟩ := at_T149 (Kd.R_reads' HO_5.out).2.2 x11_1 p427 q427
        obtain rfl : ad422 = ad427 := (by injection e427)
        replace p427 := eq_true p427
        replace q427 := eq_true q427
        have p428 : 0 ≤ (x11_1 : Int) := of_decide_eq_true (by first | (with_reducible assumption) | assumption)
        have q428 : x11_1 < (x5_1.length : Int) := of_decide_eq_true (by first | (with_reducible assumption) | assumption)
        obtain ⟨ad428, e428, hx428_0, hx428_1, hx428_2, hx428_3, hx428_4⟩ := at_T149 (Kd.R_reads' HO_5.out).2.2 x11_1 p428 q428
        obtain rfl : ad422 = ad428 := (by injection e428)
        replace p428 := eq_true p428
        replace q428 := eq_true q428
        have p17 : 0 ≤ (x11_1 : Int) := of_decide_eq_true (by first | (with_reducible assumption) | assumption)
        have q17 : (x11_1 : Int) < ((x5_1.length : Int) : Int) := of_decide_eq_true (by first | (with_reducible assumption) | assumption)
        obtain ⟨go17, co17, eo17, gb17, gl17, cl17, HG17⟩ := Kd.R_form HO_5.out (by omega)
        (first | cases eo17 | (injection eo17 with ea_ en_ ec_; (first | subst ea_ | (injection ea_ with ea_; subst ea_)); subst ec_; clear en_))
        have GB17 := Aside0.mk gb17
        have GG17 := Aside0.mk HG17
        clear gb17 gl17 HG17
        (first | simp only [add_plain] at hx422_0 | skip)
        (first | simp only [add_plain] at hx422_1 | skip)
        (first | simp only [add_plain] at hx422_2 | skip)
        (first | simp only [add_plain] at hx422_3 | skip)
        (first | simp only [add_plain] at hx422_4 | skip)
        (first | simp only [add_plain] at hx427_0 | skip)
        (first | simp only [add_plain] at hx427_1 | skip)
        (first | simp only [add_plain] at hx427_2 | skip)
        (first | simp only [add_plain] at hx427_3 | skip)
        (first | simp only [add_plain] at hx427_4 | skip)
        (first | simp only [add_plain] at hx428_0 | skip)
        (first | simp only [add_plain] at hx428_1 | skip)
        (first | simp only [add_plain] at hx428_2 | skip)
        (first | simp only [add_plain] at hx428_3 | skip)
        (first | simp only [add_plain] at hx428_4 | skip)
        obtain ⟨ce17, hcl17, hM17, hcc17, hfr17⟩ := Kd.R_elem HO_5.out z149 (x11_1 : Int) p17 q17
        obtain rfl := k149_openM hM17
        have hx17_0 : wr.cell? ⟨go17, (x11_1 : Int).toNat * 5, none⟩ = some (.int .i64 ((rd_T149 x5_1 x11_1).f0)) := hcc17 0 _ rfl
        have hx17_1 : wr.cell? ⟨go17, (x11_1 : Int).toNat * 5 + 1, none⟩ = some (.int .i64 ((rd_T149 x5_1 x11_1).f1)) := hcc17 1 _ rfl
        have hx17_2 : wr.cell? ⟨go17, (x11_1 : Int).toNat * 5 + 2, none⟩ = some (.int .i64 ((rd_T149 x5_1 x11_1).f2)) := hcc17 2 _ rfl
        have hx17_3 : wr.cell? ⟨go17, (x11_1 : Int).toNat * 5 + 3, none⟩ = some (.int .u64 ((rd_T149 x5_1 x11_1).f3.f0)) := hcc17 3 _ rfl
        have hx17_4 : wr.cell? ⟨go17, (x11_1 : Int).toNat * 5 + 4, none⟩ = some (.int .u64 ((rd_T149 x5_1 x11_1).f3.f1)) := hcc17 4 _ rfl
        have hf17_0 : wr.frozen? ⟨go17, (x11_1 : Int).toNat * 5, none⟩ = false := hfr17 0
        have hf17_1 : wr.frozen? ⟨go17, (x11_1 : Int).toNat * 5 + 1, none⟩ = false := hfr17 1
        have hf17_2 : wr.frozen? ⟨go17, (x11_1 : Int).toNat * 5 + 2, none⟩ = false := hfr17 2
        have hf17_3 : wr.frozen? ⟨go17, (x11_1 : Int).toNat * 5 + 3, none⟩ = false := hfr17 3
        have hf17_4 : wr.frozen? ⟨go17, (x11_1 : Int).toNat * 5 + 4, none⟩ = false := hfr17 4
        clear hcl17 hcc17 hfr17 hM17
        replace p17 := eq_true p17
        replace q17 := eq_true q17
        have HX19 := Aside0.mk (show Kd.R k149 149 wr w.heap.size (fun _ => True) (.slice (some ⟨go17, 0, none⟩) x5_1.length co5) x5_1 from (by exact rF HO_5.out))
        obtain ⟨ce19, hcl19, hM19, hcc19, hfr19⟩ := Kd.R_elem HX19.out z149 (x11_1 : Int) (of_decide_eq_true (by first | (with_reducible assumption) | assumption)) (by have h_ : (x11_1 : Int) < ((x5_1.length : Int) : Int) := of_decide_eq_true (by first | (with_reducible assumption) | assumption); first | exact h_ | (have e_ := (Kd.R_reads' HO_5.out).1; omega) | simpa using h_)
        obtain rfl := k149_openM hM19
        have HP19 := Kd.R_seg HX19.out (x11_1 : Int) (of_decide_eq_true (by first | (with_reducible assumption) | assumption)) (by have h_ : (x11_1 : Int) < ((x5_1.length : Int) : Int) := of_decide_eq_true (by first | (with_reducible assumption) | assumption); first | exact h_ | (have e_ := (Kd.R_reads' HO_5.out).1; omega) | simpa using h_) (seg := [.int .i64 (wrap64 (((rd_T149 x5_1 x11_1).f1) + a0))]) (j := 1) hcl19 hcc19 (show 2 ≤ 5 from by decide) (x' := (⟨(rd_T149 x5_1 x11_1).f0, wrap64 (((rd_T149 x5_1 x11_1).f1) + a0), (rd_T149 x5_1 x11_1).f2, (⟨(rd_T149 x5_1 x11_1).f3.f0, (rd_T149 x5_1 x11_1).f3.f1⟩ : S28)⟩ : S149)) (k149_mkM _ _ _ (⟨(rd_T149 x5_1 x11_1).f0, wrap64 (((rd_T149 x5_1 x11_1).f1) + a0), (rd_T149 x5_1 x11_1).f2, (⟨(rd_T149 x5_1 x11_1).f3.f0, (rd_T149 x5_1 x11_1).f3.f1⟩ : S28)⟩ : S149) ) (fun _ hk => hk)
        have hx19_1 := hcc19 1 _ rfl
        (try simp only [show (k149).sz = 5 from rfl, Nat.mul_one, Nat.add_zero] at hx19_1)
        have hf19_1 := hfr19 1
        (try simp only [show (k149).sz = 5 from rfl, Nat.mul_one, Nat.add_zero] at hf19_1)
        clear hcl19 hcc19 hfr19 hM19
        go_wp2_with (first | ((with_reducible refine gate_store (t := 3) (p := 36) rfl ?_); refine store_event (t := 3) (p := 36) (v := ?vo_w20) (w1 := (wr.setCell ⟨go17, (x11_1 : Int).toNat * 5 + 1, none⟩ (.int .i64 (wrap64 (((rd_T149 x5_1 x11_1).f1) + a0))))) ?hg ?ho ?hn ?hr ?_; (case ho => rfl); (case hg => rfl); (case hn => rfl); (case hr => first | (go_simp; done) | (go_simp; rfl)); intro w20 hw; have hg : wr.grownBy w20 (some go17) := (by rw [hw]; exact HP19.2); have hp_ : Kd.R k149 149 w20 w.heap.size (fun _ => True) (.slice (some ⟨go17, 0, none⟩) x5_1.length co5) y429 := (by rw [hw, Ny429.out]; exact HP19.1); clear HP19; have n0_ := Aside0.mk (hp_); have n1_ := Aside0.mk ((by rw [hw]; exact below_set (HB.out) GB17.out : Below w.heap.size w w20)); clear HO_5; clear HB; have HO_5 := n0_; have HB := n1_; clear n0_ n1_; clear hg hw hp_; have p430 : 0 ≤ (x11_1 : Int) := of_decide_eq_true (by first | (with_reducible assumption) | assumption); have q430 : x11_1 < (y429.length : Int) := (by have h_ : (x11_1 : Int) < ((x5_1.length : Int) : Int) := of_decide_eq_true (by first | (with_reducible assumption) | assumption); first | (have e_ := (Kd.R_reads' HO_5.out).1; omega) | simpa only [Ny429.out, List.length_set] using h_); have ql430 : ((x11_1 : Int) < ((x5_1.length : Int) : Int)) = True := eq_true (of_decide_eq_true (by first | (with_reducible assumption) | assumption)); obtain ⟨ad430, e430, hx430_0, hx430_1, hx430_2, hx430_3, hx430_4⟩ := at_T149 (Kd.R_reads' HO_5.out).2.2 x11_1 p430 q430; obtain rfl : (⟨go17, 0, none⟩ : Addr) = ad430 := (by injection e430); (first | simp only [add_plain] at hx430_0 | simp only [add_at] at hx430_0 | simp only [Addr.add, Nat.zero_add] at hx430_0 | skip); (first | simp only [add_plain] at hx430_1 | simp only [add_at] at hx430_1 | simp only [Addr.add, Nat.zero_add] at hx430_1 | skip); (first | simp only [add_plain] at hx430_2 | simp only [add_at] at hx430_2 | simp only [Addr.add, Nat.zero_add] at hx430_2 | skip); (first | simp only [add_plain] at hx430_3 | simp only [add_at] at hx430_3 | simp only [Addr.add, Nat.zero_add] at hx430_3 | skip); (first | simp only [add_plain] at hx430_4 | simp only [add_at] at hx430_4 | simp only [Addr.add, Nat.zero_add] at hx430_4 | skip); replace p430 := eq_true p430; replace q430 := eq_true q430; have p18 : 0 ≤ (x11_1 : Int) := of_decide_eq_true (by first | (with_reducible assumption) | assumption); have q18 : (x11_1 : Int) < ((x5_1.length : Int) : Int) := of_decide_eq_true (by first | (with_reducible assumption) | assumption); obtain ⟨ce18, hcl18, hM18, hcc18, hfr18⟩ := Kd.R_elem HO_5.out z149 (x11_1 : Int) p18 q18; obtain rfl := k149_openM hM18; have hx18_0 : w20.cell? ⟨go17, (x11_1 : Int).toNat * 5, none⟩ = some (.int .i64 ((rd_T149 y429 x11_1).f0)) := hcc18 0 _ rfl; have hx18_1 : w20.cell? ⟨go17, (x11_1 : Int).toNat * 5 + 1, none⟩ = some (.int .i64 ((rd_T149 y429 x11_1).f1)) := hcc18 1 _ rfl; have hx18_2 : w20.cell? ⟨go17, (x11_1 : Int).toNat * 5 + 2, none⟩ = some (.int .i64 ((rd_T149 y429 x11_1).f2)) := hcc18 2 _ rfl; have hx18_3 : w20.cell? ⟨go17, (x11_1 : Int).toNat * 5 + 3, none⟩ = some (.int .u64 ((rd_T149 y429 x11_1).f3.f0)) := hcc18 3 _ rfl; have hx18_4 : w20.cell? ⟨go17, (x11_1 : Int).toNat * 5 + 4, none⟩ = some (.int .u64 ((rd_T149 y429 x11_1).f3.f1)) := hcc18 4 _ rfl; have hf18_0 : w20.frozen? ⟨go17, (x11_1 : Int).toNat * 5, none⟩ = false := hfr18 0; have hf18_1 : w20.frozen? ⟨go17, (x11_1 : Int).toNat * 5 + 1, none⟩ = false := hfr18 1; have hf18_2 : w20.frozen? ⟨go17, (x11_1 : Int).toNat * 5 + 2, none⟩ = false := hfr18 2; have hf18_3 : w20.frozen? ⟨go17, (x11_1 : Int).toNat * 5 + 3, none⟩ = false := hfr18 3; have hf18_4 : w20.frozen? ⟨go17, (x11_1 : Int).toNat * 5 + 4, none⟩ = false := hfr18 4; clear hcl18 hcc18 hfr18 hM18; replace p18 := eq_true p18; replace q18 := eq_true q18; have HX21 := Aside0.mk (show Kd.R k149 149 w20 w.heap.size (fun _ => True) (.slice (some ⟨go17, 0, none⟩) x5_1.length co5) y429 from (by exact rF HO_5.out)); obtain ⟨ce21, hcl21, hM21, hcc21, hfr21⟩ := Kd.R_elem HX21.out z149 (x11_1 : Int) (of_decide_eq_true (by first | (with_reducible assumption) | assumption)) (by have h_ : (x11_1 : Int) < ((x5_1.length : Int) : Int) := of_decide_eq_true (by first | (with_reducible assumption) | assumption); first | exact h_ | (have e_ := (Kd.R_reads' HO_5.out).1; omega) | simpa using h_); obtain rfl := k149_openM hM21; have HP21 := Kd.R_seg HX21.out (x11_1 : Int) (of_decide_eq_true (by first | (with_reducible assumption) | assumption)) (by have h_ : (x11_1 : Int) < ((x5_1.length : Int) : Int) := of_decide_eq_true (by first | (with_reducible assumption) | assumption); first | exact h_ | (have e_ := (Kd.R_reads' HO_5.out).1; omega) | simpa using h_) (seg := [.int .i64 (wrap64 (((rd_T149 y429 x11_1).f2) + a0))]) (j := 2) hcl21 hcc21 (show 3 ≤ 5 from by decide) (x' := (⟨(rd_T149 y429 x11_1).f0, (rd_T149 y429 x11_1).f1, wrap64 (((rd_T149 y429 x11_1).f2) + a0), (⟨(rd_T149 y429 x11_1).f3.f0, (rd_T149 y429 x11_1).f3.f1⟩ : S28)⟩ : S149)) (k149_mkM _ _ _ (⟨(rd_T149 y429 x11_1).f0, (rd_T149 y429 x11_1).f1, wrap64 (((rd_T149 y429 x11_1).f2) + a0), (⟨(rd_T149 y429 x11_1).f3.f0, (rd_T149 y429 x11_1).f3.f1⟩ : S28)⟩ : S149) ) (fun _ hk => hk); have hx21_2 := hcc21 2 _ rfl; (try simp only [show (k149).sz = 5 from rfl, Nat.mul_one, Nat.add_zero] at hx21_2); have hf21_2 := hfr21 2; (try simp only [show (k149).sz = 5 from rfl, Nat.mul_one, Nat.add_zero] at hf21_2); clear hcl21 hcc21 hfr21 hM21) | ((with_reducible refine gate_store (t := 3) (p := 45) rfl ?_); refine store_event (t := 3) (p := 45) (v := ?vo_w22) (w1 := (w20.setCell ⟨go17, (x11_1 : Int).toNat * 5 + 2, none⟩ (.int .i64 (wrap64 (((rd_T149 y429 x11_1).f2) + a0))))) ?hg ?ho ?hn ?hr ?_; (case ho => rfl); (case hg => rfl); (case hn => rfl); (case hr => first | (go_simp; done) | (go_simp; rfl)); intro w22 hw; have hg : w20.grownBy w22 (some go17) := (by rw [hw]; exact HP21.2); have hp_ : Kd.R k149 149 w22 w.heap.size (fun _ => True) (.slice (some ⟨go17, 0, none⟩) x5_1.length co5) y431 := (by rw [hw, Ny431.out]; exact HP21.1); clear HP21; have n0_ := Aside0.mk (hp_); have n1_ := Aside0.mk ((by rw [hw]; exact below_set (HB.out) GB17.out : Below w.heap.size w w22)); clear HO_5; clear HB; have HO_5 := n0_; have HB := n1_; clear n0_ n1_; clear hg hw hp_))
        (try simp only [← hl5_1])
        go_roundg k1
        case measure => have := HK1.out; omega
        case rel => exact ⟨(y431), (wrap64 (x11_1 + 1)), (by first | rfl | (simp; done) | (simp [*]; done)), H', ⟨by have := HK1.out; omega⟩, ⟨by (try simp only [hl5_1]); exact rF HO_5.out⟩, ⟨by repeat (first | (with_reducible first | exact HB.out | apply bA | apply bN | apply bD) | exact HB.out)⟩⟩
       ·rw [if_neg c16] at H
        have c16b0 : (((rd_T149 x5_1 x11_1).f0) == 4) = false := beq_eq_false_iff_ne.mpr c16
        have c16b1 : (((rd_T149 x5_1 x11_1).f0) != 4) = true := bne_iff_ne.mpr c16
        have H' := Aside0.mk H
        clear H
        have p422 : 0 ≤ (x11_1 : Int) := of_decide_eq_true (by first | (with_reducible assumption) | assumption)
        have q422 : x11_1 < (x5_1.length : Int) := of_decide_eq_true (by first | (with_reducible assumption) | assumption)
        obtain ⟨ad422, e422, hx422_0, hx422_1, hx422_2, hx422_3, hx422_4⟩ := at_T149 (Kd.R_reads' HO_5.out).2.2 x11_1 p422 q422
        cases e422
        replace p422 := eq_true p422
        replace q422 := eq_true q422
        have p427 : 0 ≤ (x11_1 : Int) := of_decide_eq_true (by first | (with_reducible assumption) | assumption)
        have q427 : x11_1 < (x5_1.length : Int) := of_decide_eq_true (by first | (with_reducible assumption) | assumption)
        obtain ⟨ad427, e427, hx427_0, hx427_1, hx427_2, hx427_3, hx427_4⟩ := at_T149 (Kd.R_reads' HO_5.out).2.2 x11_1 p427 q427
        obtain rfl : ad422 = ad427 := (by injection e427)
        replace p427 := eq_true p427
        replace q427 := eq_true q427
        go_wp2
        (try simp only [← hl5_1])
        go_roundg k1
        case measure => have := HK1.out; omega
        case rel => exact ⟨(x5_1), (wrap64 (x11_1 + 1)), (by first | rfl | (simp; done) | (simp [*]; done)), H', ⟨by have := HK1.out; omega⟩, ⟨by (try simp only [hl5_1]); exact rF HO_5.out⟩, ⟨by repeat (first | (with_reducible first | exact HB.out | apply bA | apply bN | apply bD) | exact HB.out)⟩⟩
     ·rw [if_neg c8] at H
      exact absurd H (by simp)
    ·rw [if_neg c7] at H
     exact absurd H (by simp)
   ·rw [if_neg c6] at H
    have c6b0 : decide (x11_1 < (t419.length : Int)) = false := decide_eq_false c6
    (try rw [hl5_1] at c6b0)
    clear c6
    obtain rfl := Option.some.inj H
    go_wp2
    go_ret
    exact ⟨_, by first | rfl | (simp [errW_none, errW_some] <;> rfl) | (simp [*, errW_none, errW_some] <;> rfl), by exact rF HO_5.out, by repeat (first | (with_reducible first | exact HB.out | apply bA | apply bN | apply bD) | exact HB.out)⟩
def zero_mix.l0 : Nat → Int → Int → List (S149) → Int → List (List (S149)) → Int → Int → Int → Int → Int → Int → Option ((List (S149)))
 | 0, _, _, _, _, _, _, _, _, _, _, _ => none
 | k + 1, x0, x1, x9, x10, x16, x17, x18, x433000, x433001, x436000, x436001 => if x18 < x17 then (if 0 ≤ x18 then (if x18 < (x16.length : Int) then ((zero_behind.f k (x9.length : Int) (rd_L13 x16 x18)).bind fun t443 => (if x9.length + t443.length < 3518437208883 then ((some (x9 ++ t443 : List (S149))).bind fun y446 => (if x18 = 0 then (zero_mix.l0 k x0 x1 y446 (wrap64 ((y446.length : Int) - 1)) x16 x17 (wrap64 (x18 + 1)) x433000 x433001 x436000 x436001) else ((tower_Mul.f k x0 x436000 x436001 x433000 x433001).bind fun bt449 => ((some (([(⟨1, 0, 0, (⟨bt449.1, bt449.2⟩ : S28)⟩ : S149), (⟨4, wrap64 ((wrap64 ((y446.length : Int) - 1)) + 1), wrap64 ((y446.length : Int) - 1), (⟨0, 0⟩ : S28)⟩ : S149), (⟨3, x10, wrap64 ((wrap64 ((y446.length : Int) - 1)) + 2), (⟨0, 0⟩ : S28)⟩ : S149)] : List (S149)) : List (S149))).bind fun y451 => (if y446.length + y451.length < 3518437208883 then (zero_mix.l0 k x0 x1 (y446 ++ y451) (wrap64 ((wrap64 ((y446.length : Int) - 1)) + 3)) x16 x17 (wrap64 (x18 + 1)) x433000 x433001 bt449.1 bt449.2) else (none)))))) else (none))) else (none)) else (none)) else ((some (([(⟨2, x1, 0, (⟨0, 0⟩ : S28)⟩ : S149), (⟨4, (x9.length : Int), x10, (⟨0, 0⟩ : S28)⟩ : S149)] : List (S149)) : List (S149))).bind fun y436 => (if x9.length + y436.length < 3518437208883 then (some (x9 ++ y436)) else (none)))
def zero_mix.f (k : Nat) (a0 : Int) (a1 : Int) (l2 : List (List (S149))) (a3_0 : Int) (a3_1 : Int) : Option ((List (S149))) := (tower_One.f).bind fun bt433 => (zero_mix.l0 k a0 a1 ([] : List (S149)) 0 l2 (l2.length : Int) 0 a3_0 a3_1 bt433.1 bt433.2)
set_option maxHeartbeats 8000000 in
set_option maxRecDepth 100000 in
theorem zero_mix.calls (k : Nat) (a0 : Int) (a1 : Int) (A2 : Option Addr) (c2 : Nat) (l2 : List (List (S149))) (a3_0 : Int) (a3_1 : Int) (r : List (S149)) (w : World) (hr2 : Kd.C (Kd.slice 149 k149) w A2 l2.length l2) (hc2 : l2.length ≤ c2) (h : zero_mix.f k a0 a1 l2 a3_0 a3_1 = some r) :
  Calls Try.prog 92 #[.int .i64 a0, .int .i64 a1, .slice A2 l2.length c2, .agg #[.int .u64 a3_0, .int .u64 a3_1]] w fun e w' => ∃ v0_ : Value, e = .returned (v0_) ∧ Kd.R k149 149 w' w.heap.size (fun _ => True) v0_ r ∧ Below w.heap.size w w' := by
 have hu28 := Try.underlying28
 have hu149 := Try.underlying149
 have HR2 := Aside0.mk hr2
 have HC2 := Aside0.mk hc2
 clear hr2 hc2
 have HB := Aside0.mk (Below.refl w.heap.size w)
 have H : ((tower_One.f).bind fun bt433 => (zero_mix.l0 k a0 a1 ([] : List (S149)) 0 l2 (l2.length : Int) 0 a3_0 a3_1 bt433.1 bt433.2)) = some r := h
 clear h
 replace H := Option.bind_eq_some_iff.mp H
 obtain ⟨⟨t433, t434⟩, A50, H⟩ := H
 replace H : (zero_mix.l0 k a0 a1 ([] : List (S149)) 0 l2 (l2.length : Int) 0 a3_0 a3_1 t433 t434) = some r := H
 have A5 := Aside0.mk A50
 clear A50
 have H' := Aside0.mk H
 clear H
 go_enter Try.func92, Try.ntmps92
 go_wp2_with (first | ((with_reducible refine gate_dst (N := 7) rfl ?_); refine box_event ?hg (N := 7) ?hd (cs := #[.int .u64 a3_0, .int .u64 a3_1]) (t := 28) ?hr ?_; (case hd => rfl); (case hg => rfl); (case hr => first | (go_simp; done) | (go_simp; rfl)); intro gb432 hg w6 hbox hb; have n0_ := Aside0.mk (below_step (by exact lF HB.out) hb); have n1_ := Aside0.mk (hbox); have n2_ := Aside0.mk ((by rw [hg]; exact (below_size (by exact lF HB.out)) : w.heap.size ≤ gb432)); have n3_ := Aside0.mk ((by rw [hg]; exact (below_size (by exact lF HB.out)) : w.heap.size ≤ gb432)); clear HB; have HB := n0_; have BK432 := n1_; have GW432 := n2_; have GE432 := n3_; clear n0_ n1_ n2_ n3_; clear hb hbox hg) | ((with_reducible refine gate_callee (f := 130) rfl ?_); refine goesL_ (some 15) rfl rfl Try.func130 (by kernel_rfl) rfl #[] rfl (by (try simp only [List.map_toArray, List.map_cons, List.map_nil]); first | done | rfl | (simp only [List.length_drop, List.length_take]; rfl)) ?_; (with_reducible refine (tower_One.calls  t433 t434 _ A5.out).mono ?_); rintro e w7 ⟨rfl, hb⟩; refine ⟨_, rfl, ?_⟩; have n0_ := Aside0.mk (blk_below (g := gb432) (o := .cells #[.int .u64 a3_0, .int .u64 a3_1] 28 (0, 0)) (by exact bF BK432.out) hb); have n1_ := Aside0.mk (below_step (by repeat (first | (with_reducible first | exact HB.out | apply bA | apply bN | apply bD | refine bS ?_ GE432.out) | exact HB.out)) hb); clear BK432; clear HB; have BK432 := n0_; have HB := n1_; clear n0_ n1_; (try clear hb); (try clear hb2); (try clear hk); (try clear hi)) | ((with_reducible refine gate_dst (N := 11) rfl ?_); refine box_event ?hg (N := 11) ?hd (cs := #[.int .u64 0, .int .u64 0]) (t := 28) ?hr ?_; (case hd => rfl); (case hg => rfl); (case hr => first | (go_simp; done) | (go_simp; rfl)); intro gb435 hg w8 hbox hb; have n0_ := Aside0.mk (blk_below (g := gb432) (o := .cells #[.int .u64 a3_0, .int .u64 a3_1] 28 (0, 0)) (by exact bF BK432.out) hb); have n1_ := Aside0.mk (below_step (by repeat (first | (with_reducible first | exact HB.out | apply bA | apply bN | apply bD | refine bS ?_ GE432.out) | exact HB.out)) hb); have n2_ := Aside0.mk (hbox); have n3_ := Aside0.mk ((by rw [hg]; exact (below_size (by repeat (first | (with_reducible first | exact HB.out | apply bA | apply bN | apply bD | refine bS ?_ GE432.out) | exact HB.out))) : w.heap.size ≤ gb435)); have n4_ := Aside0.mk ((by rw [hg]; exact (below_size (by repeat (first | (with_reducible first | exact HB.out | apply bA | apply bN | apply bD | refine bS ?_ GE432.out) | exact HB.out))) : w.heap.size ≤ gb435)); have n5_ := Aside0.mk ((by rw [hg]; exact Nat.ne_of_lt (blk_lt (g := gb432) (o := .cells #[.int .u64 a3_0, .int .u64 a3_1] 28 (0, 0)) (by exact bF BK432.out)) : gb432 ≠ gb435)); have n6_ := Aside0.mk ((by rw [hg]; exact Nat.ne_of_gt (blk_lt (g := gb432) (o := .cells #[.int .u64 a3_0, .int .u64 a3_1] 28 (0, 0)) (by exact bF BK432.out)) : gb435 ≠ gb432)); clear BK432; clear HB; have BK432 := n0_; have HB := n1_; have BK435 := n2_; have GW435 := n3_; have GE435 := n4_; have NB432_435 := n5_; have NB435_432 := n6_; clear n0_ n1_ n2_ n3_ n4_ n5_ n6_; clear hb hbox hg; have hnb9 := NB435_432.out; have hnc9 := NB432_435.out; have hcz10_0 : w8.cell? ⟨gb435, 0, none⟩ = some (.int .u64 0) := (blk_cell BK435.out 0).trans rfl; have hcz10_1 : w8.cell? ⟨gb435, 1, none⟩ = some (.int .u64 0) := (blk_cell BK435.out 1).trans rfl; have hfz10_0 := blk_frozen BK435.out 0; have hfz10_1 := blk_frozen BK435.out 1))
 go_step3
 go_wp2_with (first | ((with_reducible refine gate_dst (N := 7) rfl ?_); refine box_event ?hg (N := 7) ?hd (cs := #[.int .u64 a3_0, .int .u64 a3_1]) (t := 28) ?hr ?_; (case hd => rfl); (case hg => rfl); (case hr => first | (go_simp; done) | (go_simp; rfl)); intro gb432 hg w6 hbox hb; have n0_ := Aside0.mk (below_step (by exact lF HB.out) hb); have n1_ := Aside0.mk (hbox); have n2_ := Aside0.mk ((by rw [hg]; exact (below_size (by exact lF HB.out)) : w.heap.size ≤ gb432)); have n3_ := Aside0.mk ((by rw [hg]; exact (below_size (by exact lF HB.out)) : w.heap.size ≤ gb432)); clear HB; have HB := n0_; have BK432 := n1_; have GW432 := n2_; have GE432 := n3_; clear n0_ n1_ n2_ n3_; clear hb hbox hg) | ((with_reducible refine gate_callee (f := 130) rfl ?_); refine goesL_ (some 15) rfl rfl Try.func130 (by kernel_rfl) rfl #[] rfl (by (try simp only [List.map_toArray, List.map_cons, List.map_nil]); first | done | rfl | (simp only [List.length_drop, List.length_take]; rfl)) ?_; (with_reducible refine (tower_One.calls  t433 t434 _ A5.out).mono ?_); rintro e w7 ⟨rfl, hb⟩; refine ⟨_, rfl, ?_⟩; have n0_ := Aside0.mk (blk_below (g := gb432) (o := .cells #[.int .u64 a3_0, .int .u64 a3_1] 28 (0, 0)) (by exact bF BK432.out) hb); have n1_ := Aside0.mk (below_step (by repeat (first | (with_reducible first | exact HB.out | apply bA | apply bN | apply bD | refine bS ?_ GE432.out) | exact HB.out)) hb); clear BK432; clear HB; have BK432 := n0_; have HB := n1_; clear n0_ n1_; (try clear hb); (try clear hb2); (try clear hk); (try clear hi)) | ((with_reducible refine gate_dst (N := 11) rfl ?_); refine box_event ?hg (N := 11) ?hd (cs := #[.int .u64 0, .int .u64 0]) (t := 28) ?hr ?_; (case hd => rfl); (case hg => rfl); (case hr => first | (go_simp; done) | (go_simp; rfl)); intro gb435 hg w8 hbox hb; have n0_ := Aside0.mk (blk_below (g := gb432) (o := .cells #[.int .u64 a3_0, .int .u64 a3_1] 28 (0, 0)) (by exact bF BK432.out) hb); have n1_ := Aside0.mk (below_step (by repeat (first | (with_reducible first | exact HB.out | apply bA | apply bN | apply bD | refine bS ?_ GE432.out) | exact HB.out)) hb); have n2_ := Aside0.mk (hbox); have n3_ := Aside0.mk ((by rw [hg]; exact (below_size (by repeat (first | (with_reducible first | exact HB.out | apply bA | apply bN | apply bD | refine bS ?_ GE432.out) | exact HB.out))) : w.heap.size ≤ gb435)); have n4_ := Aside0.mk ((by rw [hg]; exact (below_size (by repeat (first | (with_reducible first | exact HB.out | apply bA | apply bN | apply bD | refine bS ?_ GE432.out) | exact HB.out))) : w.heap.size ≤ gb435)); have n5_ := Aside0.mk ((by rw [hg]; exact Nat.ne_of_lt (blk_lt (g := gb432) (o := .cells #[.int .u64 a3_0, .int .u64 a3_1] 28 (0, 0)) (by exact bF BK432.out)) : gb432 ≠ gb435)); have n6_ := Aside0.mk ((by rw [hg]; exact Nat.ne_of_gt (blk_lt (g := gb432) (o := .cells #[.int .u64 a3_0, .int .u64 a3_1] 28 (0, 0)) (by exact bF BK432.out)) : gb435 ≠ gb432)); clear BK432; clear HB; have BK432 := n0_; have HB := n1_; have BK435 := n2_; have GW435 := n3_; have GE435 := n4_; have NB432_435 := n5_; have NB435_432 := n6_; clear n0_ n1_ n2_ n3_ n4_ n5_ n6_; clear hb hbox hg; have hnb9 := NB435_432.out; have hnc9 := NB432_435.out; have hcz10_0 : w8.cell? ⟨gb435, 0, none⟩ = some (.int .u64 0) := (blk_cell BK435.out 0).trans rfl; have hcz10_1 : w8.cell? ⟨gb435, 1, none⟩ = some (.int .u64 0) := (blk_cell BK435.out 1).trans rfl; have hfz10_0 := blk_frozen BK435.out 0; have hfz10_1 := blk_frozen BK435.out 1))
 go_step3
 go_wp2
 go_loopg [9, 10, 18] k (fun kq v9 v10 v18 w' => ∃ (x9_1 : List (S149)) (x10_1 : Int) (x18_1 : Int) (x436000_1 : Int) (x436001_1 : Int), v10 = .int .i64 x10_1 ∧ v18 = .int .i64 x18_1 ∧ Aside0 (zero_mix.l0 kq a0 a1 x9_1 x10_1 l2 (l2.length : Int) x18_1 a3_0 a3_1 x436000_1 x436001_1 = some r) ∧ Aside0 (kq ≤ k) ∧ Aside0 (Kd.R k149 149 w' w.heap.size (fun _ => True) v9 x9_1) ∧ Aside0 (w'.heap[gb432]? = some (.cells #[.int .u64 a3_0, .int .u64 a3_1] 28 (0, 0))) ∧ Aside0 (w'.heap[gb435]? = some (.cells #[.int .u64 x436000_1, .int .u64 x436001_1] 28 (0, 0))) ∧ Aside0 (Below w.heap.size w w'))
 case atStart => exact ⟨(([] : List (S149))), (0), (0), (t433), (t434), (by first | rfl | (simp; done) | (simp [*]; done)), (by first | rfl | (simp; done) | (simp [*]; done)), H', ⟨Nat.le_refl _⟩, ⟨by first | exact Kd.R_nil _ _ _ _ _ | exact Kd.N_nil _ _ _ _ _ | exact Kd.V_nil _ _ _ _ _ | exact Kd.Q_nil _ _ _ _ _ | exact Kd.S_nil _ _ _ _ _⟩, ⟨by (with_reducible repeat (first | refine blk_drewN ?_ _ | refine blk_drew ?_ | refine blk_alloc ?_ _)); refine blk_far ?_ NB432_435.out _; (with_reducible repeat (first | refine blk_drewN ?_ _ | refine blk_drew ?_ | refine blk_alloc ?_ _)); refine blk_far ?_ NB432_435.out _; exact bF BK432.out⟩, ⟨by (with_reducible repeat (first | refine blk_drewN ?_ _ | refine blk_drew ?_ | refine blk_alloc ?_ _)); refine blk_put (cs := #[.int .u64 t433, .int .u64 0]) ?_ 1 _ rfl; (with_reducible repeat (first | refine blk_drewN ?_ _ | refine blk_drew ?_ | refine blk_alloc ?_ _)); refine blk_put (cs := #[.int .u64 0, .int .u64 0]) ?_ 0 _ rfl; exact bF BK435.out⟩, ⟨by repeat (first | (with_reducible first | exact HB.out | apply bA | apply bN | apply bD | refine bS ?_ GE432.out | refine bS ?_ GE435.out) | exact HB.out)⟩⟩
 case round =>
  clear H'
  try clear c1
  try clear c2
  try clear p2
  try clear c9
  try clear hcz10_0
  try clear hcz10_1
  try clear hfz10_0
  try clear hfz10_1
  obtain ⟨x9_1, x10_1, x18_1, x436000_1, x436001_1, rfl, rfl, HA, HK1, HO_9, BK432, BK435, HB⟩ := hrel
  cases gk with
  | zero => exact absurd HA.out (by simp [zero_mix.l0])
  | succ k1 =>
   have H := HA.out
   clear HA
   simp only [zero_mix.l0] at H
   by_cases c11 : x18_1 < (l2.length : Int)
   ·rw [if_pos c11] at H
    have c11b0 : decide (x18_1 < (l2.length : Int)) = true := decide_eq_true c11
    clear c11
    by_cases c12 : 0 ≤ x18_1
    ·rw [if_pos c12] at H
     have c12b0 : decide (0 ≤ x18_1) = true := decide_eq_true c12
     clear c12
     by_cases c13 : x18_1 < (l2.length : Int)
     ·rw [if_pos c13] at H
      have c13b0 : decide (x18_1 < (l2.length : Int)) = true := decide_eq_true c13
      clear c13
      replace H := Option.bind_eq_some_iff.mp H
      obtain ⟨t443, A140, H⟩ := H
      replace H : (if x9_1.length + t443.length < 3518437208883 then ((some (x9_1 ++ t443 : List (S149))).bind fun y446 => (if x18_1 = 0 then (zero_mix.l0 k1 a0 a1 y446 (wrap64 ((y446.length : Int) - 1)) l2 (l2.length : Int) (wrap64 (x18_1 + 1)) a3_0 a3_1 x436000_1 x436001_1) else ((tower_Mul.f k1 a0 x436000_1 x436001_1 a3_0 a3_1).bind fun bt449 => ((some (([(⟨1, 0, 0, (⟨bt449.1, bt449.2⟩ : S28)⟩ : S149), (⟨4, wrap64 ((wrap64 ((y446.length : Int) - 1)) + 1), wrap64 ((y446.length : Int) - 1), (⟨0, 0⟩ : S28)⟩ : S149), (⟨3, x10_1, wrap64 ((wrap64 ((y446.length : Int) - 1)) + 2), (⟨0, 0⟩ : S28)⟩ : S149)] : List (S149)) : List (S149))).bind fun y451 => (if y446.length + y451.length < 3518437208883 then (zero_mix.l0 k1 a0 a1 (y446 ++ y451) (wrap64 ((wrap64 ((y446.length : Int) - 1)) + 3)) l2 (l2.length : Int) (wrap64 (x18_1 + 1)) a3_0 a3_1 bt449.1 bt449.2) else (none)))))) else (none)) = some r := H
      have A14 := Aside0.mk A140
      clear A140
      by_cases c15 : x9_1.length + t443.length < 3518437208883
      ·rw [if_pos c15] at H
       have LMc15 := Aside0.mk c15
       clear c15
       obtain ⟨y446, hy446⟩ : ∃ y_ : List (S149), y_ = (x9_1 ++ t443) := ⟨_, rfl⟩
       replace H : (if x18_1 = 0 then (zero_mix.l0 k1 a0 a1 y446 (wrap64 ((y446.length : Int) - 1)) l2 (l2.length : Int) (wrap64 (x18_1 + 1)) a3_0 a3_1 x436000_1 x436001_1) else ((tower_Mul.f k1 a0 x436000_1 x436001_1 a3_0 a3_1).bind fun bt449 => ((some (([(⟨1, 0, 0, (⟨bt449.1, bt449.2⟩ : S28)⟩ : S149), (⟨4, wrap64 ((wrap64 ((y446.length : Int) - 1)) + 1), wrap64 ((y446.length : Int) - 1), (⟨0, 0⟩ : S28)⟩ : S149), (⟨3, x10_1, wrap64 ((wrap64 ((y446.length : Int) - 1)) + 2), (⟨0, 0⟩ : S28)⟩ : S149)] : List (S149)) : List (S149))).bind fun y451 => (if y446.length + y451.length < 3518437208883 then (zero_mix.l0 k1 a0 a1 (y446 ++ y451) (wrap64 ((wrap64 ((y446.length : Int) - 1)) + 3)) l2 (l2.length : Int) (wrap64 (x18_1 + 1)) a3_0 a3_1 bt449.1 bt449.2) else (none))))) = some r := by first | (rw [hy446]; with_reducible exact H) | (have H2_ := (Option.bind_some _ _).symm.trans H; rw [hy446]; with_reducible exact H2_) | (have H2_ := (Option.bind_some _ _).symm.trans H; with_reducible exact H2_) | with_reducible exact H | (rw [hy446]; exact H) | exact H
       have Ny446 := Aside0.mk hy446
       clear hy446
       by_cases c16 : x18_1 = 0
       ·rw [if_pos c16] at H
        have c16b0 : (x18_1 == 0) = true := beq_iff_eq.mpr c16
        have c16b1 : (x18_1 != 0) = false := bne_eq_false_iff_eq.mpr c16
        clear c16
        have H' := Aside0.mk H
        clear H
        have p442 : 0 ≤ (x18_1 : Int) := of_decide_eq_true (by first | (with_reducible assumption) | assumption)
        have q442 : x18_1 < (l2.length : Int) := of_decide_eq_true (by first | (with_reducible assumption) | assumption)
        obtain ⟨ad442, A442_0, c442_0, e442, hx442_0, hl442_0, hi442_0⟩ := at_L13 HR2.out x18_1 p442 q442
        cases e442
        replace hx442_0 := (HB.out.cell (World.block_lt_of_cell? w _ hx442_0)).trans hx442_0
        have HR442_0 := Aside0.mk hi442_0
        have HC442_0 := Aside0.mk hl442_0
        clear hi442_0 hl442_0
        replace p442 := eq_true p442
        replace q442 := eq_true q442
        obtain ⟨Ao17, co17, eo17⟩ := Kd.R_slice HO_9.out
        subst eo17
        go_wp2_with (first | ((with_reducible refine gate_callee (f := 133) rfl ?_); refine goesL_ (some 27) rfl rfl Try.func133 (by kernel_rfl) rfl #[.int .i64 (x9_1.length : Int), .slice A442_0 (rd_L13 l2 x18_1).length c442_0] rfl (by (try simp only [List.map_toArray, List.map_cons, List.map_nil]); first | done | rfl | (simp only [List.length_drop, List.length_take]; rfl)) ?_; (with_reducible refine (zero_behind.calls k1 (x9_1.length : Int) _ _ (rd_L13 l2 x18_1) t443 _ ?side1 ?side2 A14.out).mono ?_); (case side1 => repeat (first | exact (Kd.C_below HR442_0.out HB.out) | (with_reducible refine Kd.C_alloc ?_ _) | (with_reducible refine Kd.C_drewN ?_ _) | (with_reducible refine Kd.C_drew ?_))); (case side2 => exact HC442_0.out); rintro e w18 ⟨v444, rfl, ho0, hb⟩; refine ⟨_, rfl, ?_⟩; have n0_ := Aside0.mk (Kd.R_elder' (by exact rF HO_9.out) (Kd.R_base ho0) hb); have n1_ := Aside0.mk (Kd.R_lower (Kd.R_new' ho0 (Kd.R_lt (by exact rF HO_9.out))) (below_size (by repeat (first | (with_reducible first | exact HB.out | apply bA | apply bN | apply bD | refine bS ?_ GE432.out | refine bS ?_ GE435.out) | exact HB.out)))); have n2_ := Aside0.mk (blk_below (g := gb432) (o := .cells #[.int .u64 a3_0, .int .u64 a3_1] 28 (0, 0)) (by exact bF BK432.out) hb); have n3_ := Aside0.mk (blk_below (g := gb435) (o := .cells #[.int .u64 x436000_1, .int .u64 x436001_1] 28 (0, 0)) (by exact bF BK435.out) hb); have n4_ := Aside0.mk (below_step (by repeat (first | (with_reducible first | exact HB.out | apply bA | apply bN | apply bD | refine bS ?_ GE432.out | refine bS ?_ GE435.out) | exact HB.out)) hb); clear HO_9; clear BK432; clear BK435; clear HB; have HO_9 := n0_; have HO445 := n1_; have BK432 := n2_; have BK435 := n3_; have HB := n4_; clear n0_ n1_ n2_ n3_ n4_; (try clear hb); (try clear hb2); (try clear hk); (try clear hi); (try clear ho0); obtain ⟨Ao20, co20, eo20⟩ := Kd.R_slice HO445.out; subst eo20) | ((with_reducible refine gate_builtin (b := .append) (xs := #[.tmp 23, .tmp 27]) rfl ?_); at_builtin; refine Kd.R_append_rows k149 (w0 := w) w.heap.size rfl (.tmp 23) (.tmp 27) 83 149 (.agg #[(.int .i64 0), (.int .i64 0), (.int .i64 0), (.int .u64 0), (.int .u64 0)]) 40 rfl Try.underlying83 info149 rfl (by decide) (by omega) (.slice Ao17 x9_1.length co17) x9_1 t443 _ _ _ (fun k_ => some k_ ≠ (.slice Ao20 t443.length co20 : Value).ownBlock) (fun _ => False) rfl rfl ?aO ?aR (fun _ _ h => h) (fun _ h => h.elim) ?aF ?aB ?aS ?aL ?_; (case aR => repeat (first | exact (Kd.R_reads' HO445.out).2.2 | (with_reducible refine Kd.C_alloc ?_ _) | (with_reducible refine Kd.C_drewN ?_ _) | (with_reducible refine Kd.C_drew ?_))); (case aB => exact (by repeat (first | (with_reducible first | exact HB.out | apply bA | apply bN | apply bD | refine bS ?_ GE432.out | refine bS ?_ GE435.out) | exact HB.out))); (case aF => exact (fun k_ hk => Kd.fresh' (Kd.R_lt (by exact rF HO445.out)) k_ hk)); (case aO => exact (by (with_reducible repeat (first | apply Kd.R_alloc | apply Kd.R_drewN | apply Kd.R_drew)); exact Kd.R_mono HO_9.out (fun _ hk => hk.2))); (case aS => exact (below_size (by repeat (first | (with_reducible first | exact HB.out | apply bA | apply bN | apply bD | refine bS ?_ GE432.out | refine bS ?_ GE435.out) | exact HB.out)))); (case aL => have := LMc15.out; omega); intro v447 w19 ho hb hg hat; rw [← Ny446.out] at ho; have n0_ := Aside0.mk (blk_grown (g := gb432) (o := .cells #[.int .u64 a3_0, .int .u64 a3_1] 28 (0, 0)) (by exact bF BK432.out) hg (Kd.R_ne HO_9.out BK432.out (by decide))); have n1_ := Aside0.mk (blk_grown (g := gb435) (o := .cells #[.int .u64 x436000_1, .int .u64 x436001_1] 28 (0, 0)) (by exact bF BK435.out) hg (Kd.R_ne HO_9.out BK435.out (by decide))); have n2_ := Aside0.mk (Kd.R_after (ok := (fun _ => True)) (by exact rF HO445.out) hg hat); have n3_ := Aside0.mk (hb); have n4_ := Aside0.mk (ho); clear BK432; clear BK435; clear HO445; clear HB; clear HO_9; have BK432 := n0_; have BK435 := n1_; have HO445 := n2_; have HB := n3_; have HO448 := n4_; clear n0_ n1_ n2_ n3_ n4_; clear ho hb hg hat; obtain ⟨Ao21, co21, eo21⟩ := Kd.R_slice HO448.out; subst eo21))
        go_roundg k1
        case measure => have := HK1.out; omega
        case rel => exact ⟨(y446), (wrap64 ((y446.length : Int) - 1)), (wrap64 (x18_1 + 1)), (x436000_1), (x436001_1), (by first | rfl | (simp; done) | (simp [*]; done)), (by first | rfl | (simp; done) | (simp [*]; done)), H', ⟨by have := HK1.out; omega⟩, ⟨by (with_reducible repeat (first | apply Kd.R_alloc | apply Kd.R_drewN | apply Kd.R_drew)); exact Kd.R_mono HO448.out (fun _ hk => trivial)⟩, ⟨by exact bF BK432.out⟩, ⟨by exact bF BK435.out⟩, ⟨by repeat (first | (with_reducible first | exact HB.out | apply bA | apply bN | apply bD | refine bS ?_ GE432.out | refine bS ?_ GE435.out) | exact HB.out)⟩⟩
       ·rw [if_neg c16] at H
        have c16b0 : (x18_1 == 0) = false := beq_eq_false_iff_ne.mpr c16
        have c16b1 : (x18_1 != 0) = true := bne_iff_ne.mpr c16
        replace H := Option.bind_eq_some_iff.mp H
        obtain ⟨⟨t449, t450⟩, A220, H⟩ := H
        replace H : ((some (([(⟨1, 0, 0, (⟨t449, t450⟩ : S28)⟩ : S149), (⟨4, wrap64 ((wrap64 ((y446.length : Int) - 1)) + 1), wrap64 ((y446.length : Int) - 1), (⟨0, 0⟩ : S28)⟩ : S149), (⟨3, x10_1, wrap64 ((wrap64 ((y446.length : Int) - 1)) + 2), (⟨0, 0⟩ : S28)⟩ : S149)] : List (S149)) : List (S149))).bind fun y451 => (if y446.length + y451.length < 3518437208883 then (zero_mix.l0 k1 a0 a1 (y446 ++ y451) (wrap64 ((wrap64 ((y446.length : Int) - 1)) + 3)) l2 (l2.length : Int) (wrap64 (x18_1 + 1)) a3_0 a3_1 t449 t450) else (none))) = some r := H
        have A22 := Aside0.mk A220
        clear A220
        obtain ⟨y451, hy451⟩ : ∃ y_ : List (S149), y_ = (([(⟨1, 0, 0, (⟨t449, t450⟩ : S28)⟩ : S149), (⟨4, wrap64 ((wrap64 ((y446.length : Int) - 1)) + 1), wrap64 ((y446.length : Int) - 1), (⟨0, 0⟩ : S28)⟩ : S149), (⟨3, x10_1, wrap64 ((wrap64 ((y446.length : Int) - 1)) + 2), (⟨0, 0⟩ : S28)⟩ : S149)] : List (S149))) := ⟨_, rfl⟩
        replace H : (if y446.length + y451.length < 3518437208883 then (zero_mix.l0 k1 a0 a1 (y446 ++ y451) (wrap64 ((wrap64 ((y446.length : Int) - 1)) + 3)) l2 (l2.length : Int) (wrap64 (x18_1 + 1)) a3_0 a3_1 t449 t450) else (none)) = some r := by first | (rw [hy451]; with_reducible exact H) | (have H2_ := (Option.bind_some _ _).symm.trans H; rw [hy451]; with_reducible exact H2_) | (have H2_ := (Option.bind_some _ _).symm.trans H; with_reducible exact H2_) | with_reducible exact H | (rw [hy451]; exact H) | exact H
        have Ny451 := Aside0.mk hy451
        clear hy451
        by_cases c23 : y446.length + y451.length < 3518437208883
        ·rw [if_pos c23] at H
         have LMc23 := Aside0.mk c23
         clear c23
         obtain ⟨y454, hy454⟩ : ∃ y_ : List (S149), y_ = (y446 ++ y451) := ⟨_, rfl⟩
         replace H : (zero_mix.l0 k1 a0 a1 y454 (wrap64 ((wrap64 ((y446.length : Int) - 1)) + 3)) l2 (l2.length : Int) (wrap64 (x18_1 + 1)) a3_0 a3_1 t449 t450) = some r := by first | (rw [hy454]; with_reducible exact H) | (have H2_ := (Option.bind_some _ _).symm.trans H; rw [hy454]; with_reducible exact H2_) | (have H2_ := (Option.bind_some _ _).symm.trans H; with_reducible exact H2_) | with_reducible exact H | (rw [hy454]; exact H) | exact H
         have Ny454 := Aside0.mk hy454
         clear hy454
         have H' := Aside0.mk H
         clear H
         have p442 : 0 ≤ (x18_1 : Int) := of_decide_eq_true (by first | (with_reducible assumption) | assumption)
         have q442 : x18_1 < (l2.length : Int) := of_decide_eq_true (by first | (with_reducible assumption) | assumption)
         obtain ⟨ad442, A442_0, c442_0, e442, hx442_0, hl442_0, hi442_0⟩ := at_L13 HR2.out x18_1 p442 q442
         cases e442
         replace hx442_0 := (HB.out.cell (World.block_lt_of_cell? w _ hx442_0)).trans hx442_0
         have HR442_0 := Aside0.mk hi442_0
         have HC442_0 := Aside0.mk hl442_0
         clear hi442_0 hl442_0
         replace p442 := eq_true p442
         replace q442 := eq_true q442
         obtain ⟨Ao24, co24, eo24⟩ := Kd.R_slice HO_9.out
         subst eo24
         go_wp2_with (first | ((with_reducible refine gate_callee (f := 133) rfl ?_); refine goesL_ (some 27) rfl rfl Try.func133 (by kernel_rfl) rfl #[.int .i64 (x9_1.length : Int), .slice A442_0 (rd_L13 l2 x18_1).length c442_0] rfl (by (try simp only [List.map_toArray, List.map_cons, List.map_nil]); first | done | rfl | (simp only [List.length_drop, List.length_take]; rfl)) ?_; (with_reducible refine (zero_behind.calls k1 (x9_1.length : Int) _ _ (rd_L13 l2 x18_1) t443 _ ?side1 ?side2 A14.out).mono ?_); (case side1 => repeat (first | exact (Kd.C_below HR442_0.out HB.out) | (with_reducible refine Kd.C_alloc ?_ _) | (with_reducible refine Kd.C_drewN ?_ _) | (with_reducible refine Kd.C_drew ?_))); (case side2 => exact HC442_0.out); rintro e w25 ⟨v444, rfl, ho0, hb⟩; refine ⟨_, rfl, ?_⟩; have n0_ := Aside0.mk (Kd.R_elder' (by exact rF HO_9.out) (Kd.R_base ho0) hb); have n1_ := Aside0.mk (Kd.R_lower (Kd.R_new' ho0 (Kd.R_lt (by exact rF HO_9.out))) (below_size (by repeat (first | (with_reducible first | exact HB.out | apply bA | apply bN | apply bD | refine bS ?_ GE432.out | refine bS ?_ GE435.out) | exact HB.out)))); have n2_ := Aside0.mk (blk_below (g := gb432) (o := .cells #[.int .u64 a3_0, .int .u64 a3_1] 28 (0, 0)) (by exact bF BK432.out) hb); have n3_ := Aside0.mk (blk_below (g := gb435) (o := .cells #[.int .u64 x436000_1, .int .u64 x436001_1] 28 (0, 0)) (by exact bF BK435.out) hb); have n4_ := Aside0.mk (below_step (by repeat (first | (with_reducible first | exact HB.out | apply bA | apply bN | apply bD | refine bS ?_ GE432.out | refine bS ?_ GE435.out) | exact HB.out)) hb); clear HO_9; clear BK432; clear BK435; clear HB; have HO_9 := n0_; have HO445 := n1_; have BK432 := n2_; have BK435 := n3_; have HB := n4_; clear n0_ n1_ n2_ n3_ n4_; (try clear hb); (try clear hb2); (try clear hk); (try clear hi); (try clear ho0); obtain ⟨Ao27, co27, eo27⟩ := Kd.R_slice HO445.out; subst eo27) | ((with_reducible refine gate_builtin (b := .append) (xs := #[.tmp 23, .tmp 27]) rfl ?_); at_builtin; refine Kd.R_append_rows k149 (w0 := w) w.heap.size rfl (.tmp 23) (.tmp 27) 83 149 (.agg #[(.int .i64 0), (.int .i64 0), (.int .i64 0), (.int .u64 0), (.int .u64 0)]) 40 rfl Try.underlying83 info149 rfl (by decide) (by omega) (.slice Ao24 x9_1.length co24) x9_1 t443 _ _ _ (fun k_ => some k_ ≠ (.slice Ao27 t443.length co27 : Value).ownBlock) (fun _ => False) rfl rfl ?aO ?aR (fun _ _ h => h) (fun _ h => h.elim) ?aF ?aB ?aS ?aL ?_; (case aR => repeat (first | exact (Kd.R_reads' HO445.out).2.2 | (with_reducible refine Kd.C_alloc ?_ _) | (with_reducible refine Kd.C_drewN ?_ _) | (with_reducible refine Kd.C_drew ?_))); (case aB => exact (by repeat (first | (with_reducible first | exact HB.out | apply bA | apply bN | apply bD | refine bS ?_ GE432.out | refine bS ?_ GE435.out) | exact HB.out))); (case aF => exact (fun k_ hk => Kd.fresh' (Kd.R_lt (by exact rF HO445.out)) k_ hk)); (case aO => exact (by (with_reducible repeat (first | apply Kd.R_alloc | apply Kd.R_drewN | apply Kd.R_drew)); exact Kd.R_mono HO_9.out (fun _ hk => hk.2))); (case aS => exact (below_size (by repeat (first | (with_reducible first | exact HB.out | apply bA | apply bN | apply bD | refine bS ?_ GE432.out | refine bS ?_ GE435.out) | exact HB.out)))); (case aL => have := LMc15.out; omega); intro v447 w26 ho hb hg hat; rw [← Ny446.out] at ho; have n0_ := Aside0.mk (blk_grown (g := gb432) (o := .cells #[.int .u64 a3_0, .int .u64 a3_1] 28 (0, 0)) (by exact bF BK432.out) hg (Kd.R_ne HO_9.out BK432.out (by decide))); have n1_ := Aside0.mk (blk_grown (g := gb435) (o := .cells #[.int .u64 x436000_1, .int .u64 x436001_1] 28 (0, 0)) (by exact bF BK435.out) hg (Kd.R_ne HO_9.out BK435.out (by decide))); have n2_ := Aside0.mk (Kd.R_after (ok := (fun _ => True)) (by exact rF HO445.out) hg hat); have n3_ := Aside0.mk (hb); have n4_ := Aside0.mk (ho); clear BK432; clear BK435; clear HO445; clear HB; clear HO_9; have BK432 := n0_; have BK435 := n1_; have HO445 := n2_; have HB := n3_; have HO448 := n4_; clear n0_ n1_ n2_ n3_ n4_; clear ho hb hg hat; obtain ⟨Ao28, co28, eo28⟩ := Kd.R_slice HO448.out; subst eo28; have hnb29 := NB435_432.out; have hnc29 := NB432_435.out; have hcz30_0 : w26.cell? ⟨gb435, 0, none⟩ = some (.int .u64 x436000_1) := (blk_cell BK435.out 0).trans rfl; have hcz30_1 : w26.cell? ⟨gb435, 1, none⟩ = some (.int .u64 x436001_1) := (blk_cell BK435.out 1).trans rfl; have hfz30_0 := blk_frozen BK435.out 0; have hfz30_1 := blk_frozen BK435.out 1; have hcz31_0 : w26.cell? ⟨gb432, 0, none⟩ = some (.int .u64 a3_0) := (blk_cell BK432.out 0).trans rfl; have hcz31_1 : w26.cell? ⟨gb432, 1, none⟩ = some (.int .u64 a3_1) := (blk_cell BK432.out 1).trans rfl; have hfz31_0 := blk_frozen BK432.out 0; have hfz31_1 := blk_frozen BK432.out 1) | ((with_reducible refine gate_callee (f := 114) rfl ?_); refine goesL_ (some 38) rfl rfl Try.func114 (by kernel_rfl) rfl #[.int .i64 a0, .agg #[.int .u64 x436000_1, .int .u64 x436001_1], .agg #[.int .u64 a3_0, .int .u64 a3_1]] rfl (by (try simp only [List.map_toArray, List.map_cons, List.map_nil]); first | done | rfl | (simp only [List.length_drop, List.length_take]; rfl)) ?_; (with_reducible refine (tower_Mul.calls k1 a0 x436000_1 x436001_1 a3_0 a3_1 t449 t450 _ A22.out).mono ?_); rintro e w32 ⟨rfl, hb⟩; refine ⟨_, rfl, ?_⟩; have n0_ := Aside0.mk (Kd.R_below (by exact rF HO445.out) hb); have n1_ := Aside0.mk (Kd.R_below (by exact rF HO448.out) hb); have n2_ := Aside0.mk (blk_below (g := gb432) (o := .cells #[.int .u64 a3_0, .int .u64 a3_1] 28 (0, 0)) (by exact bF BK432.out) hb); have n3_ := Aside0.mk (blk_below (g := gb435) (o := .cells #[.int .u64 x436000_1, .int .u64 x436001_1] 28 (0, 0)) (by exact bF BK435.out) hb); have n4_ := Aside0.mk (below_step (by repeat (first | (with_reducible first | exact HB.out | apply bA | apply bN | apply bD | refine bS ?_ GE432.out | refine bS ?_ GE435.out) | exact HB.out)) hb); clear HO445; clear HO448; clear BK432; clear BK435; clear HB; have HO445 := n0_; have HO448 := n1_; have BK432 := n2_; have BK435 := n3_; have HB := n4_; clear n0_ n1_ n2_ n3_ n4_; (try clear hb); (try clear hb2); (try clear hk); (try clear hi); have hcz33_0 : w32.cell? ⟨gb435, 0, none⟩ = some (.int .u64 x436000_1) := (blk_cell BK435.out 0).trans rfl; have hcz33_1 : w32.cell? ⟨gb435, 1, none⟩ = some (.int .u64 x436001_1) := (blk_cell BK435.out 1).trans rfl; have hfz33_0 := blk_frozen BK435.out 0; have hfz33_1 := blk_frozen BK435.out 1) | ((with_reducible refine gate_dst (N := 50) rfl ?_); refine Kd.R_lit k149 _ 149 ?hg (N := 50) ?hd (xs := ([(⟨1, 0, 0, (⟨t449, t450⟩ : S28)⟩ : S149), (⟨4, wrap64 ((wrap64 ((y446.length : Int) - 1)) + 1), wrap64 ((y446.length : Int) - 1), (⟨0, 0⟩ : S28)⟩ : S149), (⟨3, x10_1, wrap64 ((wrap64 ((y446.length : Int) - 1)) + 2), (⟨0, 0⟩ : S28)⟩ : S149)] : List (S149))) (inner := [.int .i64 1, .int .i64 0, .int .i64 0, .int .u64 t449, .int .u64 t450, .int .i64 4, .int .i64 (wrap64 ((wrap64 ((y446.length : Int) - 1)) + 1)), .int .i64 (wrap64 ((y446.length : Int) - 1)), .int .u64 0, .int .u64 0, .int .i64 3, .int .i64 x10_1, .int .i64 (wrap64 ((wrap64 ((y446.length : Int) - 1)) + 2)), .int .u64 0, .int .u64 0]) (ok := fun _ => True) (okp := fun _ => True) ?hr ?hp (fun _ hk => hk) trivial (Below.refl _ _) (Nat.le_refl _) (by simp) ?_; (case hd => rfl); (case hg => rfl); (case hr => first | (go_simp; done) | (go_simp; rfl)); (case hp => exact (Reps.c5 (show Kd.M k149 _ _ _ (⟨1, 0, 0, (⟨t449, t450⟩ : S28)⟩ : S149) [.int .i64 1, .int .i64 0, .int .i64 0, .int .u64 t449, .int .u64 t450] from (k149_mkM _ _ _ (⟨1, 0, 0, (⟨t449, t450⟩ : S28)⟩ : S149) )) (Reps.c5 (show Kd.M k149 _ _ _ (⟨4, wrap64 ((wrap64 ((y446.length : Int) - 1)) + 1), wrap64 ((y446.length : Int) - 1), (⟨0, 0⟩ : S28)⟩ : S149) [.int .i64 4, .int .i64 (wrap64 ((wrap64 ((y446.length : Int) - 1)) + 1)), .int .i64 (wrap64 ((y446.length : Int) - 1)), .int .u64 0, .int .u64 0] from (k149_mkM _ _ _ (⟨4, wrap64 ((wrap64 ((y446.length : Int) - 1)) + 1), wrap64 ((y446.length : Int) - 1), (⟨0, 0⟩ : S28)⟩ : S149) )) (Reps.c5 (show Kd.M k149 _ _ _ (⟨3, x10_1, wrap64 ((wrap64 ((y446.length : Int) - 1)) + 2), (⟨0, 0⟩ : S28)⟩ : S149) [.int .i64 3, .int .i64 x10_1, .int .i64 (wrap64 ((wrap64 ((y446.length : Int) - 1)) + 2)), .int .u64 0, .int .u64 0] from (k149_mkM _ _ _ (⟨3, x10_1, wrap64 ((wrap64 ((y446.length : Int) - 1)) + 2), (⟨0, 0⟩ : S28)⟩ : S149) )) (Reps.none _ _))))); intro v452 w34 ho35 hb hg_ hnew_; clear hg_ hnew_; (first | rw [← Ny451.out] at ho35 | (simp only [Int.reduceToNat] at ho35; rw [← Ny451.out] at ho35)); have n0_ := Aside0.mk (Kd.R_elder' (by (with_reducible repeat (first | apply Kd.R_alloc | apply Kd.R_drewN | apply Kd.R_drew)); exact (Kd.R_mono (Kd.R_far (p := ⟨gb435, 1, none⟩) (Kd.R_far (p := ⟨gb435, 0, none⟩) (Kd.R_types HO445.out BK435.out (by decide)) (fun _ hk => hk.2) (.int .u64 t449)) (fun _ hk => hk.2) (.int .u64 t450)) (fun _ h_ => h_.1))) (Kd.R_base ho35) hb); have n1_ := Aside0.mk (Kd.R_elder' (by (with_reducible repeat (first | apply Kd.R_alloc | apply Kd.R_drewN | apply Kd.R_drew)); exact (Kd.R_mono (Kd.R_far (p := ⟨gb435, 1, none⟩) (Kd.R_far (p := ⟨gb435, 0, none⟩) (Kd.R_types HO448.out BK435.out (by decide)) (fun _ hk => hk.2) (.int .u64 t449)) (fun _ hk => hk.2) (.int .u64 t450)) (fun _ h_ => h_.1))) (Kd.R_base ho35) hb); have n2_ := Aside0.mk (Kd.R_lower (Kd.R_new' (Kd.R_new' ho35 (Kd.R_lt (by (with_reducible repeat (first | apply Kd.R_alloc | apply Kd.R_drewN | apply Kd.R_drew)); exact (Kd.R_mono (Kd.R_far (p := ⟨gb435, 1, none⟩) (Kd.R_far (p := ⟨gb435, 0, none⟩) (Kd.R_types HO445.out BK435.out (by decide)) (fun _ hk => hk.2) (.int .u64 t449)) (fun _ hk => hk.2) (.int .u64 t450)) (fun _ h_ => h_.1))))) (Kd.R_lt (by (with_reducible repeat (first | apply Kd.R_alloc | apply Kd.R_drewN | apply Kd.R_drew)); exact (Kd.R_mono (Kd.R_far (p := ⟨gb435, 1, none⟩) (Kd.R_far (p := ⟨gb435, 0, none⟩) (Kd.R_types HO448.out BK435.out (by decide)) (fun _ hk => hk.2) (.int .u64 t449)) (fun _ hk => hk.2) (.int .u64 t450)) (fun _ h_ => h_.1))))) (below_size (by repeat (first | (with_reducible first | exact HB.out | apply bA | apply bN | apply bD | refine bS ?_ GE432.out | refine bS ?_ GE435.out) | exact HB.out)))); have n3_ := Aside0.mk (blk_below (g := gb432) (o := .cells #[.int .u64 a3_0, .int .u64 a3_1] 28 (0, 0)) (by (with_reducible repeat (first | refine blk_drewN ?_ _ | refine blk_drew ?_ | refine blk_alloc ?_ _)); refine blk_far ?_ NB432_435.out _; (with_reducible repeat (first | refine blk_drewN ?_ _ | refine blk_drew ?_ | refine blk_alloc ?_ _)); refine blk_far ?_ NB432_435.out _; exact bF BK432.out) hb); have n4_ := Aside0.mk (blk_below (g := gb435) (o := .cells #[.int .u64 t449, .int .u64 t450] 28 (0, 0)) (by (with_reducible repeat (first | refine blk_drewN ?_ _ | refine blk_drew ?_ | refine blk_alloc ?_ _)); refine blk_put (cs := #[.int .u64 t449, .int .u64 x436001_1]) ?_ 1 _ rfl; (with_reducible repeat (first | refine blk_drewN ?_ _ | refine blk_drew ?_ | refine blk_alloc ?_ _)); refine blk_put (cs := #[.int .u64 x436000_1, .int .u64 x436001_1]) ?_ 0 _ rfl; exact bF BK435.out) hb); have n5_ := Aside0.mk (below_step (by repeat (first | (with_reducible first | exact HB.out | apply bA | apply bN | apply bD | refine bS ?_ GE432.out | refine bS ?_ GE435.out) | exact HB.out)) hb); clear HO445; clear HO448; clear BK432; clear BK435; clear HB; have HO445 := n0_; have HO448 := n1_; have HO453 := n2_; have BK432 := n3_; have BK435 := n4_; have HB := n5_; clear n0_ n1_ n2_ n3_ n4_ n5_; clear hb ho35; obtain ⟨Ao37, co37, eo37⟩ := Kd.R_slice HO453.out; subst eo37) | ((with_reducible refine gate_builtin (b := .append) (xs := #[.tmp 39, .tmp 50]) rfl ?_); at_builtin; refine Kd.R_append_rows k149 (w0 := w) w.heap.size rfl (.tmp 39) (.tmp 50) 83 149 (.agg #[(.int .i64 0), (.int .i64 0), (.int .i64 0), (.int .u64 0), (.int .u64 0)]) 40 rfl Try.underlying83 info149 rfl (by decide) (by omega) (.slice Ao28 y446.length co28) y446 y451 _ _ _ (fun k_ => some k_ ≠ (.slice Ao27 t443.length co27 : Value).ownBlock ∧ some k_ ≠ (.slice Ao37 y451.length co37 : Value).ownBlock) (fun _ => False) rfl rfl ?aO ?aR (fun _ _ h => h) (fun _ h => h.elim) ?aF ?aB ?aS ?aL ?_; (case aR => repeat (first | exact (Kd.R_reads' HO453.out).2.2 | (with_reducible refine Kd.C_alloc ?_ _) | (with_reducible refine Kd.C_drewN ?_ _) | (with_reducible refine Kd.C_drew ?_))); (case aB => exact (by repeat (first | (with_reducible first | exact HB.out | apply bA | apply bN | apply bD | refine bS ?_ GE432.out | refine bS ?_ GE435.out) | exact HB.out))); (case aF => exact (fun k_ hk => ⟨Kd.fresh' (Kd.R_lt (by exact rF HO445.out)) k_ hk, Kd.fresh' (Kd.R_lt (by exact rF HO453.out)) k_ hk⟩)); (case aO => exact (by exact rF HO448.out)); (case aS => exact (below_size (by repeat (first | (with_reducible first | exact HB.out | apply bA | apply bN | apply bD | refine bS ?_ GE432.out | refine bS ?_ GE435.out) | exact HB.out)))); (case aL => have := LMc23.out; omega); intro v455 w36 ho hb hg hat; rw [← Ny454.out] at ho; have n0_ := Aside0.mk (blk_grown (g := gb432) (o := .cells #[.int .u64 a3_0, .int .u64 a3_1] 28 (0, 0)) (by exact bF BK432.out) hg (Kd.R_ne HO448.out BK432.out (by decide))); have n1_ := Aside0.mk (blk_grown (g := gb435) (o := .cells #[.int .u64 t449, .int .u64 t450] 28 (0, 0)) (by exact bF BK435.out) hg (Kd.R_ne HO448.out BK435.out (by decide))); have n2_ := Aside0.mk (Kd.R_after (ok := (fun k_ => some k_ ≠ (.slice Ao37 y451.length co37 : Value).ownBlock)) (by (with_reducible repeat (first | apply Kd.R_alloc | apply Kd.R_drewN | apply Kd.R_drew)); exact Kd.R_mono HO445.out (fun _ hk => ⟨hk.2, hk.1.2⟩)) hg hat); have n3_ := Aside0.mk (Kd.R_after (ok := (fun k_ => some k_ ≠ (.slice Ao27 t443.length co27 : Value).ownBlock)) (by (with_reducible repeat (first | apply Kd.R_alloc | apply Kd.R_drewN | apply Kd.R_drew)); exact Kd.R_mono HO453.out (fun _ hk => ⟨hk.1.2, hk.2⟩)) hg hat); have n4_ := Aside0.mk (hb); have n5_ := Aside0.mk (ho); clear BK432; clear BK435; clear HO445; clear HO453; clear HB; clear HO448; have BK432 := n0_; have BK435 := n1_; have HO445 := n2_; have HO453 := n3_; have HB := n4_; have HO456 := n5_; clear n0_ n1_ n2_ n3_ n4_ n5_; clear ho hb hg hat))
         go_roundg k1
         case measure => have := HK1.out; omega
         case rel => exact ⟨(y454), (wrap64 ((wrap64 ((y446.length : Int) - 1)) + 3)), (wrap64 (x18_1 + 1)), (t449), (t450), (by first | rfl | (simp; done) | (simp [*]; done)), (by first | rfl | (simp; done) | (simp [*]; done)), H', ⟨by have := HK1.out; omega⟩, ⟨by (with_reducible repeat (first | apply Kd.R_alloc | apply Kd.R_drewN | apply Kd.R_drew)); exact Kd.R_mono HO456.out (fun _ hk => trivial)⟩, ⟨by exact bF BK432.out⟩, ⟨by exact bF BK435.out⟩, ⟨by repeat (first | (with_reducible first | exact HB.out | apply bA | apply bN | apply bD | refine bS ?_ GE432.out | refine bS ?_ GE435.out) | exact HB.out)⟩⟩
        ·rw [if_neg c23] at H
         exact absurd H (by simp)
      ·rw [if_neg c15] at H
       exact absurd H (by simp)
     ·rw [if_neg c13] at H
      exact absurd H (by simp)
    ·rw [if_neg c12] at H
     exact absurd H (by simp)
   ·rw [if_neg c11] at H
    have c11b0 : decide (x18_1 < (l2.length : Int)) = false := decide_eq_false c11
    clear c11
    obtain ⟨y436, hy436⟩ : ∃ y_ : List (S149), y_ = (([(⟨2, a1, 0, (⟨0, 0⟩ : S28)⟩ : S149), (⟨4, (x9_1.length : Int), x10_1, (⟨0, 0⟩ : S28)⟩ : S149)] : List (S149))) := ⟨_, rfl⟩
    replace H : (if x9_1.length + y436.length < 3518437208883 then (some (x9_1 ++ y436)) else (none)) = some r := by first | (rw [hy436]; with_reducible exact H) | (have H2_ := (Option.bind_some _ _).symm.trans H; rw [hy436]; with_reducible exact H2_) | (have H2_ := (Option.bind_some _ _).symm.trans H; with_reducible exact H2_) | with_reducible exact H | (rw [hy436]; exact H) | exact H
    have Ny436 := Aside0.mk hy436
    clear hy436
    by_cases c38 : x9_1.length + y436.length < 3518437208883
    ·rw [if_pos c38] at H
     have LMc38 := Aside0.mk c38
     clear c38
     obtain ⟨y439, hy439⟩ : ∃ y_ : List (S149), y_ = (x9_1 ++ y436) := ⟨_, rfl⟩
     replace H : (some y439) = some r := by first | (rw [hy439]; with_reducible exact H) | (have H2_ := (Option.bind_some _ _).symm.trans H; rw [hy439]; with_reducible exact H2_) | (have H2_ := (Option.bind_some _ _).symm.trans H; with_reducible exact H2_) | with_reducible exact H | (rw [hy439]; exact H) | exact H
     have Ny439 := Aside0.mk hy439
     clear hy439
     obtain rfl := Option.some.inj H
     obtain ⟨Ao39, co39, eo39⟩ := Kd.R_slice HO_9.out
     subst eo39
     go_wp2_with (first | ((with_reducible refine gate_dst (N := 62) rfl ?_); refine Kd.R_lit k149 _ 149 ?hg (N := 62) ?hd (xs := ([(⟨2, a1, 0, (⟨0, 0⟩ : S28)⟩ : S149), (⟨4, (x9_1.length : Int), x10_1, (⟨0, 0⟩ : S28)⟩ : S149)] : List (S149))) (inner := [.int .i64 2, .int .i64 a1, .int .i64 0, .int .u64 0, .int .u64 0, .int .i64 4, .int .i64 (x9_1.length : Int), .int .i64 x10_1, .int .u64 0, .int .u64 0]) (ok := fun _ => True) (okp := fun _ => True) ?hr ?hp (fun _ hk => hk) trivial (Below.refl _ _) (Nat.le_refl _) (by simp) ?_; (case hd => rfl); (case hg => rfl); (case hr => first | (go_simp; done) | (go_simp; rfl)); (case hp => exact (Reps.c5 (show Kd.M k149 _ _ _ (⟨2, a1, 0, (⟨0, 0⟩ : S28)⟩ : S149) [.int .i64 2, .int .i64 a1, .int .i64 0, .int .u64 0, .int .u64 0] from (k149_mkM _ _ _ (⟨2, a1, 0, (⟨0, 0⟩ : S28)⟩ : S149) )) (Reps.c5 (show Kd.M k149 _ _ _ (⟨4, (x9_1.length : Int), x10_1, (⟨0, 0⟩ : S28)⟩ : S149) [.int .i64 4, .int .i64 (x9_1.length : Int), .int .i64 x10_1, .int .u64 0, .int .u64 0] from (k149_mkM _ _ _ (⟨4, (x9_1.length : Int), x10_1, (⟨0, 0⟩ : S28)⟩ : S149) )) (Reps.none _ _)))); intro v437 w40 ho41 hb hg_ hnew_; clear hg_ hnew_; (first | rw [← Ny436.out] at ho41 | (simp only [Int.reduceToNat] at ho41; rw [← Ny436.out] at ho41)); have n0_ := Aside0.mk (Kd.R_elder' (by exact rF HO_9.out) (Kd.R_base ho41) hb); have n1_ := Aside0.mk (Kd.R_lower (Kd.R_new' ho41 (Kd.R_lt (by exact rF HO_9.out))) (below_size (by repeat (first | (with_reducible first | exact HB.out | apply bA | apply bN | apply bD | refine bS ?_ GE432.out | refine bS ?_ GE435.out) | exact HB.out)))); have n2_ := Aside0.mk (blk_below (g := gb432) (o := .cells #[.int .u64 a3_0, .int .u64 a3_1] 28 (0, 0)) (by exact bF BK432.out) hb); have n3_ := Aside0.mk (blk_below (g := gb435) (o := .cells #[.int .u64 x436000_1, .int .u64 x436001_1] 28 (0, 0)) (by exact bF BK435.out) hb); have n4_ := Aside0.mk (below_step (by repeat (first | (with_reducible first | exact HB.out | apply bA | apply bN | apply bD | refine bS ?_ GE432.out | refine bS ?_ GE435.out) | exact HB.out)) hb); clear HO_9; clear BK432; clear BK435; clear HB; have HO_9 := n0_; have HO438 := n1_; have BK432 := n2_; have BK435 := n3_; have HB := n4_; clear n0_ n1_ n2_ n3_ n4_; clear hb ho41; obtain ⟨Ao43, co43, eo43⟩ := Kd.R_slice HO438.out; subst eo43) | ((with_reducible refine gate_builtin (b := .append) (xs := #[.tmp 55, .tmp 62]) rfl ?_); at_builtin; refine Kd.R_append_rows k149 (w0 := w) w.heap.size rfl (.tmp 55) (.tmp 62) 83 149 (.agg #[(.int .i64 0), (.int .i64 0), (.int .i64 0), (.int .u64 0), (.int .u64 0)]) 40 rfl Try.underlying83 info149 rfl (by decide) (by omega) (.slice Ao39 x9_1.length co39) x9_1 y436 _ _ _ (fun k_ => some k_ ≠ (.slice Ao43 y436.length co43 : Value).ownBlock) (fun _ => False) rfl rfl ?aO ?aR (fun _ _ h => h) (fun _ h => h.elim) ?aF ?aB ?aS ?aL ?_; (case aR => repeat (first | exact (Kd.R_reads' HO438.out).2.2 | (with_reducible refine Kd.C_alloc ?_ _) | (with_reducible refine Kd.C_drewN ?_ _) | (with_reducible refine Kd.C_drew ?_))); (case aB => exact (by repeat (first | (with_reducible first | exact HB.out | apply bA | apply bN | apply bD | refine bS ?_ GE432.out | refine bS ?_ GE435.out) | exact HB.out))); (case aF => exact (fun k_ hk => Kd.fresh' (Kd.R_lt (by exact rF HO438.out)) k_ hk)); (case aO => exact (by (with_reducible repeat (first | apply Kd.R_alloc | apply Kd.R_drewN | apply Kd.R_drew)); exact Kd.R_mono HO_9.out (fun _ hk => hk.2))); (case aS => exact (below_size (by repeat (first | (with_reducible first | exact HB.out | apply bA | apply bN | apply bD | refine bS ?_ GE432.out | refine bS ?_ GE435.out) | exact HB.out)))); (case aL => have := LMc38.out; omega); intro v440 w42 ho hb hg hat; rw [← Ny439.out] at ho; have n0_ := Aside0.mk (blk_grown (g := gb432) (o := .cells #[.int .u64 a3_0, .int .u64 a3_1] 28 (0, 0)) (by exact bF BK432.out) hg (Kd.R_ne HO_9.out BK432.out (by decide))); have n1_ := Aside0.mk (blk_grown (g := gb435) (o := .cells #[.int .u64 x436000_1, .int .u64 x436001_1] 28 (0, 0)) (by exact bF BK435.out) hg (Kd.R_ne HO_9.out BK435.out (by decide))); have n2_ := Aside0.mk (Kd.R_after (ok := (fun _ => True)) (by exact rF HO438.out) hg hat); have n3_ := Aside0.mk (hb); have n4_ := Aside0.mk (ho); clear BK432; clear BK435; clear HO438; clear HB; clear HO_9; have BK432 := n0_; have BK435 := n1_; have HO438 := n2_; have HB := n3_; have HO441 := n4_; clear n0_ n1_ n2_ n3_ n4_; clear ho hb hg hat))
     go_ret
     exact ⟨_, by first | rfl | (simp [errW_none, errW_some] <;> rfl) | (simp [*, errW_none, errW_some] <;> rfl), by (with_reducible repeat (first | apply Kd.R_alloc | apply Kd.R_drewN | apply Kd.R_drew)); exact Kd.R_mono HO441.out (fun _ hk => trivial), by repeat (first | (with_reducible first | exact HB.out | apply bA | apply bN | apply bD | refine bS ?_ GE432.out | refine bS ?_ GE435.out) | exact HB.out)⟩
    ·rw [if_neg c38] at H
     exact absurd H (by simp)
def zero_Mix.l0 : Nat → Int → Int → List (List (S149)) → List (List (S149)) → Int → Int → Int → Int → Option ((List (S149)) × Int)
 | 0, _, _, _, _, _, _, _, _ => none
 | k + 1, x0, x1, x2, x21, x22, x23, x458000, x458001 => if x23 < x22 then (if 0 ≤ x23 then (if x23 < (x21.length : Int) then ((expr_Check.f k x0 x1 (rd_L13 x21 x23)).bind fun t460 => (if t460 = 0 then (zero_Mix.l0 k x0 x1 x2 x21 x22 (wrap64 (x23 + 1)) x458000 x458001) else (some (([] : List (S149)), t460)))) else (none)) else (none)) else ((octet_Of.f x0 x458000 x458001).bind fun t461 => (if t461 = true then ((zero_mix.f k x0 x1 x2 x458000 x458001).bind fun t462 => ((expr_Check.f k x0 (wrap64 (x1 + 1)) t462).bind fun t465 => (if t465 = 0 then (some (t462, 0)) else (some (([] : List (S149)), t465))))) else (some (([] : List (S149)), 5))))
def zero_Mix.f (k : Nat) (a0 : Int) (a1 : Int) (l2 : List (List (S149))) (a3_0 : Int) (a3_1 : Int) : Option ((List (S149)) × Int) := (zero_many.f l2).bind fun t458 => (if t458 = 0 then (zero_Mix.l0 k a0 a1 l2 l2 (l2.length : Int) 0 a3_0 a3_1) else (some (([] : List (S149)), t458)))
set_option maxHeartbeats 8000000 in
set_option maxRecDepth 100000 in
theorem zero_Mix.calls (k : Nat) (a0 : Int) (a1 : Int) (A2 : Option Addr) (c2 : Nat) (l2 : List (List (S149))) (a3_0 : Int) (a3_1 : Int) (r1 : List (S149)) (r2 : Int) (w : World) (hr2 : Kd.C (Kd.slice 149 k149) w A2 l2.length l2) (hc2 : l2.length ≤ c2) (h : zero_Mix.f k a0 a1 l2 a3_0 a3_1 = some (r1, r2)) :
  Calls Try.prog 39 #[.int .i64 a0, .int .i64 a1, .slice A2 l2.length c2, .agg #[.int .u64 a3_0, .int .u64 a3_1]] w fun e w' => ∃ v0_ : Value, e = .returned (.tuple #[v0_, .int .i64 r2]) ∧ Kd.R k149 149 w' w.heap.size (fun _ => True) v0_ r1 ∧ Below w.heap.size w w' := by
 have hu28 := Try.underlying28
 have HR2 := Aside0.mk hr2
 have HC2 := Aside0.mk hc2
 clear hr2 hc2
 have HB := Aside0.mk (Below.refl w.heap.size w)
 have H : ((zero_many.f l2).bind fun t458 => (if t458 = 0 then (zero_Mix.l0 k a0 a1 l2 l2 (l2.length : Int) 0 a3_0 a3_1) else (some (([] : List (S149)), t458)))) = some (r1, r2) := h
 clear h
 replace H := Option.bind_eq_some_iff.mp H
 obtain ⟨t458, A50, H⟩ := H
 replace H : (if t458 = 0 then (zero_Mix.l0 k a0 a1 l2 l2 (l2.length : Int) 0 a3_0 a3_1) else (some (([] : List (S149)), t458))) = some (r1, r2) := H
 have A5 := Aside0.mk A50
 clear A50
 by_cases c6 : t458 = 0
 ·rw [if_pos c6] at H
  have c6b0 : (t458 == 0) = true := beq_iff_eq.mpr c6
  have c6b1 : (t458 != 0) = false := bne_eq_false_iff_eq.mpr c6
  clear c6
  have H' := Aside0.mk H
  clear H
  go_enter Try.func39, Try.ntmps39
  go_wp2_with (first | ((with_reducible refine gate_dst (N := 7) rfl ?_); refine box_event ?hg (N := 7) ?hd (cs := #[.int .u64 a3_0, .int .u64 a3_1]) (t := 28) ?hr ?_; (case hd => rfl); (case hg => rfl); (case hr => first | (go_simp; done) | (go_simp; rfl)); intro gb457 hg w7 hbox hb; have n0_ := Aside0.mk (below_step (by exact lF HB.out) hb); have n1_ := Aside0.mk (hbox); have n2_ := Aside0.mk ((by rw [hg]; exact (below_size (by exact lF HB.out)) : w.heap.size ≤ gb457)); have n3_ := Aside0.mk ((by rw [hg]; exact (below_size (by exact lF HB.out)) : w.heap.size ≤ gb457)); clear HB; have HB := n0_; have BK457 := n1_; have GW457 := n2_; have GE457 := n3_; clear n0_ n1_ n2_ n3_; clear hb hbox hg) | ((with_reducible refine gate_callee (f := 90) rfl ?_); refine goesL_ (some 17) rfl rfl Try.func90 (by kernel_rfl) rfl #[.slice A2 l2.length c2] rfl (by (try simp only [List.map_toArray, List.map_cons, List.map_nil]); first | done | rfl | (simp only [List.length_drop, List.length_take]; rfl)) ?_; (with_reducible refine (zero_many.calls _ _ l2 t458 _ ?side1 ?side2 A5.out).mono ?_); (case side1 => repeat (first | exact (Kd.C_below HR2.out HB.out) | (with_reducible refine Kd.C_alloc ?_ _) | (with_reducible refine Kd.C_drewN ?_ _) | (with_reducible refine Kd.C_drew ?_))); (case side2 => exact HC2.out); rintro e w' ⟨rfl, ⟨nd, rfl⟩⟩; refine ⟨_, rfl, ?_⟩))
  go_loopg [23] k (fun kq v23 w' => ∃ (x23_1 : Int), v23 = .int .i64 x23_1 ∧ Aside0 (zero_Mix.l0 kq a0 a1 l2 l2 (l2.length : Int) x23_1 a3_0 a3_1 = some (r1, r2)) ∧ Aside0 (kq ≤ k) ∧ Aside0 (w'.heap[gb457]? = some (.cells #[.int .u64 a3_0, .int .u64 a3_1] 28 (0, 0))) ∧ Aside0 (Below w.heap.size w w'))
  case atStart => exact ⟨(0), (by first | rfl | (simp; done) | (simp [*]; done)), H', ⟨Nat.le_refl _⟩, ⟨by exact bF BK457.out⟩, ⟨by repeat (first | (with_reducible first | exact HB.out | apply bA | apply bN | apply bD | refine bS ?_ GE457.out) | exact HB.out)⟩⟩
  case round =>
   clear H'
   try clear c2
   try clear p2
   try clear c3
   try clear c6
   try clear c6b0
   try clear c6b1
   obtain ⟨x23_1, rfl, HA, HK1, BK457, HB⟩ := hrel
   cases gk with
   | zero => exact absurd HA.out (by simp [zero_Mix.l0])
   | succ k1 =>
    have H := HA.out
    clear HA
    simp only [zero_Mix.l0] at H
    by_cases c8 : x23_1 < (l2.length : Int)
    ·rw [if_pos c8] at H
     have c8b0 : decide (x23_1 < (l2.length : Int)) = true := decide_eq_true c8
     clear c8
     by_cases c9 : 0 ≤ x23_1
     ·rw [if_pos c9] at H
      have c9b0 : decide (0 ≤ x23_1) = true := decide_eq_true c9
      clear c9
      by_cases c10 : x23_1 < (l2.length : Int)
      ·rw [if_pos c10] at H
       have c10b0 : decide (x23_1 < (l2.length : Int)) = true := decide_eq_true c10
       clear c10
       replace H := Option.bind_eq_some_iff.mp H
       obtain ⟨t460, A110, H⟩ := H
       replace H : (if t460 = 0 then (zero_Mix.l0 k1 a0 a1 l2 l2 (l2.length : Int) (wrap64 (x23_1 + 1)) a3_0 a3_1) else (some (([] : List (S149)), t460))) = some (r1, r2) := H
       have A11 := Aside0.mk A110
       clear A110
       by_cases c12 : t460 = 0
       ·rw [if_pos c12] at H
        have c12b0 : (t460 == 0) = true := beq_iff_eq.mpr c12
        have c12b1 : (t460 != 0) = false := bne_eq_false_iff_eq.mpr c12
        clear c12
        have H' := Aside0.mk H
        clear H
        have p459 : 0 ≤ (x23_1 : Int) := of_decide_eq_true (by first | (with_reducible assumption) | assumption)
        have q459 : x23_1 < (l2.length : Int) := of_decide_eq_true (by first | (with_reducible assumption) | assumption)
        obtain ⟨ad459, A459_0, c459_0, e459, hx459_0, hl459_0, hi459_0⟩ := at_L13 HR2.out x23_1 p459 q459
        cases e459
        replace hx459_0 := (HB.out.cell (World.block_lt_of_cell? w _ hx459_0)).trans hx459_0
        have HR459_0 := Aside0.mk hi459_0
        have HC459_0 := Aside0.mk hl459_0
        clear hi459_0 hl459_0
        replace p459 := eq_true p459
        replace q459 := eq_true q459
        go_wp2_with (first | ((with_reducible refine gate_callee (f := 91) rfl ?_); refine goesL_ (some 30) rfl rfl Try.func91 (by kernel_rfl) rfl #[.int .i64 a0, .int .i64 a1, .slice A459_0 (rd_L13 l2 x23_1).length c459_0] rfl (by (try simp only [List.map_toArray, List.map_cons, List.map_nil]); first | done | rfl | (simp only [List.length_drop, List.length_take]; rfl)) ?_; (with_reducible refine (expr_Check.calls k1 a0 a1 _ _ (rd_L13 l2 x23_1) t460 _ ?side1 ?side2 A11.out).mono ?_); (case side1 => repeat (first | exact (Kd.C_below HR459_0.out HB.out) | (with_reducible refine Kd.C_alloc ?_ _) | (with_reducible refine Kd.C_drewN ?_ _) | (with_reducible refine Kd.C_drew ?_))); (case side2 => exact HC459_0.out); rintro e w13 ⟨rfl, hb⟩; refine ⟨_, rfl, ?_⟩; have n0_ := Aside0.mk (blk_below (g := gb457) (o := .cells #[.int .u64 a3_0, .int .u64 a3_1] 28 (0, 0)) (by exact bF BK457.out) hb); have n1_ := Aside0.mk (below_step (by repeat (first | (with_reducible first | exact HB.out | apply bA | apply bN | apply bD | refine bS ?_ GE457.out) | exact HB.out)) hb); clear BK457; clear HB; have BK457 := n0_; have HB := n1_; clear n0_ n1_; (try clear hb); (try clear hb2); (try clear hk); (try clear hi)))
        go_roundg k1
        case measure => have := HK1.out; omega
        case rel => exact ⟨(wrap64 (x23_1 + 1)), (by first | rfl | (simp; done) | (simp [*]; done)), H', ⟨by have := HK1.out; omega⟩, ⟨by exact bF BK457.out⟩, ⟨by repeat (first | (with_reducible first | exact HB.out | apply bA | apply bN | apply bD | refine bS ?_ GE457.out) | exact HB.out)⟩⟩
       ·rw [if_neg c12] at H
        have c12b0 : (t460 == 0) = false := beq_eq_false_iff_ne.mpr c12
        have c12b1 : (t460 != 0) = true := bne_iff_ne.mpr c12
        simp only [Option.some.injEq, Prod.mk.injEq] at H
        obtain ⟨rfl, rfl⟩ := H
        have p459 : 0 ≤ (x23_1 : Int) := of_decide_eq_true (by first | (with_reducible assumption) | assumption)
        have q459 : x23_1 < (l2.length : Int) := of_decide_eq_true (by first | (with_reducible assumption) | assumption)
        obtain ⟨ad459, A459_0, c459_0, e459, hx459_0, hl459_0, hi459_0⟩ := at_L13 HR2.out x23_1 p459 q459
        cases e459
        replace hx459_0 := (HB.out.cell (World.block_lt_of_cell? w _ hx459_0)).trans hx459_0
        have HR459_0 := Aside0.mk hi459_0
        have HC459_0 := Aside0.mk hl459_0
        clear hi459_0 hl459_0
        replace p459 := eq_true p459
        replace q459 := eq_true q459
        go_wp2_with (first | ((with_reducible refine gate_callee (f := 91) rfl ?_); refine goesL_ (some 30) rfl rfl Try.func91 (by kernel_rfl) rfl #[.int .i64 a0, .int .i64 a1, .slice A459_0 (rd_L13 l2 x23_1).length c459_0] rfl (by (try simp only [List.map_toArray, List.map_cons, List.map_nil]); first | done | rfl | (simp only [List.length_drop, List.length_take]; rfl)) ?_; (with_reducible refine (expr_Check.calls k1 a0 a1 _ _ (rd_L13 l2 x23_1) t460 _ ?side1 ?side2 A11.out).mono ?_); (case side1 => repeat (first | exact (Kd.C_below HR459_0.out HB.out) | (with_reducible refine Kd.C_alloc ?_ _) | (with_reducible refine Kd.C_drewN ?_ _) | (with_reducible refine Kd.C_drew ?_))); (case side2 => exact HC459_0.out); rintro e w14 ⟨rfl, hb⟩; refine ⟨_, rfl, ?_⟩; have n0_ := Aside0.mk (blk_below (g := gb457) (o := .cells #[.int .u64 a3_0, .int .u64 a3_1] 28 (0, 0)) (by exact bF BK457.out) hb); have n1_ := Aside0.mk (below_step (by repeat (first | (with_reducible first | exact HB.out | apply bA | apply bN | apply bD | refine bS ?_ GE457.out) | exact HB.out)) hb); clear BK457; clear HB; have BK457 := n0_; have HB := n1_; clear n0_ n1_; (try clear hb); (try clear hb2); (try clear hk); (try clear hi)))
        go_ret2
        exact ⟨_, by first | rfl | (simp [errW_none, errW_some] <;> rfl) | (simp [*, errW_none, errW_some] <;> rfl), by first | exact Kd.R_nil _ _ _ _ _ | exact Kd.N_nil _ _ _ _ _ | exact Kd.V_nil _ _ _ _ _ | exact Kd.Q_nil _ _ _ _ _ | exact Kd.S_nil _ _ _ _ _, by repeat (first | (with_reducible first | exact HB.out | apply bA | apply bN | apply bD | refine bS ?_ GE457.out) | exact HB.out)⟩
      ·rw [if_neg c10] at H
       exact absurd H (by simp)
     ·rw [if_neg c9] at H
      exact absurd H (by simp)
    ·rw [if_neg c8] at H
     have c8b0 : decide (x23_1 < (l2.length : Int)) = false := decide_eq_false c8
     clear c8
     replace H := Option.bind_eq_some_iff.mp H
     obtain ⟨t461, A150, H⟩ := H
     replace H : (if t461 = true then ((zero_mix.f k1 a0 a1 l2 a3_0 a3_1).bind fun t462 => ((expr_Check.f k1 a0 (wrap64 (a1 + 1)) t462).bind fun t465 => (if t465 = 0 then (some (t462, 0)) else (some (([] : List (S149)), t465))))) else (some (([] : List (S149)), 5))) = some (r1, r2) := H
     have A15 := Aside0.mk A150
     clear A150
     by_cases c16 : t461 = true
     ·subst c16
      have H1 : ((zero_mix.f k1 a0 a1 l2 a3_0 a3_1).bind fun t462 => ((expr_Check.f k1 a0 (wrap64 (a1 + 1)) t462).bind fun t465 => (if t465 = 0 then (some (t462, 0)) else (some (([] : List (S149)), t465))))) = some (r1, r2) := by rw [if_pos rfl] at H; exact H
      clear H
      have H := H1
      clear H1
      replace H := Option.bind_eq_some_iff.mp H
      obtain ⟨t462, A170, H⟩ := H
      replace H : ((expr_Check.f k1 a0 (wrap64 (a1 + 1)) t462).bind fun t465 => (if t465 = 0 then (some (t462, 0)) else (some (([] : List (S149)), t465)))) = some (r1, r2) := H
      have A17 := Aside0.mk A170
      clear A170
      replace H := Option.bind_eq_some_iff.mp H
      obtain ⟨t465, A180, H⟩ := H
      replace H : (if t465 = 0 then (some (t462, 0)) else (some (([] : List (S149)), t465))) = some (r1, r2) := H
      have A18 := Aside0.mk A180
      clear A180
      by_cases c19 : t465 = 0
      ·rw [if_pos c19] at H
       have c19b0 : (t465 == 0) = true := beq_iff_eq.mpr c19
       have c19b1 : (t465 != 0) = false := bne_eq_false_iff_eq.mpr c19
       clear c19
       simp only [Option.some.injEq, Prod.mk.injEq] at H
       obtain ⟨rfl, rfl⟩ := H
       have hcz20_0 : wr.cell? ⟨gb457, 0, none⟩ = some (.int .u64 a3_0) := (blk_cell BK457.out 0).trans rfl
       have hcz20_1 : wr.cell? ⟨gb457, 1, none⟩ = some (.int .u64 a3_1) := (blk_cell BK457.out 1).trans rfl
       have hfz20_0 := blk_frozen BK457.out 0
       have hfz20_1 := blk_frozen BK457.out 1
       go_wp2_with (first | ((with_reducible refine gate_callee (f := 81) rfl ?_); refine goesL_ (some 37) rfl rfl Try.func81 (by kernel_rfl) rfl #[.int .i64 a0, .agg #[.int .u64 a3_0, .int .u64 a3_1]] rfl (by (try simp only [List.map_toArray, List.map_cons, List.map_nil]); first | done | rfl | (simp only [List.length_drop, List.length_take]; rfl)) ?_; (with_reducible refine (octet_Of.calls a0 a3_0 a3_1 true _ A15.out).mono ?_); rintro e w21 ⟨rfl, hb⟩; refine ⟨_, rfl, ?_⟩; have n0_ := Aside0.mk (blk_below (g := gb457) (o := .cells #[.int .u64 a3_0, .int .u64 a3_1] 28 (0, 0)) (by exact bF BK457.out) hb); have n1_ := Aside0.mk (below_step (by repeat (first | (with_reducible first | exact HB.out | apply bA | apply bN | apply bD | refine bS ?_ GE457.out) | exact HB.out)) hb); clear BK457; clear HB; have BK457 := n0_; have HB := n1_; clear n0_ n1_; (try clear hb); (try clear hb2); (try clear hk); (try clear hi); have hcz22_0 : w21.cell? ⟨gb457, 0, none⟩ = some (.int .u64 a3_0) := (blk_cell BK457.out 0).trans rfl; have hcz22_1 : w21.cell? ⟨gb457, 1, none⟩ = some (.int .u64 a3_1) := (blk_cell BK457.out 1).trans rfl; have hfz22_0 := blk_frozen BK457.out 0; have hfz22_1 := blk_frozen BK457.out 1) | ((with_reducible refine gate_callee (f := 92) rfl ?_); refine goesL_ (some 43) rfl rfl Try.func92 (by kernel_rfl) rfl #[.int .i64 a0, .int .i64 a1, .slice A2 l2.length c2, .agg #[.int .u64 a3_0, .int .u64 a3_1]] rfl (by (try simp only [List.map_toArray, List.map_cons, List.map_nil]); first | done | rfl | (simp only [List.length_drop, List.length_take]; rfl)) ?_; (with_reducible refine (zero_mix.calls k1 a0 a1 _ _ l2 a3_0 a3_1 t462 _ ?side1 ?side2 A17.out).mono ?_); (case side1 => repeat (first | exact (Kd.C_below HR2.out HB.out) | (with_reducible refine Kd.C_alloc ?_ _) | (with_reducible refine Kd.C_drewN ?_ _) | (with_reducible refine Kd.C_drew ?_))); (case side2 => exact HC2.out); rintro e w23 ⟨v463, rfl, ho0, hb⟩; refine ⟨_, rfl, ?_⟩; have n0_ := Aside0.mk (Kd.R_lower ho0 (below_size (by repeat (first | (with_reducible first | exact HB.out | apply bA | apply bN | apply bD | refine bS ?_ GE457.out) | exact HB.out)))); have n1_ := Aside0.mk (blk_below (g := gb457) (o := .cells #[.int .u64 a3_0, .int .u64 a3_1] 28 (0, 0)) (by exact bF BK457.out) hb); have n2_ := Aside0.mk (below_step (by repeat (first | (with_reducible first | exact HB.out | apply bA | apply bN | apply bD | refine bS ?_ GE457.out) | exact HB.out)) hb); clear BK457; clear HB; have HO464 := n0_; have BK457 := n1_; have HB := n2_; clear n0_ n1_ n2_; (try clear hb); (try clear hb2); (try clear hk); (try clear hi); (try clear ho0); obtain ⟨Ao24, co24, eo24⟩ := Kd.R_slice HO464.out; subst eo24) | ((with_reducible refine gate_callee (f := 91) rfl ?_); refine goesL_ (some 48) rfl rfl Try.func91 (by kernel_rfl) rfl #[.int .i64 a0, .int .i64 (wrap64 (a1 + 1)), .slice Ao24 t462.length co24] rfl (by (try simp only [List.map_toArray, List.map_cons, List.map_nil]); first | done | rfl | (simp only [List.length_drop, List.length_take]; rfl)) ?_; (with_reducible refine (expr_Check.calls k1 a0 (wrap64 (a1 + 1)) _ _ t462 t465 _ ?side1 ?side2 A18.out).mono ?_); (case side1 => repeat (first | exact (Kd.R_reads' HO464.out).2.2 | (with_reducible refine Kd.C_alloc ?_ _) | (with_reducible refine Kd.C_drewN ?_ _) | (with_reducible refine Kd.C_drew ?_))); (case side2 => exact (Kd.R_reads' HO464.out).2.1); rintro e w25 ⟨rfl, hb⟩; refine ⟨_, rfl, ?_⟩; have n0_ := Aside0.mk (Kd.R_below (by exact rF HO464.out) hb); have n1_ := Aside0.mk (blk_below (g := gb457) (o := .cells #[.int .u64 a3_0, .int .u64 a3_1] 28 (0, 0)) (by exact bF BK457.out) hb); have n2_ := Aside0.mk (below_step (by repeat (first | (with_reducible first | exact HB.out | apply bA | apply bN | apply bD | refine bS ?_ GE457.out) | exact HB.out)) hb); clear HO464; clear BK457; clear HB; have HO464 := n0_; have BK457 := n1_; have HB := n2_; clear n0_ n1_ n2_; (try clear hb); (try clear hb2); (try clear hk); (try clear hi)))
       go_ret2
       exact ⟨_, by first | rfl | (simp [errW_none, errW_some] <;> rfl) | (simp [*, errW_none, errW_some] <;> rfl), by exact rF HO464.out, by repeat (first | (with_reducible first | exact HB.out | apply bA | apply bN | apply bD | refine bS ?_ GE457.out) | exact HB.out)⟩
      ·rw [if_neg c19] at H
       have c19b0 : (t465 == 0) = false := beq_eq_false_iff_ne.mpr c19
       have c19b1 : (t465 != 0) = true := bne_iff_ne.mpr c19
       simp only [Option.some.injEq, Prod.mk.injEq] at H
       obtain ⟨rfl, rfl⟩ := H
       have hcz26_0 : wr.cell? ⟨gb457, 0, none⟩ = some (.int .u64 a3_0) := (blk_cell BK457.out 0).trans rfl
       have hcz26_1 : wr.cell? ⟨gb457, 1, none⟩ = some (.int .u64 a3_1) := (blk_cell BK457.out 1).trans rfl
       have hfz26_0 := blk_frozen BK457.out 0
       have hfz26_1 := blk_frozen BK457.out 1
       go_wp2_with (first | ((with_reducible refine gate_callee (f := 81) rfl ?_); refine goesL_ (some 37) rfl rfl Try.func81 (by kernel_rfl) rfl #[.int .i64 a0, .agg #[.int .u64 a3_0, .int .u64 a3_1]] rfl (by (try simp only [List.map_toArray, List.map_cons, List.map_nil]); first | done | rfl | (simp only [List.length_drop, List.length_take]; rfl)) ?_; (with_reducible refine (octet_Of.calls a0 a3_0 a3_1 true _ A15.out).mono ?_); rintro e w27 ⟨rfl, hb⟩; refine ⟨_, rfl, ?_⟩; have n0_ := Aside0.mk (blk_below (g := gb457) (o := .cells #[.int .u64 a3_0, .int .u64 a3_1] 28 (0, 0)) (by exact bF BK457.out) hb); have n1_ := Aside0.mk (below_step (by repeat (first | (with_reducible first | exact HB.out | apply bA | apply bN | apply bD | refine bS ?_ GE457.out) | exact HB.out)) hb); clear BK457; clear HB; have BK457 := n0_; have HB := n1_; clear n0_ n1_; (try clear hb); (try clear hb2); (try clear hk); (try clear hi); have hcz28_0 : w27.cell? ⟨gb457, 0, none⟩ = some (.int .u64 a3_0) := (blk_cell BK457.out 0).trans rfl; have hcz28_1 : w27.cell? ⟨gb457, 1, none⟩ = some (.int .u64 a3_1) := (blk_cell BK457.out 1).trans rfl; have hfz28_0 := blk_frozen BK457.out 0; have hfz28_1 := blk_frozen BK457.out 1) | ((with_reducible refine gate_callee (f := 92) rfl ?_); refine goesL_ (some 43) rfl rfl Try.func92 (by kernel_rfl) rfl #[.int .i64 a0, .int .i64 a1, .slice A2 l2.length c2, .agg #[.int .u64 a3_0, .int .u64 a3_1]] rfl (by (try simp only [List.map_toArray, List.map_cons, List.map_nil]); first | done | rfl | (simp only [List.length_drop, List.length_take]; rfl)) ?_; (with_reducible refine (zero_mix.calls k1 a0 a1 _ _ l2 a3_0 a3_1 t462 _ ?side1 ?side2 A17.out).mono ?_); (case side1 => repeat (first | exact (Kd.C_below HR2.out HB.out) | (with_reducible refine Kd.C_alloc ?_ _) | (with_reducible refine Kd.C_drewN ?_ _) | (with_reducible refine Kd.C_drew ?_))); (case side2 => exact HC2.out); rintro e w29 ⟨v463, rfl, ho0, hb⟩; refine ⟨_, rfl, ?_⟩; have n0_ := Aside0.mk (Kd.R_lower ho0 (below_size (by repeat (first | (with_reducible first | exact HB.out | apply bA | apply bN | apply bD | refine bS ?_ GE457.out) | exact HB.out)))); have n1_ := Aside0.mk (blk_below (g := gb457) (o := .cells #[.int .u64 a3_0, .int .u64 a3_1] 28 (0, 0)) (by exact bF BK457.out) hb); have n2_ := Aside0.mk (below_step (by repeat (first | (with_reducible first | exact HB.out | apply bA | apply bN | apply bD | refine bS ?_ GE457.out) | exact HB.out)) hb); clear BK457; clear HB; have HO464 := n0_; have BK457 := n1_; have HB := n2_; clear n0_ n1_ n2_; (try clear hb); (try clear hb2); (try clear hk); (try clear hi); (try clear ho0); obtain ⟨Ao30, co30, eo30⟩ := Kd.R_slice HO464.out; subst eo30) | ((with_reducible refine gate_callee (f := 91) rfl ?_); refine goesL_ (some 48) rfl rfl Try.func91 (by kernel_rfl) rfl #[.int .i64 a0, .int .i64 (wrap64 (a1 + 1)), .slice Ao30 t462.length co30] rfl (by (try simp only [List.map_toArray, List.map_cons, List.map_nil]); first | done | rfl | (simp only [List.length_drop, List.length_take]; rfl)) ?_; (with_reducible refine (expr_Check.calls k1 a0 (wrap64 (a1 + 1)) _ _ t462 t465 _ ?side1 ?side2 A18.out).mono ?_); (case side1 => repeat (first | exact (Kd.R_reads' HO464.out).2.2 | (with_reducible refine Kd.C_alloc ?_ _) | (with_reducible refine Kd.C_drewN ?_ _) | (with_reducible refine Kd.C_drew ?_))); (case side2 => exact (Kd.R_reads' HO464.out).2.1); rintro e w31 ⟨rfl, hb⟩; refine ⟨_, rfl, ?_⟩; have n0_ := Aside0.mk (Kd.R_below (by exact rF HO464.out) hb); have n1_ := Aside0.mk (blk_below (g := gb457) (o := .cells #[.int .u64 a3_0, .int .u64 a3_1] 28 (0, 0)) (by exact bF BK457.out) hb); have n2_ := Aside0.mk (below_step (by repeat (first | (with_reducible first | exact HB.out | apply bA | apply bN | apply bD | refine bS ?_ GE457.out) | exact HB.out)) hb); clear HO464; clear BK457; clear HB; have HO464 := n0_; have BK457 := n1_; have HB := n2_; clear n0_ n1_ n2_; (try clear hb); (try clear hb2); (try clear hk); (try clear hi)))
       go_ret2
       exact ⟨_, by first | rfl | (simp [errW_none, errW_some] <;> rfl) | (simp [*, errW_none, errW_some] <;> rfl), by first | exact Kd.R_nil _ _ _ _ _ | exact Kd.N_nil _ _ _ _ _ | exact Kd.V_nil _ _ _ _ _ | exact Kd.Q_nil _ _ _ _ _ | exact Kd.S_nil _ _ _ _ _, by repeat (first | (with_reducible first | exact HB.out | apply bA | apply bN | apply bD | refine bS ?_ GE457.out) | exact HB.out)⟩
     ·replace c16 := Bool.eq_false_iff.mpr c16
      subst c16
      have H1 : (some (([] : List (S149)), 5)) = some (r1, r2) := by rw [if_neg (show ¬ (false = true) by decide)] at H; exact H
      clear H
      have H := H1
      clear H1
      simp only [Option.some.injEq, Prod.mk.injEq] at H
      obtain ⟨rfl, rfl⟩ := H
      have hcz32_0 : wr.cell? ⟨gb457, 0, none⟩ = some (.int .u64 a3_0) := (blk_cell BK457.out 0).trans rfl
      have hcz32_1 : wr.cell? ⟨gb457, 1, none⟩ = some (.int .u64 a3_1) := (blk_cell BK457.out 1).trans rfl
      have hfz32_0 := blk_frozen BK457.out 0
      have hfz32_1 := blk_frozen BK457.out 1
      go_wp2_with (first | ((with_reducible refine gate_callee (f := 81) rfl ?_); refine goesL_ (some 37) rfl rfl Try.func81 (by kernel_rfl) rfl #[.int .i64 a0, .agg #[.int .u64 a3_0, .int .u64 a3_1]] rfl (by (try simp only [List.map_toArray, List.map_cons, List.map_nil]); first | done | rfl | (simp only [List.length_drop, List.length_take]; rfl)) ?_; (with_reducible refine (octet_Of.calls a0 a3_0 a3_1 false _ A15.out).mono ?_); rintro e w33 ⟨rfl, hb⟩; refine ⟨_, rfl, ?_⟩; have n0_ := Aside0.mk (blk_below (g := gb457) (o := .cells #[.int .u64 a3_0, .int .u64 a3_1] 28 (0, 0)) (by exact bF BK457.out) hb); have n1_ := Aside0.mk (below_step (by repeat (first | (with_reducible first | exact HB.out | apply bA | apply bN | apply bD | refine bS ?_ GE457.out) | exact HB.out)) hb); clear BK457; clear HB; have BK457 := n0_; have HB := n1_; clear n0_ n1_; (try clear hb); (try clear hb2); (try clear hk); (try clear hi)))
      go_ret2
      exact ⟨_, by first | rfl | (simp [errW_none, errW_some] <;> rfl) | (simp [*, errW_none, errW_some] <;> rfl), by first | exact Kd.R_nil _ _ _ _ _ | exact Kd.N_nil _ _ _ _ _ | exact Kd.V_nil _ _ _ _ _ | exact Kd.Q_nil _ _ _ _ _ | exact Kd.S_nil _ _ _ _ _, by repeat (first | (with_reducible first | exact HB.out | apply bA | apply bN | apply bD | refine bS ?_ GE457.out) | exact HB.out)⟩
 ·rw [if_neg c6] at H
  have c6b0 : (t458 == 0) = false := beq_eq_false_iff_ne.mpr c6
  have c6b1 : (t458 != 0) = true := bne_iff_ne.mpr c6
  simp only [Option.some.injEq, Prod.mk.injEq] at H
  obtain ⟨rfl, rfl⟩ := H
  go_enter Try.func39, Try.ntmps39
  go_wp2_with (first | ((with_reducible refine gate_dst (N := 7) rfl ?_); refine box_event ?hg (N := 7) ?hd (cs := #[.int .u64 a3_0, .int .u64 a3_1]) (t := 28) ?hr ?_; (case hd => rfl); (case hg => rfl); (case hr => first | (go_simp; done) | (go_simp; rfl)); intro gb457 hg w34 hbox hb; have n0_ := Aside0.mk (below_step (by exact lF HB.out) hb); have n1_ := Aside0.mk (hbox); have n2_ := Aside0.mk ((by rw [hg]; exact (below_size (by exact lF HB.out)) : w.heap.size ≤ gb457)); have n3_ := Aside0.mk ((by rw [hg]; exact (below_size (by exact lF HB.out)) : w.heap.size ≤ gb457)); clear HB; have HB := n0_; have BK457 := n1_; have GW457 := n2_; have GE457 := n3_; clear n0_ n1_ n2_ n3_; clear hb hbox hg) | ((with_reducible refine gate_callee (f := 90) rfl ?_); refine goesL_ (some 17) rfl rfl Try.func90 (by kernel_rfl) rfl #[.slice A2 l2.length c2] rfl (by (try simp only [List.map_toArray, List.map_cons, List.map_nil]); first | done | rfl | (simp only [List.length_drop, List.length_take]; rfl)) ?_; (with_reducible refine (zero_many.calls _ _ l2 t458 _ ?side1 ?side2 A5.out).mono ?_); (case side1 => repeat (first | exact (Kd.C_below HR2.out HB.out) | (with_reducible refine Kd.C_alloc ?_ _) | (with_reducible refine Kd.C_drewN ?_ _) | (with_reducible refine Kd.C_drew ?_))); (case side2 => exact HC2.out); rintro e w' ⟨rfl, ⟨nd, rfl⟩⟩; refine ⟨_, rfl, ?_⟩))
  go_ret2
  exact ⟨_, by first | rfl | (simp [errW_none, errW_some] <;> rfl) | (simp [*, errW_none, errW_some] <;> rfl), by first | exact Kd.R_nil _ _ _ _ _ | exact Kd.N_nil _ _ _ _ _ | exact Kd.V_nil _ _ _ _ _ | exact Kd.Q_nil _ _ _ _ _ | exact Kd.S_nil _ _ _ _ _, by repeat (first | (with_reducible first | exact HB.out | apply bA | apply bN | apply bD | refine bS ?_ GE457.out) | exact HB.out)⟩
def tower_Add.f (a0_0 : Int) (a0_1 : Int) (a1_0 : Int) (a1_1 : Int) : Option (Int × Int) := some (Go.bits .xor .u64 a0_0 a1_0, Go.bits .xor .u64 a0_1 a1_1)
set_option maxHeartbeats 8000000 in
set_option maxRecDepth 100000 in
theorem tower_Add.calls (a0_0 : Int) (a0_1 : Int) (a1_0 : Int) (a1_1 : Int) (r1 : Int) (r2 : Int) (w : World) (h : tower_Add.f a0_0 a0_1 a1_0 a1_1 = some (r1, r2)) :
  Calls Try.prog 60 #[.agg #[.int .u64 a0_0, .int .u64 a0_1], .agg #[.int .u64 a1_0, .int .u64 a1_1]] w fun e w' => e = .returned (.agg #[.int .u64 r1, .int .u64 r2]) ∧ Below w.heap.size w w' := by
 have hu28 := Try.underlying28
 have HB := Aside0.mk (Below.refl w.heap.size w)
 have H : (some (Go.bits .xor .u64 a0_0 a1_0, Go.bits .xor .u64 a0_1 a1_1)) = some (r1, r2) := h
 clear h
 simp only [Option.some.injEq, Prod.mk.injEq] at H
 obtain ⟨rfl, rfl⟩ := H
 go_enter Try.func60, Try.ntmps60
 go_wp2_with (first | ((with_reducible refine gate_dst (N := 2) rfl ?_); refine box_event ?hg (N := 2) ?hd (cs := #[.int .u64 a0_0, .int .u64 a0_1]) (t := 28) ?hr ?_; (case hd => rfl); (case hg => rfl); (case hr => first | (go_simp; done) | (go_simp; rfl)); intro gb310 hg w3 hbox hb; have n0_ := Aside0.mk (below_step (by exact lF HB.out) hb); have n1_ := Aside0.mk (hbox); have n2_ := Aside0.mk ((by rw [hg]; exact (below_size (by exact lF HB.out)) : w.heap.size ≤ gb310)); have n3_ := Aside0.mk ((by rw [hg]; exact (below_size (by exact lF HB.out)) : w.heap.size ≤ gb310)); clear HB; have HB := n0_; have BK310 := n1_; have GW310 := n2_; have GE310 := n3_; clear n0_ n1_ n2_ n3_; clear hb hbox hg) | ((with_reducible refine gate_dst (N := 3) rfl ?_); refine box_event ?hg (N := 3) ?hd (cs := #[.int .u64 a1_0, .int .u64 a1_1]) (t := 28) ?hr ?_; (case hd => rfl); (case hg => rfl); (case hr => first | (go_simp; done) | (go_simp; rfl)); intro gb311 hg w4 hbox hb; have n0_ := Aside0.mk (blk_below (g := gb310) (o := .cells #[.int .u64 a0_0, .int .u64 a0_1] 28 (0, 0)) (by exact bF BK310.out) hb); have n1_ := Aside0.mk (below_step (by repeat (first | (with_reducible first | exact HB.out | apply bA | apply bN | apply bD | refine bS ?_ GE310.out) | exact HB.out)) hb); have n2_ := Aside0.mk (hbox); have n3_ := Aside0.mk ((by rw [hg]; exact (below_size (by repeat (first | (with_reducible first | exact HB.out | apply bA | apply bN | apply bD | refine bS ?_ GE310.out) | exact HB.out))) : w.heap.size ≤ gb311)); have n4_ := Aside0.mk ((by rw [hg]; exact (below_size (by repeat (first | (with_reducible first | exact HB.out | apply bA | apply bN | apply bD | refine bS ?_ GE310.out) | exact HB.out))) : w.heap.size ≤ gb311)); have n5_ := Aside0.mk ((by rw [hg]; exact Nat.ne_of_lt (blk_lt (g := gb310) (o := .cells #[.int .u64 a0_0, .int .u64 a0_1] 28 (0, 0)) (by exact bF BK310.out)) : gb310 ≠ gb311)); have n6_ := Aside0.mk ((by rw [hg]; exact Nat.ne_of_gt (blk_lt (g := gb310) (o := .cells #[.int .u64 a0_0, .int .u64 a0_1] 28 (0, 0)) (by exact bF BK310.out)) : gb311 ≠ gb310)); clear BK310; clear HB; have BK310 := n0_; have HB := n1_; have BK311 := n2_; have GW311 := n3_; have GE311 := n4_; have NB310_311 := n5_; have NB311_310 := n6_; clear n0_ n1_ n2_ n3_ n4_ n5_ n6_; clear hb hbox hg) | ((with_reducible refine gate_dst (N := 4) rfl ?_); refine box_event ?hg (N := 4) ?hd (cs := #[.int .u64 0, .int .u64 0]) (t := 28) ?hr ?_; (case hd => rfl); (case hg => rfl); (case hr => first | (go_simp; done) | (go_simp; rfl)); intro gb312 hg w5 hbox hb; have n0_ := Aside0.mk (blk_below (g := gb310) (o := .cells #[.int .u64 a0_0, .int .u64 a0_1] 28 (0, 0)) (by exact bF BK310.out) hb); have n1_ := Aside0.mk (blk_below (g := gb311) (o := .cells #[.int .u64 a1_0, .int .u64 a1_1] 28 (0, 0)) (by exact bF BK311.out) hb); have n2_ := Aside0.mk (below_step (by repeat (first | (with_reducible first | exact HB.out | apply bA | apply bN | apply bD | refine bS ?_ GE310.out | refine bS ?_ GE311.out) | exact HB.out)) hb); have n3_ := Aside0.mk (hbox); have n4_ := Aside0.mk ((by rw [hg]; exact (below_size (by repeat (first | (with_reducible first | exact HB.out | apply bA | apply bN | apply bD | refine bS ?_ GE310.out | refine bS ?_ GE311.out) | exact HB.out))) : w.heap.size ≤ gb312)); have n5_ := Aside0.mk ((by rw [hg]; exact (below_size (by repeat (first | (with_reducible first | exact HB.out | apply bA | apply bN | apply bD | refine bS ?_ GE310.out | refine bS ?_ GE311.out) | exact HB.out))) : w.heap.size ≤ gb312)); have n6_ := Aside0.mk ((by rw [hg]; exact Nat.ne_of_lt (blk_lt (g := gb310) (o := .cells #[.int .u64 a0_0, .int .u64 a0_1] 28 (0, 0)) (by exact bF BK310.out)) : gb310 ≠ gb312)); have n7_ := Aside0.mk ((by rw [hg]; exact Nat.ne_of_gt (blk_lt (g := gb310) (o := .cells #[.int .u64 a0_0, .int .u64 a0_1] 28 (0, 0)) (by exact bF BK310.out)) : gb312 ≠ gb310)); have n8_ := Aside0.mk ((by rw [hg]; exact Nat.ne_of_lt (blk_lt (g := gb311) (o := .cells #[.int .u64 a1_0, .int .u64 a1_1] 28 (0, 0)) (by exact bF BK311.out)) : gb311 ≠ gb312)); have n9_ := Aside0.mk ((by rw [hg]; exact Nat.ne_of_gt (blk_lt (g := gb311) (o := .cells #[.int .u64 a1_0, .int .u64 a1_1] 28 (0, 0)) (by exact bF BK311.out)) : gb312 ≠ gb311)); clear BK310; clear BK311; clear HB; have BK310 := n0_; have BK311 := n1_; have HB := n2_; have BK312 := n3_; have GW312 := n4_; have GE312 := n5_; have NB310_312 := n6_; have NB312_310 := n7_; have NB311_312 := n8_; have NB312_311 := n9_; clear n0_ n1_ n2_ n3_ n4_ n5_ n6_ n7_ n8_ n9_; clear hb hbox hg; have hnb6 := NB310_311.out; have hnc6 := NB311_310.out; have hnb7 := NB310_312.out; have hnc7 := NB312_310.out; have hcz8_0 : w5.cell? ⟨gb310, 0, none⟩ = some (.int .u64 a0_0) := (blk_cell BK310.out 0).trans rfl; have hcz8_1 : w5.cell? ⟨gb310, 1, none⟩ = some (.int .u64 a0_1) := (blk_cell BK310.out 1).trans rfl; have hfz8_0 := blk_frozen BK310.out 0; have hfz8_1 := blk_frozen BK310.out 1; have hnb9 := NB311_312.out; have hnc9 := NB312_311.out; have hcz10_0 : w5.cell? ⟨gb311, 0, none⟩ = some (.int .u64 a1_0) := (blk_cell BK311.out 0).trans rfl; have hcz10_1 : w5.cell? ⟨gb311, 1, none⟩ = some (.int .u64 a1_1) := (blk_cell BK311.out 1).trans rfl; have hfz10_0 := blk_frozen BK311.out 0; have hfz10_1 := blk_frozen BK311.out 1; have hcz11_0 : w5.cell? ⟨gb312, 0, none⟩ = some (.int .u64 0) := (blk_cell BK312.out 0).trans rfl; have hcz11_1 : w5.cell? ⟨gb312, 1, none⟩ = some (.int .u64 0) := (blk_cell BK312.out 1).trans rfl; have hfz11_0 := blk_frozen BK312.out 0; have hfz11_1 := blk_frozen BK312.out 1))
 refine bodyPost_ret (results_cell_row rfl _ _ gb312 28 #[.int .u64 (Go.bits .xor .u64 a0_0 a1_0), .int .u64 (Go.bits .xor .u64 a0_1 a1_1)] (0, 0) _ rfl (by (with_reducible repeat (first | refine blk_drewN ?_ _ | refine blk_drew ?_ | refine blk_alloc ?_ _)); refine blk_put (cs := #[.int .u64 (Go.bits .xor .u64 a0_0 a1_0), .int .u64 0]) ?_ 1 _ rfl; (with_reducible repeat (first | refine blk_drewN ?_ _ | refine blk_drew ?_ | refine blk_alloc ?_ _)); refine blk_put (cs := #[.int .u64 0, .int .u64 0]) ?_ 0 _ rfl; exact bF BK312.out) Try.underlying28 rfl (by kernel_rfl)) rfl ?_
 exact ⟨by first | rfl | (simp [errW_none, errW_some] <;> rfl) | (simp [*, errW_none, errW_some] <;> rfl), by repeat (first | (with_reducible first | exact HB.out | apply bA | apply bN | apply bD | refine bS ?_ GE310.out | refine bS ?_ GE311.out | refine bS ?_ GE312.out) | exact HB.out)⟩
end Go.Proofs.Ytoaepfgfbfgcdaa.Q
