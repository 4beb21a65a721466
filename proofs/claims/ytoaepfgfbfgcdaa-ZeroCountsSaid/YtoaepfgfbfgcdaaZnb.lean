/- Part 2 of the claim's own texts: the words and the printed functions that the proof reaches. No conditions. -/
import Derived.Test.YtoaepfgfbfgcdaaZna
import Derived.Test.YtoaepfgfbfgcdaaProg
import Derived.Lib.SliceRun
import Derived.Deep.Slices
import Derived.ChangeSame
import Derived.ChangeOld
import Derived.WideShapes
namespace Go.Proofs.Ytoaepfgfbfgcdaa.Q
open Go.RowKit Go.Proofs.YtoaepfgfbfgcdaaW.PrintWords Go.Proofs.YtoaepfgfbfgcdaaW.PrintLast Go.Proofs.YtoaepfgfbfgcdaaW.PrintMore
attribute [local go_sem] max2_int min2_int max_two min_two max_three min_three max_four min_four
set_option linter.unusedVariables false
set_option linter.unusedSimpArgs false
def errW : Option Int → Value
 | none => .nilIface
 | some c => .iface 0 (.int .i64 c)
theorem errW_none : errW none = .nilIface := rfl
theorem errW_some (c : Int) : errW (some c) = .iface 0 (.int .i64 c) := rfl
theorem info3 : (Try.prog.info? 3).map (fun i => (i.zero, i.size, i.bytes)) = some (some (.int .i64 0), 1, 8) := by kernel_rfl
theorem info4 : (Try.prog.info? 4).map (fun i => (i.zero, i.size, i.bytes)) = some (some (.bool false), 1, 1) := by kernel_rfl
theorem info26 : (Try.prog.info? 26).map (fun i => (i.zero, i.size, i.bytes)) = some (some (.int .u64 0), 1, 8) := by kernel_rfl
theorem info28 : (Try.prog.info? 28).map (fun i => (i.zero, i.size, i.bytes)) = some (some (.agg #[(.int .u64 0), (.int .u64 0)]), 2, 16) := by kernel_rfl
theorem info52 : (Try.prog.info? 52).map (fun i => (i.zero, i.size, i.bytes)) = some (some (.slice none 0 0), 1, 24) := by kernel_rfl
theorem info53 : (Try.prog.info? 53).map (fun i => (i.zero, i.size, i.bytes)) = some (some (.slice none 0 0), 1, 24) := by kernel_rfl
theorem info71 : (Try.prog.info? 71).map (fun i => (i.zero, i.size, i.bytes)) = some (some (.agg #[(.int .u64 0), (.int .u64 0)]), 2, 16) := by kernel_rfl
theorem info74 : (Try.prog.info? 74).map (fun i => (i.zero, i.size, i.bytes)) = some (some (.slice none 0 0), 1, 24) := by kernel_rfl
theorem info83 : (Try.prog.info? 83).map (fun i => (i.zero, i.size, i.bytes)) = some (some (.slice none 0 0), 1, 24) := by kernel_rfl
theorem info88 : (Try.prog.info? 88).map (fun i => (i.zero, i.size, i.bytes)) = some (some (.slice none 0 0), 1, 24) := by kernel_rfl
theorem info91 : (Try.prog.info? 91).map (fun i => (i.zero, i.size, i.bytes)) = some (some (.agg #[(.int .i64 0), (.int .i64 0), (.int .i64 0), (.int .u64 0), (.int .u64 0)]), 5, 40) := by kernel_rfl
theorem info134 : (Try.prog.info? 134).map (fun i => (i.zero, i.size, i.bytes)) = some (some (.agg #[(.int .i64 0), (.int .i64 0), (.int .i64 0), (.int .i64 0), (.int .i64 0)]), 5, 40) := by kernel_rfl
theorem info137 : (Try.prog.info? 137).map (fun i => (i.zero, i.size, i.bytes)) = some (some (.agg #[(.int .i64 0), (.int .i64 0), (.int .i64 0), (.int .i64 0), (.int .i64 0)]), 5, 40) := by kernel_rfl
theorem info149 : (Try.prog.info? 149).map (fun i => (i.zero, i.size, i.bytes)) = some (some (.agg #[(.int .i64 0), (.int .i64 0), (.int .i64 0), (.int .u64 0), (.int .u64 0)]), 5, 40) := by kernel_rfl
structure S134 where
 f0 : Int
 f1 : Int
 f2 : Int
 f3 : Int
 f4 : Int
def z134 : S134 := ⟨(0 : Int), (0 : Int), (0 : Int), (0 : Int), (0 : Int)⟩
def k134 : Kd S134 := Kd.iso (Kd.pair (Kd.int .i64) (Kd.pair (Kd.int .i64) (Kd.pair (Kd.int .i64) (Kd.pair (Kd.int .i64) (Kd.int .i64))))) (fun x : S134 => (x.f0, x.f1, x.f2, x.f3, x.f4))
theorem k134_open {w : World} {x : S134} {cs : List Value} (h : k134.K w x cs) : cs = [.int .i64 x.f0, .int .i64 x.f1, .int .i64 x.f2, .int .i64 x.f3, .int .i64 x.f4] := by
 obtain ⟨_, _, rfl, rfl, ⟨_, _, rfl, rfl, ⟨_, _, rfl, rfl, ⟨_, _, rfl, rfl, rfl⟩⟩⟩⟩ := h
 exact rfl
theorem k134_openM {w : World} {base : Nat} {ok : Nat → Prop} {x : S134} {cs : List Value} (h : k134.M w base ok x cs) : cs = [.int .i64 x.f0, .int .i64 x.f1, .int .i64 x.f2, .int .i64 x.f3, .int .i64 x.f4] := by
 obtain ⟨_, _, rfl, rfl, ⟨_, _, rfl, rfl, ⟨_, _, rfl, rfl, ⟨_, _, rfl, rfl, rfl⟩⟩⟩⟩ := h
 exact rfl
theorem k134_mk (w : World) (x : S134)  : k134.K w x [.int .i64 x.f0, .int .i64 x.f1, .int .i64 x.f2, .int .i64 x.f3, .int .i64 x.f4] := ⟨[.int .i64 x.f0], [.int .i64 x.f1, .int .i64 x.f2, .int .i64 x.f3, .int .i64 x.f4], rfl, rfl, ⟨[.int .i64 x.f1], [.int .i64 x.f2, .int .i64 x.f3, .int .i64 x.f4], rfl, rfl, ⟨[.int .i64 x.f2], [.int .i64 x.f3, .int .i64 x.f4], rfl, rfl, ⟨[.int .i64 x.f3], [.int .i64 x.f4], rfl, rfl, rfl⟩⟩⟩⟩
theorem k134_mkM (w : World) (base : Nat) (ok : Nat → Prop) (x : S134)  : k134.M w base ok x [.int .i64 x.f0, .int .i64 x.f1, .int .i64 x.f2, .int .i64 x.f3, .int .i64 x.f4] := ⟨[.int .i64 x.f0], [.int .i64 x.f1, .int .i64 x.f2, .int .i64 x.f3, .int .i64 x.f4], rfl, rfl, ⟨[.int .i64 x.f1], [.int .i64 x.f2, .int .i64 x.f3, .int .i64 x.f4], rfl, rfl, ⟨[.int .i64 x.f2], [.int .i64 x.f3, .int .i64 x.f4], rfl, rfl, ⟨[.int .i64 x.f3], [.int .i64 x.f4], rfl, rfl, rfl⟩⟩⟩⟩
theorem k134_mkF (W : World) (ok : Nat → Prop) (x : S134) : Kd.FK k134 W ok x [.int .i64 x.f0, .int .i64 x.f1, .int .i64 x.f2, .int .i64 x.f3, .int .i64 x.f4] := fun W2 _ => k134_mk W2 x
def rd_T134 (xs : List S134) (i : Int) : S134 := xs.getD i.toNat z134
theorem at_T134 {w : World} {A : Option Addr} {n : Nat} {xs : List S134} (h : Kd.C k134 w A n xs) (i : Int) (h0 : 0 ≤ i) (h1 : i < n) : ∃ ad , A = some ad ∧ w.cell? (ad.add (i.toNat * 5)) = some (.int .i64 (rd_T134 xs i).f0) ∧ w.cell? ⟨(ad.add (i.toNat * 5)).block, (ad.add (i.toNat * 5)).off + 1, none⟩ = some (.int .i64 (rd_T134 xs i).f1) ∧ w.cell? ⟨(ad.add (i.toNat * 5)).block, (ad.add (i.toNat * 5)).off + 2, none⟩ = some (.int .i64 (rd_T134 xs i).f2) ∧ w.cell? ⟨(ad.add (i.toNat * 5)).block, (ad.add (i.toNat * 5)).off + 3, none⟩ = some (.int .i64 (rd_T134 xs i).f3) ∧ w.cell? ⟨(ad.add (i.toNat * 5)).block, (ad.add (i.toNat * 5)).off + 4, none⟩ = some (.int .i64 (rd_T134 xs i).f4) := by
 obtain ⟨ad, c, e, _, hK, hc0⟩ := Kd.C_get h z134 i h0 h1
 have hc : ∀ j u, c[j]? = some u → w.cell? (ad.add (i.toNat * 5 + j)) = some u := hc0
 obtain rfl := k134_open hK
 exact ⟨ad, e, hc 0 _ rfl, by rw [← add_field _ _ 1 (by omega)]; exact hc 1 _ rfl, by rw [← add_field _ _ 2 (by omega)]; exact hc 2 _ rfl, by rw [← add_field _ _ 3 (by omega)]; exact hc 3 _ rfl, by rw [← add_field _ _ 4 (by omega)]; exact hc 4 _ rfl⟩
structure S137 where
 f0 : Int
 f1 : Int
 f2 : Int
 f3 : Int
 f4 : Int
def z137 : S137 := ⟨(0 : Int), (0 : Int), (0 : Int), (0 : Int), (0 : Int)⟩
def k137 : Kd S137 := Kd.iso (Kd.pair (Kd.int .i64) (Kd.pair (Kd.int .i64) (Kd.pair (Kd.int .i64) (Kd.pair (Kd.int .i64) (Kd.int .i64))))) (fun x : S137 => (x.f0, x.f1, x.f2, x.f3, x.f4))
theorem k137_open {w : World} {x : S137} {cs : List Value} (h : k137.K w x cs) : cs = [.int .i64 x.f0, .int .i64 x.f1, .int .i64 x.f2, .int .i64 x.f3, .int .i64 x.f4] := by
 obtain ⟨_, _, rfl, rfl, ⟨_, _, rfl, rfl, ⟨_, _, rfl, rfl, ⟨_, _, rfl, rfl, rfl⟩⟩⟩⟩ := h
 exact rfl
theorem k137_openM {w : World} {base : Nat} {ok : Nat → Prop} {x : S137} {cs : List Value} (h : k137.M w base ok x cs) : cs = [.int .i64 x.f0, .int .i64 x.f1, .int .i64 x.f2, .int .i64 x.f3, .int .i64 x.f4] := by
 obtain ⟨_, _, rfl, rfl, ⟨_, _, rfl, rfl, ⟨_, _, rfl, rfl, ⟨_, _, rfl, rfl, rfl⟩⟩⟩⟩ := h
 exact rfl
theorem k137_mk (w : World) (x : S137)  : k137.K w x [.int .i64 x.f0, .int .i64 x.f1, .int .i64 x.f2, .int .i64 x.f3, .int .i64 x.f4] := ⟨[.int .i64 x.f0], [.int .i64 x.f1, .int .i64 x.f2, .int .i64 x.f3, .int .i64 x.f4], rfl, rfl, ⟨[.int .i64 x.f1], [.int .i64 x.f2, .int .i64 x.f3, .int .i64 x.f4], rfl, rfl, ⟨[.int .i64 x.f2], [.int .i64 x.f3, .int .i64 x.f4], rfl, rfl, ⟨[.int .i64 x.f3], [.int .i64 x.f4], rfl, rfl, rfl⟩⟩⟩⟩
theorem k137_mkM (w : World) (base : Nat) (ok : Nat → Prop) (x : S137)  : k137.M w base ok x [.int .i64 x.f0, .int .i64 x.f1, .int .i64 x.f2, .int .i64 x.f3, .int .i64 x.f4] := ⟨[.int .i64 x.f0], [.int .i64 x.f1, .int .i64 x.f2, .int .i64 x.f3, .int .i64 x.f4], rfl, rfl, ⟨[.int .i64 x.f1], [.int .i64 x.f2, .int .i64 x.f3, .int .i64 x.f4], rfl, rfl, ⟨[.int .i64 x.f2], [.int .i64 x.f3, .int .i64 x.f4], rfl, rfl, ⟨[.int .i64 x.f3], [.int .i64 x.f4], rfl, rfl, rfl⟩⟩⟩⟩
theorem k137_mkF (W : World) (ok : Nat → Prop) (x : S137) : Kd.FK k137 W ok x [.int .i64 x.f0, .int .i64 x.f1, .int .i64 x.f2, .int .i64 x.f3, .int .i64 x.f4] := fun W2 _ => k137_mk W2 x
def rd_T137 (xs : List S137) (i : Int) : S137 := xs.getD i.toNat z137
theorem at_T137 {w : World} {A : Option Addr} {n : Nat} {xs : List S137} (h : Kd.C k137 w A n xs) (i : Int) (h0 : 0 ≤ i) (h1 : i < n) : ∃ ad , A = some ad ∧ w.cell? (ad.add (i.toNat * 5)) = some (.int .i64 (rd_T137 xs i).f0) ∧ w.cell? ⟨(ad.add (i.toNat * 5)).block, (ad.add (i.toNat * 5)).off + 1, none⟩ = some (.int .i64 (rd_T137 xs i).f1) ∧ w.cell? ⟨(ad.add (i.toNat * 5)).block, (ad.add (i.toNat * 5)).off + 2, none⟩ = some (.int .i64 (rd_T137 xs i).f2) ∧ w.cell? ⟨(ad.add (i.toNat * 5)).block, (ad.add (i.toNat * 5)).off + 3, none⟩ = some (.int .i64 (rd_T137 xs i).f3) ∧ w.cell? ⟨(ad.add (i.toNat * 5)).block, (ad.add (i.toNat * 5)).off + 4, none⟩ = some (.int .i64 (rd_T137 xs i).f4) := by
 obtain ⟨ad, c, e, _, hK, hc0⟩ := Kd.C_get h z137 i h0 h1
 have hc : ∀ j u, c[j]? = some u → w.cell? (ad.add (i.toNat * 5 + j)) = some u := hc0
 obtain rfl := k137_open hK
 exact ⟨ad, e, hc 0 _ rfl, by rw [← add_field _ _ 1 (by omega)]; exact hc 1 _ rfl, by rw [← add_field _ _ 2 (by omega)]; exact hc 2 _ rfl, by rw [← add_field _ _ 3 (by omega)]; exact hc 3 _ rfl, by rw [← add_field _ _ 4 (by omega)]; exact hc 4 _ rfl⟩
def rd_L4 (xs : List (List Int)) (i : Int) : (List Int) := xs.getD i.toNat ([] : List Int)
theorem at_L4 {w : World} {A : Option Addr} {n : Nat} {xs : List (List Int)} (h : Kd.C (Kd.slice 26 (Kd.int .u64)) w A n xs) (i : Int) (h0 : 0 ≤ i) (h1 : i < n) : ∃ ad A0 c0, A = some ad ∧ w.cell? (ad.add i.toNat) = some (.slice A0 (rd_L4 xs i).length c0) ∧ (rd_L4 xs i).length ≤ c0 ∧ (Kd.int .u64).C w A0 (rd_L4 xs i).length (rd_L4 xs i) := by
 obtain ⟨ad, c, e, _, hK, hc0⟩ := Kd.C_get h ([] : List Int) i h0 h1
 have hc : ∀ j u, c[j]? = some u → w.cell? (ad.add (i.toNat * 1 + j)) = some u := hc0
 obtain ⟨A0, c0, rfl, l0, g0⟩ := hK
 exact ⟨ad, A0, c0, e, by have hq := hc 0 _ rfl; rwa [Nat.mul_one, Nat.add_zero] at hq, l0, g0⟩
structure S28 where
 f0 : Int
 f1 : Int
def z28 : S28 := ⟨(0 : Int), (0 : Int)⟩
def k28 : Kd S28 := Kd.iso (Kd.pair (Kd.int .u64) (Kd.int .u64)) (fun x : S28 => (x.f0, x.f1))
theorem k28_open {w : World} {x : S28} {cs : List Value} (h : k28.K w x cs) : cs = [.int .u64 x.f0, .int .u64 x.f1] := by
 obtain ⟨_, _, rfl, rfl, rfl⟩ := h
 exact rfl
theorem k28_openM {w : World} {base : Nat} {ok : Nat → Prop} {x : S28} {cs : List Value} (h : k28.M w base ok x cs) : cs = [.int .u64 x.f0, .int .u64 x.f1] := by
 obtain ⟨_, _, rfl, rfl, rfl⟩ := h
 exact rfl
theorem k28_mk (w : World) (x : S28)  : k28.K w x [.int .u64 x.f0, .int .u64 x.f1] := ⟨[.int .u64 x.f0], [.int .u64 x.f1], rfl, rfl, rfl⟩
theorem k28_mkM (w : World) (base : Nat) (ok : Nat → Prop) (x : S28)  : k28.M w base ok x [.int .u64 x.f0, .int .u64 x.f1] := ⟨[.int .u64 x.f0], [.int .u64 x.f1], rfl, rfl, rfl⟩
theorem k28_mkF (W : World) (ok : Nat → Prop) (x : S28) : Kd.FK k28 W ok x [.int .u64 x.f0, .int .u64 x.f1] := fun W2 _ => k28_mk W2 x
def rd_T28 (xs : List S28) (i : Int) : S28 := xs.getD i.toNat z28
theorem at_T28 {w : World} {A : Option Addr} {n : Nat} {xs : List S28} (h : Kd.C k28 w A n xs) (i : Int) (h0 : 0 ≤ i) (h1 : i < n) : ∃ ad , A = some ad ∧ w.cell? (ad.add (i.toNat * 2)) = some (.int .u64 (rd_T28 xs i).f0) ∧ w.cell? ⟨(ad.add (i.toNat * 2)).block, (ad.add (i.toNat * 2)).off + 1, none⟩ = some (.int .u64 (rd_T28 xs i).f1) := by
 obtain ⟨ad, c, e, _, hK, hc0⟩ := Kd.C_get h z28 i h0 h1
 have hc : ∀ j u, c[j]? = some u → w.cell? (ad.add (i.toNat * 2 + j)) = some u := hc0
 obtain rfl := k28_open hK
 exact ⟨ad, e, hc 0 _ rfl, by rw [← add_field _ _ 1 (by omega)]; exact hc 1 _ rfl⟩
def rd_L7 (xs : List (List S134)) (i : Int) : (List S134) := xs.getD i.toNat ([] : List S134)
theorem at_L7 {w : World} {A : Option Addr} {n : Nat} {xs : List (List S134)} (h : Kd.C (Kd.slice 134 k134) w A n xs) (i : Int) (h0 : 0 ≤ i) (h1 : i < n) : ∃ ad A0 c0, A = some ad ∧ w.cell? (ad.add i.toNat) = some (.slice A0 (rd_L7 xs i).length c0) ∧ (rd_L7 xs i).length ≤ c0 ∧ k134.C w A0 (rd_L7 xs i).length (rd_L7 xs i) := by
 obtain ⟨ad, c, e, _, hK, hc0⟩ := Kd.C_get h ([] : List S134) i h0 h1
 have hc : ∀ j u, c[j]? = some u → w.cell? (ad.add (i.toNat * 1 + j)) = some u := hc0
 obtain ⟨A0, c0, rfl, l0, g0⟩ := hK
 exact ⟨ad, A0, c0, e, by have hq := hc 0 _ rfl; rwa [Nat.mul_one, Nat.add_zero] at hq, l0, g0⟩
structure S24 where
 f0 : Int
 f1 : Int
 f2 : Int
 f3 : Int
 f4 : Int
 f5 : (List S134)
def z24 : S24 := ⟨(0 : Int), (0 : Int), (0 : Int), (0 : Int), (0 : Int), ([] : List S134)⟩
def k24 : Kd S24 := Kd.iso (Kd.pair (Kd.int .i64) (Kd.pair (Kd.int .i64) (Kd.pair (Kd.int .i64) (Kd.pair (Kd.int .i64) (Kd.pair (Kd.int .i64) (Kd.slice 134 k134)))))) (fun x : S24 => (x.f0, x.f1, x.f2, x.f3, x.f4, x.f5))
theorem k24_open {w : World} {x : S24} {cs : List Value} (h : k24.K w x cs) : ∃ A5 c5, cs = [.int .i64 x.f0, .int .i64 x.f1, .int .i64 x.f2, .int .i64 x.f3, .int .i64 x.f4, .slice A5 x.f5.length c5] ∧ x.f5.length ≤ c5 ∧ k134.C w A5 x.f5.length x.f5 := by
 obtain ⟨_, _, rfl, rfl, ⟨_, _, rfl, rfl, ⟨_, _, rfl, rfl, ⟨_, _, rfl, rfl, ⟨_, _, rfl, rfl, ⟨A5, c5, rfl, l5, g5⟩⟩⟩⟩⟩⟩ := h
 exact ⟨A5, c5, rfl, l5, g5⟩
theorem k24_openM {w : World} {base : Nat} {ok : Nat → Prop} {x : S24} {cs : List Value} (h : k24.M w base ok x cs) : ∃ v5, cs = [.int .i64 x.f0, .int .i64 x.f1, .int .i64 x.f2, .int .i64 x.f3, .int .i64 x.f4, v5] ∧ k134.R 134 w base ok v5 x.f5 := by
 obtain ⟨_, _, rfl, rfl, ⟨_, _, rfl, rfl, ⟨_, _, rfl, rfl, ⟨_, _, rfl, rfl, ⟨_, _, rfl, rfl, ⟨v5, rfl, g5⟩⟩⟩⟩⟩⟩ := h
 exact ⟨v5, rfl, g5⟩
theorem k24_mk (w : World) (x : S24) {A5 : Option Addr} {c5 : Nat} (l5 : x.f5.length ≤ c5) (g5 : k134.C w A5 x.f5.length x.f5) : k24.K w x [.int .i64 x.f0, .int .i64 x.f1, .int .i64 x.f2, .int .i64 x.f3, .int .i64 x.f4, .slice A5 x.f5.length c5] := ⟨[.int .i64 x.f0], [.int .i64 x.f1, .int .i64 x.f2, .int .i64 x.f3, .int .i64 x.f4, .slice A5 x.f5.length c5], rfl, rfl, ⟨[.int .i64 x.f1], [.int .i64 x.f2, .int .i64 x.f3, .int .i64 x.f4, .slice A5 x.f5.length c5], rfl, rfl, ⟨[.int .i64 x.f2], [.int .i64 x.f3, .int .i64 x.f4, .slice A5 x.f5.length c5], rfl, rfl, ⟨[.int .i64 x.f3], [.int .i64 x.f4, .slice A5 x.f5.length c5], rfl, rfl, ⟨[.int .i64 x.f4], [.slice A5 x.f5.length c5], rfl, rfl, ⟨A5, c5, rfl, l5, g5⟩⟩⟩⟩⟩⟩
theorem k24_mkM (w : World) (base : Nat) (ok : Nat → Prop) (x : S24) {v5 : Value} (g5 : k134.R 134 w base ok v5 x.f5) : k24.M w base ok x [.int .i64 x.f0, .int .i64 x.f1, .int .i64 x.f2, .int .i64 x.f3, .int .i64 x.f4, v5] := ⟨[.int .i64 x.f0], [.int .i64 x.f1, .int .i64 x.f2, .int .i64 x.f3, .int .i64 x.f4, v5], rfl, rfl, ⟨[.int .i64 x.f1], [.int .i64 x.f2, .int .i64 x.f3, .int .i64 x.f4, v5], rfl, rfl, ⟨[.int .i64 x.f2], [.int .i64 x.f3, .int .i64 x.f4, v5], rfl, rfl, ⟨[.int .i64 x.f3], [.int .i64 x.f4, v5], rfl, rfl, ⟨[.int .i64 x.f4], [v5], rfl, rfl, ⟨v5, rfl, g5⟩⟩⟩⟩⟩⟩
theorem k24_openF {W : World} {ok : Nat → Prop} {x : S24} {cs : List Value} (h : Kd.FK k24 W ok x cs) : ∃ A5 c5, cs = [.int .i64 x.f0, .int .i64 x.f1, .int .i64 x.f2, .int .i64 x.f3, .int .i64 x.f4, .slice A5 x.f5.length c5] ∧ x.f5.length ≤ c5 ∧ Kd.F k134 W ok A5 x.f5.length x.f5 := by
 obtain ⟨A5, c5, rfl, l5, _⟩ := k24_open (Kd.FK_now h)
 exact ⟨A5, c5, rfl, l5, (fun W' hW => by obtain ⟨A5_, c5_, he, l5_, g5_⟩ := k24_open (h W' hW); injection (Option.some.inj (show some (Value.slice A5 x.f5.length c5) = some (Value.slice A5_ x.f5.length c5_) from congrArg (fun l => l[5]?) he)) with ha_ _ _; rw [ha_]; exact g5_)⟩
theorem k24_mkF (W : World) (ok : Nat → Prop) (x : S24) {A5 : Option Addr} {c5 : Nat} (l5 : x.f5.length ≤ c5) (g5 : Kd.F k134 W ok A5 x.f5.length x.f5) : Kd.FK k24 W ok x [.int .i64 x.f0, .int .i64 x.f1, .int .i64 x.f2, .int .i64 x.f3, .int .i64 x.f4, .slice A5 x.f5.length c5] := fun W2 hW => k24_mk W2 x l5 (g5 W2 hW)
def rd_T24 (xs : List S24) (i : Int) : S24 := xs.getD i.toNat z24
theorem at_T24 {w : World} {A : Option Addr} {n : Nat} {xs : List S24} (h : Kd.C k24 w A n xs) (i : Int) (h0 : 0 ≤ i) (h1 : i < n) : ∃ ad A5 c5, A = some ad ∧ w.cell? (ad.add (i.toNat * 6)) = some (.int .i64 (rd_T24 xs i).f0) ∧ w.cell? ⟨(ad.add (i.toNat * 6)).block, (ad.add (i.toNat * 6)).off + 1, none⟩ = some (.int .i64 (rd_T24 xs i).f1) ∧ w.cell? ⟨(ad.add (i.toNat * 6)).block, (ad.add (i.toNat * 6)).off + 2, none⟩ = some (.int .i64 (rd_T24 xs i).f2) ∧ w.cell? ⟨(ad.add (i.toNat * 6)).block, (ad.add (i.toNat * 6)).off + 3, none⟩ = some (.int .i64 (rd_T24 xs i).f3) ∧ w.cell? ⟨(ad.add (i.toNat * 6)).block, (ad.add (i.toNat * 6)).off + 4, none⟩ = some (.int .i64 (rd_T24 xs i).f4) ∧ w.cell? ⟨(ad.add (i.toNat * 6)).block, (ad.add (i.toNat * 6)).off + 5, none⟩ = some (.slice A5 (rd_T24 xs i).f5.length c5) ∧ (rd_T24 xs i).f5.length ≤ c5 ∧ k134.C w A5 (rd_T24 xs i).f5.length (rd_T24 xs i).f5 := by
 obtain ⟨ad, c, e, _, hK, hc0⟩ := Kd.C_get h z24 i h0 h1
 have hc : ∀ j u, c[j]? = some u → w.cell? (ad.add (i.toNat * 6 + j)) = some u := hc0
 obtain ⟨A5, c5, rfl, l5, g5⟩ := k24_open hK
 exact ⟨ad, A5, c5, e, hc 0 _ rfl, by rw [← add_field _ _ 1 (by omega)]; exact hc 1 _ rfl, by rw [← add_field _ _ 2 (by omega)]; exact hc 2 _ rfl, by rw [← add_field _ _ 3 (by omega)]; exact hc 3 _ rfl, by rw [← add_field _ _ 4 (by omega)]; exact hc 4 _ rfl, by rw [← add_field _ _ 5 (by omega)]; exact hc 5 _ rfl, l5, g5⟩
def rd_L9 (xs : List (List (List Int))) (i : Int) : (List (List Int)) := xs.getD i.toNat ([] : List (List Int))
theorem at_L9 {w : World} {A : Option Addr} {n : Nat} {xs : List (List (List Int))} (h : Kd.C (Kd.slice 52 (Kd.slice 26 (Kd.int .u64))) w A n xs) (i : Int) (h0 : 0 ≤ i) (h1 : i < n) : ∃ ad A0 c0, A = some ad ∧ w.cell? (ad.add i.toNat) = some (.slice A0 (rd_L9 xs i).length c0) ∧ (rd_L9 xs i).length ≤ c0 ∧ (Kd.slice 26 (Kd.int .u64)).C w A0 (rd_L9 xs i).length (rd_L9 xs i) := by
 obtain ⟨ad, c, e, _, hK, hc0⟩ := Kd.C_get h ([] : List (List Int)) i h0 h1
 have hc : ∀ j u, c[j]? = some u → w.cell? (ad.add (i.toNat * 1 + j)) = some u := hc0
 obtain ⟨A0, c0, rfl, l0, g0⟩ := hK
 exact ⟨ad, A0, c0, e, by have hq := hc 0 _ rfl; rwa [Nat.mul_one, Nat.add_zero] at hq, l0, g0⟩
structure S30 where
 f0 : Int
 f1 : Int
 f2 : Int
 f3 : S28
def z30 : S30 := ⟨(0 : Int), (0 : Int), (0 : Int), z28⟩
def k30 : Kd S30 := Kd.iso (Kd.pair (Kd.int .i64) (Kd.pair (Kd.int .i64) (Kd.pair (Kd.int .i64) k28))) (fun x : S30 => (x.f0, x.f1, x.f2, x.f3))
theorem k30_open {w : World} {x : S30} {cs : List Value} (h : k30.K w x cs) : cs = [.int .i64 x.f0, .int .i64 x.f1, .int .i64 x.f2, .int .u64 x.f3.f0, .int .u64 x.f3.f1] := by
 obtain ⟨_, _, rfl, rfl, ⟨_, _, rfl, rfl, ⟨_, _, rfl, rfl, s3⟩⟩⟩ := h
 obtain rfl := k28_open s3
 exact rfl
theorem k30_openM {w : World} {base : Nat} {ok : Nat → Prop} {x : S30} {cs : List Value} (h : k30.M w base ok x cs) : cs = [.int .i64 x.f0, .int .i64 x.f1, .int .i64 x.f2, .int .u64 x.f3.f0, .int .u64 x.f3.f1] := by
 obtain ⟨_, _, rfl, rfl, ⟨_, _, rfl, rfl, ⟨_, _, rfl, rfl, s3⟩⟩⟩ := h
 obtain rfl := k28_openM s3
 exact rfl
theorem k30_mk (w : World) (x : S30)  : k30.K w x [.int .i64 x.f0, .int .i64 x.f1, .int .i64 x.f2, .int .u64 x.f3.f0, .int .u64 x.f3.f1] := ⟨[.int .i64 x.f0], [.int .i64 x.f1, .int .i64 x.f2, .int .u64 x.f3.f0, .int .u64 x.f3.f1], rfl, rfl, ⟨[.int .i64 x.f1], [.int .i64 x.f2, .int .u64 x.f3.f0, .int .u64 x.f3.f1], rfl, rfl, ⟨[.int .i64 x.f2], [.int .u64 x.f3.f0, .int .u64 x.f3.f1], rfl, rfl, (k28_mk w x.f3 )⟩⟩⟩
theorem k30_mkM (w : World) (base : Nat) (ok : Nat → Prop) (x : S30)  : k30.M w base ok x [.int .i64 x.f0, .int .i64 x.f1, .int .i64 x.f2, .int .u64 x.f3.f0, .int .u64 x.f3.f1] := ⟨[.int .i64 x.f0], [.int .i64 x.f1, .int .i64 x.f2, .int .u64 x.f3.f0, .int .u64 x.f3.f1], rfl, rfl, ⟨[.int .i64 x.f1], [.int .i64 x.f2, .int .u64 x.f3.f0, .int .u64 x.f3.f1], rfl, rfl, ⟨[.int .i64 x.f2], [.int .u64 x.f3.f0, .int .u64 x.f3.f1], rfl, rfl, (k28_mkM w base ok x.f3 )⟩⟩⟩
theorem k30_mkF (W : World) (ok : Nat → Prop) (x : S30) : Kd.FK k30 W ok x [.int .i64 x.f0, .int .i64 x.f1, .int .i64 x.f2, .int .u64 x.f3.f0, .int .u64 x.f3.f1] := fun W2 _ => k30_mk W2 x
def rd_T30 (xs : List S30) (i : Int) : S30 := xs.getD i.toNat z30
theorem at_T30 {w : World} {A : Option Addr} {n : Nat} {xs : List S30} (h : Kd.C k30 w A n xs) (i : Int) (h0 : 0 ≤ i) (h1 : i < n) : ∃ ad , A = some ad ∧ w.cell? (ad.add (i.toNat * 5)) = some (.int .i64 (rd_T30 xs i).f0) ∧ w.cell? ⟨(ad.add (i.toNat * 5)).block, (ad.add (i.toNat * 5)).off + 1, none⟩ = some (.int .i64 (rd_T30 xs i).f1) ∧ w.cell? ⟨(ad.add (i.toNat * 5)).block, (ad.add (i.toNat * 5)).off + 2, none⟩ = some (.int .i64 (rd_T30 xs i).f2) ∧ w.cell? ⟨(ad.add (i.toNat * 5)).block, (ad.add (i.toNat * 5)).off + 3, none⟩ = some (.int .u64 (rd_T30 xs i).f3.f0) ∧ w.cell? ⟨(ad.add (i.toNat * 5)).block, (ad.add (i.toNat * 5)).off + 4, none⟩ = some (.int .u64 (rd_T30 xs i).f3.f1) := by
 obtain ⟨ad, c, e, _, hK, hc0⟩ := Kd.C_get h z30 i h0 h1
 have hc : ∀ j u, c[j]? = some u → w.cell? (ad.add (i.toNat * 5 + j)) = some u := hc0
 obtain rfl := k30_open hK
 exact ⟨ad, e, hc 0 _ rfl, by rw [← add_field _ _ 1 (by omega)]; exact hc 1 _ rfl, by rw [← add_field _ _ 2 (by omega)]; exact hc 2 _ rfl, by rw [← add_field _ _ 3 (by omega)]; exact hc 3 _ rfl, by rw [← add_field _ _ 4 (by omega)]; exact hc 4 _ rfl⟩
def rd_L11 (xs : List (List S28)) (i : Int) : (List S28) := xs.getD i.toNat ([] : List S28)
theorem at_L11 {w : World} {A : Option Addr} {n : Nat} {xs : List (List S28)} (h : Kd.C (Kd.slice 28 k28) w A n xs) (i : Int) (h0 : 0 ≤ i) (h1 : i < n) : ∃ ad A0 c0, A = some ad ∧ w.cell? (ad.add i.toNat) = some (.slice A0 (rd_L11 xs i).length c0) ∧ (rd_L11 xs i).length ≤ c0 ∧ k28.C w A0 (rd_L11 xs i).length (rd_L11 xs i) := by
 obtain ⟨ad, c, e, _, hK, hc0⟩ := Kd.C_get h ([] : List S28) i h0 h1
 have hc : ∀ j u, c[j]? = some u → w.cell? (ad.add (i.toNat * 1 + j)) = some u := hc0
 obtain ⟨A0, c0, rfl, l0, g0⟩ := hK
 exact ⟨ad, A0, c0, e, by have hq := hc 0 _ rfl; rwa [Nat.mul_one, Nat.add_zero] at hq, l0, g0⟩
structure S149 where
 f0 : Int
 f1 : Int
 f2 : Int
 f3 : S28
def z149 : S149 := ⟨(0 : Int), (0 : Int), (0 : Int), z28⟩
def k149 : Kd S149 := Kd.iso (Kd.pair (Kd.int .i64) (Kd.pair (Kd.int .i64) (Kd.pair (Kd.int .i64) k28))) (fun x : S149 => (x.f0, x.f1, x.f2, x.f3))
theorem k149_open {w : World} {x : S149} {cs : List Value} (h : k149.K w x cs) : cs = [.int .i64 x.f0, .int .i64 x.f1, .int .i64 x.f2, .int .u64 x.f3.f0, .int .u64 x.f3.f1] := by
 obtain ⟨_, _, rfl, rfl, ⟨_, _, rfl, rfl, ⟨_, _, rfl, rfl, s3⟩⟩⟩ := h
 obtain rfl := k28_open s3
 exact rfl
theorem k149_openM {w : World} {base : Nat} {ok : Nat → Prop} {x : S149} {cs : List Value} (h : k149.M w base ok x cs) : cs = [.int .i64 x.f0, .int .i64 x.f1, .int .i64 x.f2, .int .u64 x.f3.f0, .int .u64 x.f3.f1] := by
 obtain ⟨_, _, rfl, rfl, ⟨_, _, rfl, rfl, ⟨_, _, rfl, rfl, s3⟩⟩⟩ := h
 obtain rfl := k28_openM s3
 exact rfl
theorem k149_mk (w : World) (x : S149)  : k149.K w x [.int .i64 x.f0, .int .i64 x.f1, .int .i64 x.f2, .int .u64 x.f3.f0, .int .u64 x.f3.f1] := ⟨[.int .i64 x.f0], [.int .i64 x.f1, .int .i64 x.f2, .int .u64 x.f3.f0, .int .u64 x.f3.f1], rfl, rfl, ⟨[.int .i64 x.f1], [.int .i64 x.f2, .int .u64 x.f3.f0, .int .u64 x.f3.f1], rfl, rfl, ⟨[.int .i64 x.f2], [.int .u64 x.f3.f0, .int .u64 x.f3.f1], rfl, rfl, (k28_mk w x.f3 )⟩⟩⟩
theorem k149_mkM (w : World) (base : Nat) (ok : Nat → Prop) (x : S149)  : k149.M w base ok x [.int .i64 x.f0, .int .i64 x.f1, .int .i64 x.f2, .int .u64 x.f3.f0, .int .u64 x.f3.f1] := ⟨[.int .i64 x.f0], [.int .i64 x.f1, .int .i64 x.f2, .int .u64 x.f3.f0, .int .u64 x.f3.f1], rfl, rfl, ⟨[.int .i64 x.f1], [.int .i64 x.f2, .int .u64 x.f3.f0, .int .u64 x.f3.f1], rfl, rfl, ⟨[.int .i64 x.f2], [.int .u64 x.f3.f0, .int .u64 x.f3.f1], rfl, rfl, (k28_mkM w base ok x.f3 )⟩⟩⟩
theorem k149_mkF (W : World) (ok : Nat → Prop) (x : S149) : Kd.FK k149 W ok x [.int .i64 x.f0, .int .i64 x.f1, .int .i64 x.f2, .int .u64 x.f3.f0, .int .u64 x.f3.f1] := fun W2 _ => k149_mk W2 x
def rd_T149 (xs : List S149) (i : Int) : S149 := xs.getD i.toNat z149
theorem at_T149 {w : World} {A : Option Addr} {n : Nat} {xs : List S149} (h : Kd.C k149 w A n xs) (i : Int) (h0 : 0 ≤ i) (h1 : i < n) : ∃ ad , A = some ad ∧ w.cell? (ad.add (i.toNat * 5)) = some (.int .i64 (rd_T149 xs i).f0) ∧ w.cell? ⟨(ad.add (i.toNat * 5)).block, (ad.add (i.toNat * 5)).off + 1, none⟩ = some (.int .i64 (rd_T149 xs i).f1) ∧ w.cell? ⟨(ad.add (i.toNat * 5)).block, (ad.add (i.toNat * 5)).off + 2, none⟩ = some (.int .i64 (rd_T149 xs i).f2) ∧ w.cell? ⟨(ad.add (i.toNat * 5)).block, (ad.add (i.toNat * 5)).off + 3, none⟩ = some (.int .u64 (rd_T149 xs i).f3.f0) ∧ w.cell? ⟨(ad.add (i.toNat * 5)).block, (ad.add (i.toNat * 5)).off + 4, none⟩ = some (.int .u64 (rd_T149 xs i).f3.f1) := by
 obtain ⟨ad, c, e, _, hK, hc0⟩ := Kd.C_get h z149 i h0 h1
 have hc : ∀ j u, c[j]? = some u → w.cell? (ad.add (i.toNat * 5 + j)) = some u := hc0
 obtain rfl := k149_open hK
 exact ⟨ad, e, hc 0 _ rfl, by rw [← add_field _ _ 1 (by omega)]; exact hc 1 _ rfl, by rw [← add_field _ _ 2 (by omega)]; exact hc 2 _ rfl, by rw [← add_field _ _ 3 (by omega)]; exact hc 3 _ rfl, by rw [← add_field _ _ 4 (by omega)]; exact hc 4 _ rfl⟩
def rd_L13 (xs : List (List S149)) (i : Int) : (List S149) := xs.getD i.toNat ([] : List S149)
theorem at_L13 {w : World} {A : Option Addr} {n : Nat} {xs : List (List S149)} (h : Kd.C (Kd.slice 149 k149) w A n xs) (i : Int) (h0 : 0 ≤ i) (h1 : i < n) : ∃ ad A0 c0, A = some ad ∧ w.cell? (ad.add i.toNat) = some (.slice A0 (rd_L13 xs i).length c0) ∧ (rd_L13 xs i).length ≤ c0 ∧ k149.C w A0 (rd_L13 xs i).length (rd_L13 xs i) := by
 obtain ⟨ad, c, e, _, hK, hc0⟩ := Kd.C_get h ([] : List S149) i h0 h1
 have hc : ∀ j u, c[j]? = some u → w.cell? (ad.add (i.toNat * 1 + j)) = some u := hc0
 obtain ⟨A0, c0, rfl, l0, g0⟩ := hK
 exact ⟨ad, A0, c0, e, by have hq := hc 0 _ rfl; rwa [Nat.mul_one, Nat.add_zero] at hq, l0, g0⟩
def rd_L14 (xs : List (List (List S28))) (i : Int) : (List (List S28)) := xs.getD i.toNat ([] : List (List S28))
theorem at_L14 {w : World} {A : Option Addr} {n : Nat} {xs : List (List (List S28))} (h : Kd.C (Kd.slice 53 (Kd.slice 28 k28)) w A n xs) (i : Int) (h0 : 0 ≤ i) (h1 : i < n) : ∃ ad A0 c0, A = some ad ∧ w.cell? (ad.add i.toNat) = some (.slice A0 (rd_L14 xs i).length c0) ∧ (rd_L14 xs i).length ≤ c0 ∧ (Kd.slice 28 k28).C w A0 (rd_L14 xs i).length (rd_L14 xs i) := by
 obtain ⟨ad, c, e, _, hK, hc0⟩ := Kd.C_get h ([] : List (List S28)) i h0 h1
 have hc : ∀ j u, c[j]? = some u → w.cell? (ad.add (i.toNat * 1 + j)) = some u := hc0
 obtain ⟨A0, c0, rfl, l0, g0⟩ := hK
 exact ⟨ad, A0, c0, e, by have hq := hc 0 _ rfl; rwa [Nat.mul_one, Nat.add_zero] at hq, l0, g0⟩
def rd_L15 (xs : List (List (List S149))) (i : Int) : (List (List S149)) := xs.getD i.toNat ([] : List (List S149))
theorem at_L15 {w : World} {A : Option Addr} {n : Nat} {xs : List (List (List S149))} (h : Kd.C (Kd.slice 83 (Kd.slice 149 k149)) w A n xs) (i : Int) (h0 : 0 ≤ i) (h1 : i < n) : ∃ ad A0 c0, A = some ad ∧ w.cell? (ad.add i.toNat) = some (.slice A0 (rd_L15 xs i).length c0) ∧ (rd_L15 xs i).length ≤ c0 ∧ (Kd.slice 149 k149).C w A0 (rd_L15 xs i).length (rd_L15 xs i) := by
 obtain ⟨ad, c, e, _, hK, hc0⟩ := Kd.C_get h ([] : List (List S149)) i h0 h1
 have hc : ∀ j u, c[j]? = some u → w.cell? (ad.add (i.toNat * 1 + j)) = some u := hc0
 obtain ⟨A0, c0, rfl, l0, g0⟩ := hK
 exact ⟨ad, A0, c0, e, by have hq := hc 0 _ rfl; rwa [Nat.mul_one, Nat.add_zero] at hq, l0, g0⟩
structure S71 where
 f0 : Int
 f1 : Int
def z71 : S71 := ⟨(0 : Int), (0 : Int)⟩
def k71 : Kd S71 := Kd.iso (Kd.pair (Kd.int .u64) (Kd.int .u64)) (fun x : S71 => (x.f0, x.f1))
theorem k71_open {w : World} {x : S71} {cs : List Value} (h : k71.K w x cs) : cs = [.int .u64 x.f0, .int .u64 x.f1] := by
 obtain ⟨_, _, rfl, rfl, rfl⟩ := h
 exact rfl
theorem k71_openM {w : World} {base : Nat} {ok : Nat → Prop} {x : S71} {cs : List Value} (h : k71.M w base ok x cs) : cs = [.int .u64 x.f0, .int .u64 x.f1] := by
 obtain ⟨_, _, rfl, rfl, rfl⟩ := h
 exact rfl
theorem k71_mk (w : World) (x : S71)  : k71.K w x [.int .u64 x.f0, .int .u64 x.f1] := ⟨[.int .u64 x.f0], [.int .u64 x.f1], rfl, rfl, rfl⟩
theorem k71_mkM (w : World) (base : Nat) (ok : Nat → Prop) (x : S71)  : k71.M w base ok x [.int .u64 x.f0, .int .u64 x.f1] := ⟨[.int .u64 x.f0], [.int .u64 x.f1], rfl, rfl, rfl⟩
theorem k71_mkF (W : World) (ok : Nat → Prop) (x : S71) : Kd.FK k71 W ok x [.int .u64 x.f0, .int .u64 x.f1] := fun W2 _ => k71_mk W2 x
def rd_T71 (xs : List S71) (i : Int) : S71 := xs.getD i.toNat z71
theorem at_T71 {w : World} {A : Option Addr} {n : Nat} {xs : List S71} (h : Kd.C k71 w A n xs) (i : Int) (h0 : 0 ≤ i) (h1 : i < n) : ∃ ad , A = some ad ∧ w.cell? (ad.add (i.toNat * 2)) = some (.int .u64 (rd_T71 xs i).f0) ∧ w.cell? ⟨(ad.add (i.toNat * 2)).block, (ad.add (i.toNat * 2)).off + 1, none⟩ = some (.int .u64 (rd_T71 xs i).f1) := by
 obtain ⟨ad, c, e, _, hK, hc0⟩ := Kd.C_get h z71 i h0 h1
 have hc : ∀ j u, c[j]? = some u → w.cell? (ad.add (i.toNat * 2 + j)) = some u := hc0
 obtain rfl := k71_open hK
 exact ⟨ad, e, hc 0 _ rfl, by rw [← add_field _ _ 1 (by omega)]; exact hc 1 _ rfl⟩
structure S91 where
 f0 : Int
 f1 : Int
 f2 : Int
 f3 : S71
def z91 : S91 := ⟨(0 : Int), (0 : Int), (0 : Int), z71⟩
def k91 : Kd S91 := Kd.iso (Kd.pair (Kd.int .i64) (Kd.pair (Kd.int .i64) (Kd.pair (Kd.int .i64) k71))) (fun x : S91 => (x.f0, x.f1, x.f2, x.f3))
theorem k91_open {w : World} {x : S91} {cs : List Value} (h : k91.K w x cs) : cs = [.int .i64 x.f0, .int .i64 x.f1, .int .i64 x.f2, .int .u64 x.f3.f0, .int .u64 x.f3.f1] := by
 obtain ⟨_, _, rfl, rfl, ⟨_, _, rfl, rfl, ⟨_, _, rfl, rfl, s3⟩⟩⟩ := h
 obtain rfl := k71_open s3
 exact rfl
theorem k91_openM {w : World} {base : Nat} {ok : Nat → Prop} {x : S91} {cs : List Value} (h : k91.M w base ok x cs) : cs = [.int .i64 x.f0, .int .i64 x.f1, .int .i64 x.f2, .int .u64 x.f3.f0, .int .u64 x.f3.f1] := by
 obtain ⟨_, _, rfl, rfl, ⟨_, _, rfl, rfl, ⟨_, _, rfl, rfl, s3⟩⟩⟩ := h
 obtain rfl := k71_openM s3
 exact rfl
theorem k91_mk (w : World) (x : S91)  : k91.K w x [.int .i64 x.f0, .int .i64 x.f1, .int .i64 x.f2, .int .u64 x.f3.f0, .int .u64 x.f3.f1] := ⟨[.int .i64 x.f0], [.int .i64 x.f1, .int .i64 x.f2, .int .u64 x.f3.f0, .int .u64 x.f3.f1], rfl, rfl, ⟨[.int .i64 x.f1], [.int .i64 x.f2, .int .u64 x.f3.f0, .int .u64 x.f3.f1], rfl, rfl, ⟨[.int .i64 x.f2], [.int .u64 x.f3.f0, .int .u64 x.f3.f1], rfl, rfl, (k71_mk w x.f3 )⟩⟩⟩
theorem k91_mkM (w : World) (base : Nat) (ok : Nat → Prop) (x : S91)  : k91.M w base ok x [.int .i64 x.f0, .int .i64 x.f1, .int .i64 x.f2, .int .u64 x.f3.f0, .int .u64 x.f3.f1] := ⟨[.int .i64 x.f0], [.int .i64 x.f1, .int .i64 x.f2, .int .u64 x.f3.f0, .int .u64 x.f3.f1], rfl, rfl, ⟨[.int .i64 x.f1], [.int .i64 x.f2, .int .u64 x.f3.f0, .int .u64 x.f3.f1], rfl, rfl, ⟨[.int .i64 x.f2], [.int .u64 x.f3.f0, .int .u64 x.f3.f1], rfl, rfl, (k71_mkM w base ok x.f3 )⟩⟩⟩
theorem k91_mkF (W : World) (ok : Nat → Prop) (x : S91) : Kd.FK k91 W ok x [.int .i64 x.f0, .int .i64 x.f1, .int .i64 x.f2, .int .u64 x.f3.f0, .int .u64 x.f3.f1] := fun W2 _ => k91_mk W2 x
def rd_T91 (xs : List S91) (i : Int) : S91 := xs.getD i.toNat z91
theorem at_T91 {w : World} {A : Option Addr} {n : Nat} {xs : List S91} (h : Kd.C k91 w A n xs) (i : Int) (h0 : 0 ≤ i) (h1 : i < n) : ∃ ad , A = some ad ∧ w.cell? (ad.add (i.toNat * 5)) = some (.int .i64 (rd_T91 xs i).f0) ∧ w.cell? ⟨(ad.add (i.toNat * 5)).block, (ad.add (i.toNat * 5)).off + 1, none⟩ = some (.int .i64 (rd_T91 xs i).f1) ∧ w.cell? ⟨(ad.add (i.toNat * 5)).block, (ad.add (i.toNat * 5)).off + 2, none⟩ = some (.int .i64 (rd_T91 xs i).f2) ∧ w.cell? ⟨(ad.add (i.toNat * 5)).block, (ad.add (i.toNat * 5)).off + 3, none⟩ = some (.int .u64 (rd_T91 xs i).f3.f0) ∧ w.cell? ⟨(ad.add (i.toNat * 5)).block, (ad.add (i.toNat * 5)).off + 4, none⟩ = some (.int .u64 (rd_T91 xs i).f3.f1) := by
 obtain ⟨ad, c, e, _, hK, hc0⟩ := Kd.C_get h z91 i h0 h1
 have hc : ∀ j u, c[j]? = some u → w.cell? (ad.add (i.toNat * 5 + j)) = some u := hc0
 obtain rfl := k91_open hK
 exact ⟨ad, e, hc 0 _ rfl, by rw [← add_field _ _ 1 (by omega)]; exact hc 1 _ rfl, by rw [← add_field _ _ 2 (by omega)]; exact hc 2 _ rfl, by rw [← add_field _ _ 3 (by omega)]; exact hc 3 _ rfl, by rw [← add_field _ _ 4 (by omega)]; exact hc 4 _ rfl⟩
def rd_L18 (xs : List (List S91)) (i : Int) : (List S91) := xs.getD i.toNat ([] : List S91)
theorem at_L18 {w : World} {A : Option Addr} {n : Nat} {xs : List (List S91)} (h : Kd.C (Kd.slice 91 k91) w A n xs) (i : Int) (h0 : 0 ≤ i) (h1 : i < n) : ∃ ad A0 c0, A = some ad ∧ w.cell? (ad.add i.toNat) = some (.slice A0 (rd_L18 xs i).length c0) ∧ (rd_L18 xs i).length ≤ c0 ∧ k91.C w A0 (rd_L18 xs i).length (rd_L18 xs i) := by
 obtain ⟨ad, c, e, _, hK, hc0⟩ := Kd.C_get h ([] : List S91) i h0 h1
 have hc : ∀ j u, c[j]? = some u → w.cell? (ad.add (i.toNat * 1 + j)) = some u := hc0
 obtain ⟨A0, c0, rfl, l0, g0⟩ := hK
 exact ⟨ad, A0, c0, e, by have hq := hc 0 _ rfl; rwa [Nat.mul_one, Nat.add_zero] at hq, l0, g0⟩
def rd_L19 (xs : List (List S71)) (i : Int) : (List S71) := xs.getD i.toNat ([] : List S71)
theorem at_L19 {w : World} {A : Option Addr} {n : Nat} {xs : List (List S71)} (h : Kd.C (Kd.slice 71 k71) w A n xs) (i : Int) (h0 : 0 ≤ i) (h1 : i < n) : ∃ ad A0 c0, A = some ad ∧ w.cell? (ad.add i.toNat) = some (.slice A0 (rd_L19 xs i).length c0) ∧ (rd_L19 xs i).length ≤ c0 ∧ k71.C w A0 (rd_L19 xs i).length (rd_L19 xs i) := by
 obtain ⟨ad, c, e, _, hK, hc0⟩ := Kd.C_get h ([] : List S71) i h0 h1
 have hc : ∀ j u, c[j]? = some u → w.cell? (ad.add (i.toNat * 1 + j)) = some u := hc0
 obtain ⟨A0, c0, rfl, l0, g0⟩ := hK
 exact ⟨ad, A0, c0, e, by have hq := hc 0 _ rfl; rwa [Nat.mul_one, Nat.add_zero] at hq, l0, g0⟩
end Go.Proofs.Ytoaepfgfbfgcdaa.Q
namespace Go.Proofs.Ytoaepfgfbfgcdaa.Q
open Go.RowKit Go.Deep Go.ChangeShapes Go.Proofs.YtoaepfgfbfgcdaaW.PrintWords Go.Proofs.YtoaepfgfbfgcdaaW.PrintLast Go.Proofs.YtoaepfgfbfgcdaaW.PrintMore
set_option linter.unusedVariables false
set_option linter.unusedSimpArgs false
def Opens {α : Type} (P : Program) (t : TypeId) (d : Kd α) (Q : α → Prop) : Prop :=
 ∀ {H : Type} {enc : TypeId × Value → H} {w : World} {fuel : Nat} {cs : List Value} {x : DataW H × List MemPlace}, DataW.trod enc P w 0 (fun _ => true) true fuel t cs = some x → ∃ y, Q y ∧ d.K w y cs
def InK (k : IntKind) (n : Int) : Prop := (Lit.int k n).wf = true
theorem opens_int {P : Program} {t : TypeId} {k : IntKind} (ht : P.underlying t = some (.int k)) : Opens P t (Kd.int k) (InK k) := by
 intro H enc w fuel cs x h
 obtain ⟨n, rfl, _, hw⟩ := DataW.trod_int ht h
 exact ⟨n, hw, rfl⟩
theorem len1 {α : Type} {l : List α} (h : l.length = 1) : ∃ c0, l = [c0] := by
 match l, h with
 | [c0], _ => exact ⟨c0, rfl⟩
theorem len2 {α : Type} {l : List α} (h : l.length = 2) : ∃ c0 c1, l = [c0, c1] := by
 match l, h with
 | [c0, c1], _ => exact ⟨c0, c1, rfl⟩
theorem len3 {α : Type} {l : List α} (h : l.length = 3) : ∃ c0 c1 c2, l = [c0, c1, c2] := by
 match l, h with
 | [c0, c1, c2], _ => exact ⟨c0, c1, c2, rfl⟩
theorem len4 {α : Type} {l : List α} (h : l.length = 4) : ∃ c0 c1 c2 c3, l = [c0, c1, c2, c3] := by
 match l, h with
 | [c0, c1, c2, c3], _ => exact ⟨c0, c1, c2, c3, rfl⟩
theorem len5 {α : Type} {l : List α} (h : l.length = 5) : ∃ c0 c1 c2 c3 c4, l = [c0, c1, c2, c3, c4] := by
 match l, h with
 | [c0, c1, c2, c3, c4], _ => exact ⟨c0, c1, c2, c3, c4, rfl⟩
theorem len6 {α : Type} {l : List α} (h : l.length = 6) : ∃ c0 c1 c2 c3 c4 c5, l = [c0, c1, c2, c3, c4, c5] := by
 match l, h with
 | [c0, c1, c2, c3, c4, c5], _ => exact ⟨c0, c1, c2, c3, c4, c5, rfl⟩
theorem pick_list {α : Type} {p : Nat → α → Prop} : ∀ n, (∀ i, i < n → ∃ y, p i y) → ∃ l : List α, l.length = n ∧ ∀ j y, l[j]? = some y → p j y
 | 0, _ => ⟨[], rfl, by simp⟩
 | n + 1, h => by
  obtain ⟨l, hl, hp⟩ := pick_list n (fun i hi => h i (by omega))
  obtain ⟨y, hy⟩ := h n (by omega)
  refine ⟨l ++ [y], by simp [hl], fun j z hj => ?_⟩
  rcases Nat.lt_or_ge j l.length with hj' | hj'
  ·rw [List.getElem?_append_left hj'] at hj
   exact hp j z hj
  ·rw [List.getElem?_append_right hj'] at hj
   have h0 : j - l.length = 0 := by
    rcases Nat.eq_zero_or_pos (j - l.length) with h0 | h0
    ·exact h0
    ·rw [List.getElem?_eq_none h0] at hj
     cases hj
   rw [h0] at hj
   obtain rfl : y = z := by simpa using hj
   obtain rfl : j = n := by omega
   exact hy
def QL {α : Type} (Q : α → Prop) (l : List α) : Prop := l.length ≤ maxLen ∧ ∀ x ∈ l, Q x
theorem opens_slice {α : Type} {P : Program} {t e : TypeId} {d : Kd α} {Q : α → Prop} (ht : P.underlying t = some (.slice e)) (hs : P.cellsOf e = d.sz) (he : Opens P e d Q) : Opens P t (Kd.slice e d) (QL Q) := by
 intro H enc w fuel cs x h
 rcases open_slice ht h with ⟨rfl, _⟩ | ⟨a, len, cap, m, n, D, Pl, rfl, _, hl, hm, hmm, _, hel⟩
 ·exact ⟨[], ⟨Nat.zero_le _, by simp⟩, none, 0, rfl, Nat.le_refl _, rfl, by simp, fun h => absurd h (by simp)⟩
 ·have hlm : len ≤ m := by rw [hmm]; simpa using hl
  obtain ⟨l, hll, hp⟩ := pick_list (p := fun i y => Q y ∧ ∃ cs', w.cells? 0 (a.add (i * P.cellsOf e)) (P.cellsOf e) = some cs' ∧ d.K w y cs') len (fun i hi => by
   obtain ⟨cs', h1, h2⟩ := hel i (by omega)
   obtain ⟨y, hy, hk⟩ := he h2
   exact ⟨y, hy, cs', h1, hk⟩)
  subst hll
  refine ⟨l, ⟨by omega, fun x hx => ?_⟩, some a, cap, rfl, hl, rfl, Nat.le_trans hl (Nat.le_trans hm (by decide)), fun _ => ⟨a, rfl, fun j p hj => ?_⟩⟩
  ·obtain ⟨i, hi, rfl⟩ := List.getElem_of_mem hx
   exact (hp i _ (List.getElem?_eq_getElem hi)).1
  ·obtain ⟨_, cs', h1, h2⟩ := hp j p hj
   obtain ⟨_, hlen, hc⟩ := World.cells?_some h1
   refine ⟨cs', by rw [hlen, hs], h2, fun i u hu => ?_⟩
   have hi : i < P.cellsOf e := by rw [← hlen]; exact (List.getElem?_eq_some_iff.mp hu).1
   have hq := hc i hi
   rw [Go.Deep.add_add, hs, hu] at hq
   exact hq
theorem trod_fields {P : Program} {t : TypeId} {fs : Array Field} (ht : P.underlying t = some (.struct fs)) {H : Type} {enc : TypeId × Value → H} {w : World} {fuel : Nat} {cs : List Value} {x : DataW H × List MemPlace} (h : DataW.trod enc P w 0 (fun _ => true) true fuel t cs = some x) :
  cs.length = P.cellsOf t ∧ ∀ (i : Nat) (f : Field), fs.toList[i]? = some f → ∃ n y, DataW.trod enc P w 0 (fun _ => true) true n f.type ((cs.drop f.offset).take (P.cellsOf f.type)) = some y := by
 obtain ⟨xs, n, _, rfl, hl, hlen, hf⟩ := DataW.trod_struct ht h
 refine ⟨hl, fun i f hi => ?_⟩
 have hi' : i < xs.length := by
  have := (List.getElem?_eq_some_iff.mp hi).1
  simp at this hlen
  omega
 exact ⟨n, xs[i], by simpa [hi'] using hf i f (by simpa using hi)⟩
end Go.Proofs.Ytoaepfgfbfgcdaa.Q
namespace Go.Proofs.Ytoaepfgfbfgcdaa.Q
open Go.RowKit Go.Proofs.YtoaepfgfbfgcdaaW.PrintWords Go.Proofs.YtoaepfgfbfgcdaaW.PrintLast Go.Proofs.YtoaepfgfbfgcdaaW.PrintMore
set_option linter.unusedVariables false
set_option linter.unusedSimpArgs false
def Q28 (x : S28) : Prop := (InK .u64) x.f0 ∧ (InK .u64) x.f1
theorem opens28 : Opens Try.prog 28 k28 Q28 := by
 intro H enc w fuel cs x h
 obtain ⟨hl, hf⟩ := trod_fields Try.underlying28 h
 have e9 : Try.prog.cellsOf 28 = 2 := by kernel_rfl
 rw [e9] at hl
 obtain ⟨c0, c1, rfl⟩ : ∃ c0 c1, cs = [c0, c1] := len2 hl
 obtain ⟨n0, y0, h0⟩ := hf 0 _ rfl
 have g0 : DataW.trod enc Try.prog w 0 (fun _ => true) true n0 26 [c0] = some y0 := by
  have e_ : Try.prog.cellsOf 26 = 1 := by kernel_rfl
  rw [e_] at h0
  exact h0
 obtain ⟨x0, q0, r0⟩ := (opens_int Try.underlying26) g0
 obtain rfl := (List.cons.inj r0).1
 obtain ⟨n1, y1, h1⟩ := hf 1 _ rfl
 have g1 : DataW.trod enc Try.prog w 0 (fun _ => true) true n1 26 [c1] = some y1 := by
  have e_ : Try.prog.cellsOf 26 = 1 := by kernel_rfl
  rw [e_] at h1
  exact h1
 obtain ⟨x1, q1, r1⟩ := (opens_int Try.underlying26) g1
 obtain rfl := (List.cons.inj r1).1
 exact ⟨⟨x0, x1⟩, ⟨q0, q1⟩, k28_mk w ⟨x0, x1⟩⟩
def Q149 (x : S149) : Prop := (InK .i64) x.f0 ∧ (InK .i64) x.f1 ∧ (InK .i64) x.f2 ∧ Q28 x.f3
theorem opens149 : Opens Try.prog 149 k149 Q149 := by
 intro H enc w fuel cs x h
 obtain ⟨hl, hf⟩ := trod_fields Try.underlying149 h
 have e9 : Try.prog.cellsOf 149 = 5 := by kernel_rfl
 rw [e9] at hl
 obtain ⟨c0, c1, c2, c3, c4, rfl⟩ : ∃ c0 c1 c2 c3 c4, cs = [c0, c1, c2, c3, c4] := len5 hl
 obtain ⟨n0, y0, h0⟩ := hf 0 _ rfl
 have g0 : DataW.trod enc Try.prog w 0 (fun _ => true) true n0 3 [c0] = some y0 := by
  have e_ : Try.prog.cellsOf 3 = 1 := by kernel_rfl
  rw [e_] at h0
  exact h0
 obtain ⟨x0, q0, r0⟩ := (opens_int Try.underlying3) g0
 obtain rfl := (List.cons.inj r0).1
 obtain ⟨n1, y1, h1⟩ := hf 1 _ rfl
 have g1 : DataW.trod enc Try.prog w 0 (fun _ => true) true n1 3 [c1] = some y1 := by
  have e_ : Try.prog.cellsOf 3 = 1 := by kernel_rfl
  rw [e_] at h1
  exact h1
 obtain ⟨x1, q1, r1⟩ := (opens_int Try.underlying3) g1
 obtain rfl := (List.cons.inj r1).1
 obtain ⟨n2, y2, h2⟩ := hf 2 _ rfl
 have g2 : DataW.trod enc Try.prog w 0 (fun _ => true) true n2 3 [c2] = some y2 := by
  have e_ : Try.prog.cellsOf 3 = 1 := by kernel_rfl
  rw [e_] at h2
  exact h2
 obtain ⟨x2, q2, r2⟩ := (opens_int Try.underlying3) g2
 obtain rfl := (List.cons.inj r2).1
 obtain ⟨n3, y3, h3⟩ := hf 3 _ rfl
 have g3 : DataW.trod enc Try.prog w 0 (fun _ => true) true n3 28 [c3, c4] = some y3 := by
  have e_ : Try.prog.cellsOf 28 = 2 := by kernel_rfl
  rw [e_] at h3
  exact h3
 obtain ⟨x3, q3, r3⟩ := opens28 g3
 have e3 := k28_open r3
 simp only [List.cons.injEq, and_true] at e3
 obtain ⟨rfl, rfl⟩ := e3
 exact ⟨⟨x0, x1, x2, x3⟩, ⟨q0, q1, q2, q3⟩, k149_mk w ⟨x0, x1, x2, x3⟩⟩
theorem opens59 {H : Type} {enc : TypeId × Value → H} {w : World} {fuel : Nat} {cs : List Value} {x : DataW H × List MemPlace} (h : DataW.trod enc Try.prog w 0 (fun _ => true) true fuel 59 cs = some x) : ∃ (x0 : (List (List S149))) (x1 : (List (List S28))) (A0 : Option Addr) (d0 : Nat) (A1 : Option Addr) (d1 : Nat), (QL (QL Q149)) x0 ∧ (QL (QL Q28)) x1 ∧ cs = [.slice A0 x0.length d0, .slice A1 x1.length d1] ∧ x0.length ≤ d0 ∧ Kd.C (Kd.slice 149 k149) w A0 x0.length x0 ∧ x1.length ≤ d1 ∧ Kd.C (Kd.slice 28 k28) w A1 x1.length x1 := by
 obtain ⟨hl, hf⟩ := trod_fields Try.underlying59 h
 have e9 : Try.prog.cellsOf 59 = 2 := by kernel_rfl
 rw [e9] at hl
 obtain ⟨c0, c1, rfl⟩ : ∃ c0 c1, cs = [c0, c1] := len2 hl
 obtain ⟨n0, y0, h0⟩ := hf 0 _ rfl
 have g0 : DataW.trod enc Try.prog w 0 (fun _ => true) true n0 57 [c0] = some y0 := by
  have e_ : Try.prog.cellsOf 57 = 1 := by kernel_rfl
  rw [e_] at h0
  exact h0
 obtain ⟨x0, q0, r0⟩ := (opens_slice Try.underlying57 (by kernel_rfl) (opens_slice Try.underlying83 (by kernel_rfl) opens149)) g0
 obtain ⟨A0, d0, e0, l0, C0⟩ := r0
 obtain rfl := (List.cons.inj e0).1
 obtain ⟨n1, y1, h1⟩ := hf 1 _ rfl
 have g1 : DataW.trod enc Try.prog w 0 (fun _ => true) true n1 42 [c1] = some y1 := by
  have e_ : Try.prog.cellsOf 42 = 1 := by kernel_rfl
  rw [e_] at h1
  exact h1
 obtain ⟨x1, q1, r1⟩ := (opens_slice Try.underlying42 (by kernel_rfl) (opens_slice Try.underlying53 (by kernel_rfl) opens28)) g1
 obtain ⟨A1, d1, e1, l1, C1⟩ := r1
 obtain rfl := (List.cons.inj e1).1
 exact ⟨x0, x1, A0, d0, A1, d1, q0, q1, rfl, l0, C0, l1, C1⟩
theorem opens61 {H : Type} {enc : TypeId × Value → H} {w : World} {fuel : Nat} {cs : List Value} {x : DataW H × List MemPlace} (h : DataW.trod enc Try.prog w 0 (fun _ => true) true fuel 61 cs = some x) : ∃ (x0 : S28) (x1 : (List S28)) (x2 : S28) (A1 : Option Addr) (d1 : Nat), Q28 x0 ∧ (QL Q28) x1 ∧ Q28 x2 ∧ cs = [.int .u64 x0.f0, .int .u64 x0.f1, .slice A1 x1.length d1, .int .u64 x2.f0, .int .u64 x2.f1] ∧ x1.length ≤ d1 ∧ Kd.C k28 w A1 x1.length x1 := by
 obtain ⟨hl, hf⟩ := trod_fields Try.underlying61 h
 have e9 : Try.prog.cellsOf 61 = 5 := by kernel_rfl
 rw [e9] at hl
 obtain ⟨c0, c1, c2, c3, c4, rfl⟩ : ∃ c0 c1 c2 c3 c4, cs = [c0, c1, c2, c3, c4] := len5 hl
 obtain ⟨n0, y0, h0⟩ := hf 0 _ rfl
 have g0 : DataW.trod enc Try.prog w 0 (fun _ => true) true n0 28 [c0, c1] = some y0 := by
  have e_ : Try.prog.cellsOf 28 = 2 := by kernel_rfl
  rw [e_] at h0
  exact h0
 obtain ⟨x0, q0, r0⟩ := opens28 g0
 have e0 := k28_open r0
 simp only [List.cons.injEq, and_true] at e0
 obtain ⟨rfl, rfl⟩ := e0
 obtain ⟨n1, y1, h1⟩ := hf 1 _ rfl
 have g1 : DataW.trod enc Try.prog w 0 (fun _ => true) true n1 53 [c2] = some y1 := by
  have e_ : Try.prog.cellsOf 53 = 1 := by kernel_rfl
  rw [e_] at h1
  exact h1
 obtain ⟨x1, q1, r1⟩ := (opens_slice Try.underlying53 (by kernel_rfl) opens28) g1
 obtain ⟨A1, d1, e1, l1, C1⟩ := r1
 obtain rfl := (List.cons.inj e1).1
 obtain ⟨n2, y2, h2⟩ := hf 2 _ rfl
 have g2 : DataW.trod enc Try.prog w 0 (fun _ => true) true n2 28 [c3, c4] = some y2 := by
  have e_ : Try.prog.cellsOf 28 = 2 := by kernel_rfl
  rw [e_] at h2
  exact h2
 obtain ⟨x2, q2, r2⟩ := opens28 g2
 have e2 := k28_open r2
 simp only [List.cons.injEq, and_true] at e2
 obtain ⟨rfl, rfl⟩ := e2
 exact ⟨x0, x1, x2, A1, d1, q0, q1, q2, rfl, l1, C1⟩
end Go.Proofs.Ytoaepfgfbfgcdaa.Q
namespace Go.Proofs.Ytoaepfgfbfgcdaa.Q
open Go.RowKit Go.Proofs.YtoaepfgfbfgcdaaW.PrintWords Go.Proofs.YtoaepfgfbfgcdaaW.PrintLast Go.Proofs.YtoaepfgfbfgcdaaW.PrintMore
attribute [local go_sem] max2_int min2_int max_two min_two max_three min_three max_four min_four
set_option linter.unusedVariables false
set_option linter.unusedSimpArgs false
theorem eqA28 (d : Nat) (w : World) (x0 y0 : Int) (x1 y1 : Int) :
  (Op.equalIn (d + 2) 28 (.agg #[.int .u64 x0, .int .u64 x1]) (.agg #[.int .u64 y0, .int .u64 y1])).run Try.prog w = .ok (x0 == y0 && (x1 == y1)) w := by
 refine eqA_of Try.underlying28 (by kernel_rfl) ?_
 refine eqf_cons (by rfl) (by go_simp; rfl) (by go_simp; rfl) (by go_simp) ?_
 exact eqf_last (by rfl) (by go_simp; rfl) (by go_simp; rfl) (by go_simp)
def steeplelaw09_Few.l0 : Nat → List (List (S28)) → Int → Int → Option (Bool)
 | 0, _, _, _ => none
 | k + 1, x0, x2, x7 => if x7 < (x0.length : Int) then (if 0 ≤ x7 then (if ((rd_L11 x0 x7).length : Int) > x2 then (some false) else (steeplelaw09_Few.l0 k x0 x2 (wrap64 (x7 + 1)))) else (none)) else (some true)
def steeplelaw09_Few.f (k : Nat) (l0 : List (List (S28))) (a1 : Int) (a2 : Int) : Option (Bool) := if (l0.length : Int) > a1 then (some false) else (steeplelaw09_Few.l0 k l0 a2 0)
set_option maxHeartbeats 8000000 in
set_option maxRecDepth 100000 in
theorem steeplelaw09_Few.calls (k : Nat) (A0 : Option Addr) (c0 : Nat) (l0 : List (List (S28))) (a1 : Int) (a2 : Int) (r : Bool) (w : World) (hr0 : Kd.C (Kd.slice 28 k28) w A0 l0.length l0) (hc0 : l0.length ≤ c0) (h : steeplelaw09_Few.f k l0 a1 a2 = some r) :
  Calls Try.prog 38 #[.slice A0 l0.length c0, .int .i64 a1, .int .i64 a2] w fun e w' => e = .returned (.bool r) ∧ Drawn0 w w' := by
 have HR0 := Aside0.mk hr0
 have HC0 := Aside0.mk hc0
 clear hr0 hc0
 have H : (if (l0.length : Int) > a1 then (some false) else (steeplelaw09_Few.l0 k l0 a2 0)) = some r := h
 clear h
 by_cases c4 : (l0.length : Int) > a1
 ·rw [if_pos c4] at H
  have c4b0 : decide (a1 < (l0.length : Int)) = true := decide_eq_true c4
  clear c4
  obtain rfl := Option.some.inj H
  go_enter Try.func38, Try.ntmps38
  go_wp2
  go_ret
  exact ⟨by first | rfl | (simp; done) | (simp [*]; done), by repeat (first | exact Drawn0.refl _ | apply Drawn0.step)⟩
 ·rw [if_neg c4] at H
  have c4b0 : decide (a1 < (l0.length : Int)) = false := decide_eq_false c4
  clear c4
  have H' := Aside0.mk H
  clear H
  go_enter Try.func38, Try.ntmps38
  go_wp2
  go_loopg [7] k (fun kq v7 w' => ∃ (x7_1 : Int), v7 = .int .i64 x7_1 ∧ Aside0 (steeplelaw09_Few.l0 kq l0 a2 x7_1 = some r) ∧ Aside0 (kq ≤ k) ∧ Drawn0 w w')
  case atStart => exact ⟨(0), (by first | rfl | (simp; done) | (simp [*]; done)), H', ⟨Nat.le_refl _⟩, by repeat (first | exact Drawn0.refl _ | apply Drawn0.step)⟩
  case round =>
   clear H'
   try clear p2
   try clear c3
   try clear c4
   try clear c4b0
   obtain ⟨x7_1, rfl, HA, HK1, ⟨m1, rfl⟩⟩ := hrel
   cases gk with
   | zero => exact absurd HA.out (by simp [steeplelaw09_Few.l0])
   | succ k1 =>
    have H := HA.out
    clear HA
    simp only [steeplelaw09_Few.l0] at H
    by_cases c5 : x7_1 < (l0.length : Int)
    ·rw [if_pos c5] at H
     have c5b0 : decide (x7_1 < (l0.length : Int)) = true := decide_eq_true c5
     clear c5
     by_cases c6 : 0 ≤ x7_1
     ·rw [if_pos c6] at H
      have c6b0 : decide (0 ≤ x7_1) = true := decide_eq_true c6
      clear c6
      by_cases c7 : ((rd_L11 l0 x7_1).length : Int) > a2
      ·rw [if_pos c7] at H
       have c7b0 : decide (a2 < ((rd_L11 l0 x7_1).length : Int)) = true := decide_eq_true c7
       clear c7
       obtain rfl := Option.some.inj H
       have p306 : 0 ≤ (x7_1 : Int) := of_decide_eq_true (by first | (with_reducible assumption) | assumption)
       have q306 : x7_1 < (l0.length : Int) := of_decide_eq_true (by first | (with_reducible assumption) | assumption)
       obtain ⟨ad306, A306_0, c306_0, e306, hx306_0, hl306_0, hi306_0⟩ := at_L11 HR0.out x7_1 p306 q306
       cases e306
       have HR306_0 := Aside0.mk hi306_0
       have HC306_0 := Aside0.mk hl306_0
       clear hi306_0 hl306_0
       replace p306 := eq_true p306
       replace q306 := eq_true q306
       go_wp2
       go_ret
       exact ⟨by first | rfl | (simp; done) | (simp [*]; done), by repeat (first | exact Drawn0.refl _ | apply Drawn0.step)⟩
      ·rw [if_neg c7] at H
       have c7b0 : decide (a2 < ((rd_L11 l0 x7_1).length : Int)) = false := decide_eq_false c7
       clear c7
       have H' := Aside0.mk H
       clear H
       have p306 : 0 ≤ (x7_1 : Int) := of_decide_eq_true (by first | (with_reducible assumption) | assumption)
       have q306 : x7_1 < (l0.length : Int) := of_decide_eq_true (by first | (with_reducible assumption) | assumption)
       obtain ⟨ad306, A306_0, c306_0, e306, hx306_0, hl306_0, hi306_0⟩ := at_L11 HR0.out x7_1 p306 q306
       cases e306
       have HR306_0 := Aside0.mk hi306_0
       have HC306_0 := Aside0.mk hl306_0
       clear hi306_0 hl306_0
       replace p306 := eq_true p306
       replace q306 := eq_true q306
       go_wp2
       go_roundg k1
       case measure => have := HK1.out; omega
       case rel => exact ⟨(wrap64 (x7_1 + 1)), (by first | rfl | (simp; done) | (simp [*]; done)), H', ⟨by have := HK1.out; omega⟩, by repeat (first | exact Drawn0.refl _ | apply Drawn0.step)⟩
     ·rw [if_neg c6] at H
      exact absurd H (by simp)
    ·rw [if_neg c5] at H
     have c5b0 : decide (x7_1 < (l0.length : Int)) = false := decide_eq_false c5
     clear c5
     obtain rfl := Option.some.inj H
     go_wp2
     go_ret
     exact ⟨by first | rfl | (simp; done) | (simp [*]; done), by repeat (first | exact Drawn0.refl _ | apply Drawn0.step)⟩
mutual
def steeplelaw21_Few.j0 : Nat → Bool → List (List (S149)) → List (List (S28)) → Option (Bool)
 | 0, _, _, _ => none
 | k + 1, x13, x308000, x308001 => if x13 = true then (some false) else (steeplelaw21_Few.l0 k 0 x308000 x308001)
def steeplelaw21_Few.l0 : Nat → Int → List (List (S149)) → List (List (S28)) → Option (Bool)
 | 0, _, _, _ => none
 | k + 1, x3, x308000, x308001 => if x3 < (x308000.length : Int) then (if 0 ≤ x3 then (if ((rd_L13 x308000 x3).length : Int) > 12 then (some false) else (steeplelaw21_Few.l0 k (wrap64 (x3 + 1)) x308000 x308001)) else (none)) else (if (x308000.length : Int) ≤ 6 then (some true) else (some (decide ((x308000.length : Int) > 40))))
end
def steeplelaw21_Few.f (k : Nat) (l0_0 : List (List (S149))) (l0_1 : List (List (S28))) : Option (Bool) := if (l0_0.length : Int) > 50 then (steeplelaw21_Few.j0 k true l0_0 l0_1) else ((steeplelaw09_Few.f k l0_1 5 16).bind fun t308 => (steeplelaw21_Few.j0 k (!t308) l0_0 l0_1))
set_option maxHeartbeats 8000000 in
set_option maxRecDepth 100000 in
theorem steeplelaw21_Few.calls (k : Nat) (A0_0 : Option Addr) (c0_0 : Nat) (l0_0 : List (List (S149))) (A0_1 : Option Addr) (c0_1 : Nat) (l0_1 : List (List (S28))) (r : Bool) (w : World) (hr0_0 : Kd.C (Kd.slice 149 k149) w A0_0 l0_0.length l0_0) (hc0_0 : l0_0.length ≤ c0_0) (hr0_1 : Kd.C (Kd.slice 28 k28) w A0_1 l0_1.length l0_1) (hc0_1 : l0_1.length ≤ c0_1) (h : steeplelaw21_Few.f k l0_0 l0_1 = some r) :
  Calls Try.prog 28 #[.agg #[.slice A0_0 l0_0.length c0_0, .slice A0_1 l0_1.length c0_1]] w fun e w' => e = .returned (.bool r) ∧ Below w.heap.size w w' := by
 have hu59 := Try.underlying59
 have HR0_0 := Aside0.mk hr0_0
 have HC0_0 := Aside0.mk hc0_0
 clear hr0_0 hc0_0
 have HR0_1 := Aside0.mk hr0_1
 have HC0_1 := Aside0.mk hc0_1
 clear hr0_1 hc0_1
 have HB := Aside0.mk (Below.refl w.heap.size w)
 have H : (if (l0_0.length : Int) > 50 then (steeplelaw21_Few.j0 k true l0_0 l0_1) else ((steeplelaw09_Few.f k l0_1 5 16).bind fun t308 => (steeplelaw21_Few.j0 k (!t308) l0_0 l0_1))) = some r := h
 clear h
 have HC2 := Aside0.mk H
 clear H
 go_enter Try.func28, Try.ntmps28
 go_upto_region 1 with (first | ((with_reducible refine gate_dst (N := 1) rfl ?_); (try (refine gate_guard (by rfl) ?_; dsimp only)); refine box_event ?hg (N := 1) ?hd (cs := #[.slice A0_0 l0_0.length c0_0, .slice A0_1 l0_1.length c0_1]) (t := 59) ?hr ?_; (case hd => rfl); (case hg => rfl); (case hr => first | (go_simp; done) | (go_simp; rfl)); intro gb307 hg w3 hbox hb; have n0_ := Aside0.mk (below_step (by exact lF HB.out) hb); have n1_ := Aside0.mk (hbox); have n2_ := Aside0.mk ((by rw [hg]; exact (below_size (by exact lF HB.out)) : w.heap.size ≤ gb307)); have n3_ := Aside0.mk ((by rw [hg]; exact (below_size (by exact lF HB.out)) : w.heap.size ≤ gb307)); clear HB; have HB := n0_; have BK307 := n1_; have GW307 := n2_; have GE307 := n3_; clear n0_ n1_ n2_ n3_; clear hb hbox hg))
 (try simp only [Act.put, List.setIfInBounds_toArray, List.set_cons_zero, List.set_cons_succ])
 go_cut [13] (fun v13 wc => ∃ (kq : Nat) (x13_1 : Bool), v13 = .bool x13_1 ∧ Aside0 (steeplelaw21_Few.j0 kq x13_1 l0_0 l0_1 = some r) ∧ Aside0 (kq ≤ k) ∧ Aside0 (wc.heap[gb307]? = some (.cells #[(.slice A0_0 l0_0.length c0_0), (.slice A0_1 l0_1.length c0_1)] 59 (0, 0))) ∧ Aside0 (Below w.heap.size w wc))
 case first =>
  have H := HC2.out
  clear HC2
  by_cases c4 : (l0_0.length : Int) > 50
  ·rw [if_pos c4] at H
   have c4b0 : decide (50 < (l0_0.length : Int)) = true := decide_eq_true c4
   have c4b1 : decide (50 < l0_0.length) = true := decide_eq_true (by omega)
   clear c4
   (first | rw [c4b0] | (simp only [i64_w, i32_w]; rw [c4b0]) | skip)
   have H' := Aside0.mk H
   clear H
   have hcz5_0 : w3.cell? ⟨gb307, 0, none⟩ = some (.slice A0_0 l0_0.length c0_0) := (blk_cell BK307.out 0).trans rfl
   have hcz5_1 : w3.cell? ⟨gb307, 1, none⟩ = some (.slice A0_1 l0_1.length c0_1) := (blk_cell BK307.out 1).trans rfl
   have hfz5_0 := blk_frozen BK307.out 0
   have hfz5_1 := blk_frozen BK307.out 1
   go_wp2
   go_meet
   case rel => exact ⟨_, (true), (by first | rfl | (simp; done) | (simp [*]; done)), H', ⟨by first | omega | exact Nat.le_refl _⟩, ⟨by exact bF BK307.out⟩, ⟨by repeat (first | (with_reducible first | exact HB.out | apply bA | apply bN | apply bD | refine bS ?_ GE307.out) | exact HB.out)⟩⟩
  ·rw [if_neg c4] at H
   have c4b0 : decide (50 < (l0_0.length : Int)) = false := decide_eq_false c4
   have c4b1 : decide (50 < l0_0.length) = false := decide_eq_false (by omega)
   clear c4
   (first | rw [c4b0] | (simp only [i64_w, i32_w]; rw [c4b0]) | skip)
   replace H := Option.bind_eq_some_iff.mp H
   obtain ⟨t308, A60, H⟩ := H
   replace H : (steeplelaw21_Few.j0 k (!t308) l0_0 l0_1) = some r := H
   have A6 := Aside0.mk A60
   clear A60
   have H' := Aside0.mk H
   clear H
   have hcz7_0 : w3.cell? ⟨gb307, 0, none⟩ = some (.slice A0_0 l0_0.length c0_0) := (blk_cell BK307.out 0).trans rfl
   have hcz7_1 : w3.cell? ⟨gb307, 1, none⟩ = some (.slice A0_1 l0_1.length c0_1) := (blk_cell BK307.out 1).trans rfl
   have hfz7_0 := blk_frozen BK307.out 0
   have hfz7_1 := blk_frozen BK307.out 1
   go_wp2_with (first | (go_at_call 38; (with_reducible refine (steeplelaw09_Few.calls k _ _ l0_1 5 16 t308 _ ?side1 ?side2 A6.out).mono ?_); (case side1 => repeat (first | exact (Kd.C_below HR0_1.out HB.out) | (with_reducible refine Kd.C_alloc ?_ _) | (with_reducible refine Kd.C_drewN ?_ _) | (with_reducible refine Kd.C_drew ?_))); (case side2 => exact HC0_1.out); rintro e w' ⟨rfl, ⟨nd, rfl⟩⟩))
   go_meet
   case rel => exact ⟨_, (!t308), (by first | rfl | (simp; done) | (simp [*]; done)), H', ⟨by first | omega | exact Nat.le_refl _⟩, ⟨by exact bF BK307.out⟩, ⟨by repeat (first | (with_reducible first | exact HB.out | apply bA | apply bN | apply bD | refine bS ?_ GE307.out) | exact HB.out)⟩⟩
 case rest =>
  clear HC2
  try clear c2
  try clear p2
  try clear c4
  try clear c4b0
  try clear c4b1
  try clear hcz5_0
  try clear hcz5_1
  try clear hcz7_0
  try clear hcz7_1
  try clear hfz5_0
  try clear hfz5_1
  try clear hfz7_0
  try clear hfz7_1
  obtain ⟨kq, x13_1, rfl, HA, HJ1, BK307, HB⟩ := hcut
  cases kq with
  | zero => exact absurd HA.out (by simp [steeplelaw21_Few.j0])
  | succ kj1 =>
   have H := HA.out
   clear HA
   simp only [steeplelaw21_Few.j0] at H
   by_cases c8 : x13_1 = true
   ·subst c8
    have H1 : (some false) = some r := by rw [if_pos rfl] at H; exact H
    clear H
    have H := H1
    clear H1
    obtain rfl := Option.some.inj H
    go_wp2
    go_ret
    exact ⟨by first | rfl | (simp [errW_none, errW_some] <;> rfl) | (simp [*, errW_none, errW_some] <;> rfl), by repeat (first | (with_reducible first | exact HB.out | apply bA | apply bN | apply bD | refine bS ?_ GE307.out) | exact HB.out)⟩
   ·replace c8 := Bool.eq_false_iff.mpr c8
    subst c8
    have H1 : (steeplelaw21_Few.l0 kj1 0 l0_0 l0_1) = some r := by rw [if_neg (show ¬ (false = true) by decide)] at H; exact H
    clear H
    have H := H1
    clear H1
    have H' := Aside0.mk H
    clear H
    go_wp2
    go_loopg [3] kj1 (fun kq v3 w' => ∃ (x3_2 : Int), v3 = .int .i64 x3_2 ∧ Aside0 (steeplelaw21_Few.l0 kq x3_2 l0_0 l0_1 = some r) ∧ Aside0 (kq ≤ kj1) ∧ Aside0 (w'.heap[gb307]? = some (.cells #[(.slice A0_0 l0_0.length c0_0), (.slice A0_1 l0_1.length c0_1)] 59 (0, 0))) ∧ Aside0 (Below w.heap.size w w'))
    case atStart => exact ⟨(0), (by first | rfl | (simp; done) | (simp [*]; done)), H', ⟨Nat.le_refl _⟩, ⟨by exact bF BK307.out⟩, ⟨by repeat (first | (with_reducible first | exact HB.out | apply bA | apply bN | apply bD | refine bS ?_ GE307.out) | exact HB.out)⟩⟩
    case round =>
     clear H'
     try clear c2
     try clear p2
     try clear c4
     try clear c4b0
     try clear c4b1
     try clear c8
     try clear hcz5_0
     try clear hcz5_1
     try clear hcz7_0
     try clear hcz7_1
     try clear hfz5_0
     try clear hfz5_1
     try clear hfz7_0
     try clear hfz7_1
     try clear p2
     obtain ⟨x3_2, rfl, HA, HK2, BK307, HB⟩ := hrel
     cases gk with
     | zero => exact absurd HA.out (by simp [steeplelaw21_Few.l0])
     | succ k2 =>
      have H := HA.out
      clear HA
      simp only [steeplelaw21_Few.l0] at H
      by_cases c9 : x3_2 < (l0_0.length : Int)
      ·rw [if_pos c9] at H
       have c9b0 : decide (x3_2 < (l0_0.length : Int)) = true := decide_eq_true c9
       clear c9
       by_cases c10 : 0 ≤ x3_2
       ·rw [if_pos c10] at H
        have c10b0 : decide (0 ≤ x3_2) = true := decide_eq_true c10
        clear c10
        by_cases c11 : ((rd_L13 l0_0 x3_2).length : Int) > 12
        ·rw [if_pos c11] at H
         have c11b0 : decide (12 < ((rd_L13 l0_0 x3_2).length : Int)) = true := decide_eq_true c11
         have c11b1 : decide (12 < (rd_L13 l0_0 x3_2).length) = true := decide_eq_true (by omega)
         clear c11
         obtain rfl := Option.some.inj H
         have hcz12_0 : wr.cell? ⟨gb307, 0, none⟩ = some (.slice A0_0 l0_0.length c0_0) := (blk_cell BK307.out 0).trans rfl
         have hcz12_1 : wr.cell? ⟨gb307, 1, none⟩ = some (.slice A0_1 l0_1.length c0_1) := (blk_cell BK307.out 1).trans rfl
         have hfz12_0 := blk_frozen BK307.out 0
         have hfz12_1 := blk_frozen BK307.out 1
         have p309 : 0 ≤ (x3_2 : Int) := of_decide_eq_true (by first | (with_reducible assumption) | assumption)
         have q309 : x3_2 < (l0_0.length : Int) := of_decide_eq_true (by first | (with_reducible assumption) | assumption)
         obtain ⟨ad309, A309_0, c309_0, e309, hx309_0, hl309_0, hi309_0⟩ := at_L13 HR0_0.out x3_2 p309 q309
         cases e309
         replace hx309_0 := (HB.out.cell (World.block_lt_of_cell? w _ hx309_0)).trans hx309_0
         have HR309_0 := Aside0.mk hi309_0
         have HC309_0 := Aside0.mk hl309_0
         clear hi309_0 hl309_0
         replace p309 := eq_true p309
         replace q309 := eq_true q309
         go_wp2
         go_ret
         exact ⟨by first | rfl | (simp [errW_none, errW_some] <;> rfl) | (simp [*, errW_none, errW_some] <;> rfl), by repeat (first | (with_reducible first | exact HB.out | apply bA | apply bN | apply bD | refine bS ?_ GE307.out) | exact HB.out)⟩
        ·rw [if_neg c11] at H
         have c11b0 : decide (12 < ((rd_L13 l0_0 x3_2).length : Int)) = false := decide_eq_false c11
         have c11b1 : decide (12 < (rd_L13 l0_0 x3_2).length) = false := decide_eq_false (by omega)
         clear c11
         have H' := Aside0.mk H
         clear H
         have hcz13_0 : wr.cell? ⟨gb307, 0, none⟩ = some (.slice A0_0 l0_0.length c0_0) := (blk_cell BK307.out 0).trans rfl
         have hcz13_1 : wr.cell? ⟨gb307, 1, none⟩ = some (.slice A0_1 l0_1.length c0_1) := (blk_cell BK307.out 1).trans rfl
         have hfz13_0 := blk_frozen BK307.out 0
         have hfz13_1 := blk_frozen BK307.out 1
         have p309 : 0 ≤ (x3_2 : Int) := of_decide_eq_true (by first | (with_reducible assumption) | assumption)
         have q309 : x3_2 < (l0_0.length : Int) := of_decide_eq_true (by first | (with_reducible assumption) | assumption)
         obtain ⟨ad309, A309_0, c309_0, e309, hx309_0, hl309_0, hi309_0⟩ := at_L13 HR0_0.out x3_2 p309 q309
         cases e309
         replace hx309_0 := (HB.out.cell (World.block_lt_of_cell? w _ hx309_0)).trans hx309_0
         have HR309_0 := Aside0.mk hi309_0
         have HC309_0 := Aside0.mk hl309_0
         clear hi309_0 hl309_0
         replace p309 := eq_true p309
         replace q309 := eq_true q309
         go_wp2
         go_roundg k2
         case measure => have := HJ1.out; have := HK2.out; omega
         case rel => exact ⟨(wrap64 (x3_2 + 1)), (by first | rfl | (simp; done) | (simp [*]; done)), H', ⟨by have := HJ1.out; have := HK2.out; omega⟩, ⟨by exact bF BK307.out⟩, ⟨by repeat (first | (with_reducible first | exact HB.out | apply bA | apply bN | apply bD | refine bS ?_ GE307.out) | exact HB.out)⟩⟩
       ·rw [if_neg c10] at H
        exact absurd H (by simp)
      ·rw [if_neg c9] at H
       have c9b0 : decide (x3_2 < (l0_0.length : Int)) = false := decide_eq_false c9
       clear c9
       by_cases c14 : (l0_0.length : Int) ≤ 6
       ·rw [if_pos c14] at H
        have c14b0 : decide ((l0_0.length : Int) ≤ 6) = true := decide_eq_true c14
        have c14b1 : decide (l0_0.length ≤ 6) = true := decide_eq_true (by omega)
        clear c14
        obtain rfl := Option.some.inj H
        have hcz15_0 : wr.cell? ⟨gb307, 0, none⟩ = some (.slice A0_0 l0_0.length c0_0) := (blk_cell BK307.out 0).trans rfl
        have hcz15_1 : wr.cell? ⟨gb307, 1, none⟩ = some (.slice A0_1 l0_1.length c0_1) := (blk_cell BK307.out 1).trans rfl
        have hfz15_0 := blk_frozen BK307.out 0
        have hfz15_1 := blk_frozen BK307.out 1
        go_wp2
        go_ret
        exact ⟨by first | rfl | (simp [errW_none, errW_some] <;> rfl) | (simp [*, errW_none, errW_some] <;> rfl), by repeat (first | (with_reducible first | exact HB.out | apply bA | apply bN | apply bD | refine bS ?_ GE307.out) | exact HB.out)⟩
       ·rw [if_neg c14] at H
        have c14b0 : decide ((l0_0.length : Int) ≤ 6) = false := decide_eq_false c14
        have c14b1 : decide (l0_0.length ≤ 6) = false := decide_eq_false (by omega)
        clear c14
        obtain rfl := Option.some.inj H
        have hcz16_0 : wr.cell? ⟨gb307, 0, none⟩ = some (.slice A0_0 l0_0.length c0_0) := (blk_cell BK307.out 0).trans rfl
        have hcz16_1 : wr.cell? ⟨gb307, 1, none⟩ = some (.slice A0_1 l0_1.length c0_1) := (blk_cell BK307.out 1).trans rfl
        have hfz16_0 := blk_frozen BK307.out 0
        have hfz16_1 := blk_frozen BK307.out 1
        go_wp2
        go_ret
        exact ⟨by first | rfl | (simp [errW_none, errW_some] <;> rfl) | (simp [*, errW_none, errW_some] <;> rfl), by repeat (first | (with_reducible first | exact HB.out | apply bA | apply bN | apply bD | refine bS ?_ GE307.out) | exact HB.out)⟩
def idxP {α : Type} (p : α → Bool) : List α → Int → Int
 | [], _ => -1
 | x :: r, i => if p x = true then i else idxP p r (i + 1)
theorem idxP_any {α : Type} (p : α → Bool) : ∀ (l : List α) (i : Int), 0 ≤ i → decide (0 ≤ idxP p l i) = l.any p
 | [], i, h => by simp [idxP]
 | x :: r, i, h => by
  unfold idxP
  by_cases hx : p x = true
  ·simp [hx, h]
  ·rw [if_neg hx, idxP_any p r (i + 1) (by omega)]
   simp [hx]
theorem idxP_at {α : Type} (p : α → Bool) (z : α) (l : List α) (x : Int) (h0 : 0 ≤ x) (h1 : x < (l.length : Int)) : idxP p (l.drop x.toNat) x = if p (l.getD x.toNat z) = true then x else idxP p (l.drop (x + 1).toNat) (x + 1) := by
 have hl : x.toNat < l.length := by omega
 rw [List.drop_eq_getElem_cons hl, show (x + 1).toNat = x.toNat + 1 by omega]
 rw [List.getD_eq_getElem?_getD, List.getElem?_eq_getElem hl]
 rfl
theorem idxP_end {α : Type} (p : α → Bool) (l : List α) (x : Int) (h1 : ¬ x < (l.length : Int)) : idxP p (l.drop x.toNat) x = -1 := by
 rw [List.drop_eq_nil_of_le (by omega)]; rfl
theorem any_at {α : Type} (p : α → Bool) (z : α) (l : List α) (x : Int) (h0 : 0 ≤ x) (h1 : x < (l.length : Int)) : (l.drop x.toNat).any p = (p (l.getD x.toNat z) || (l.drop (x + 1).toNat).any p) := by
 have hl : x.toNat < l.length := by omega
 rw [List.drop_eq_getElem_cons hl, show (x + 1).toNat = x.toNat + 1 by omega]
 rw [List.getD_eq_getElem?_getD, List.getElem?_eq_getElem hl]
 rfl
theorem any_end {α : Type} (p : α → Bool) (l : List α) (x : Int) (h1 : ¬ x < (l.length : Int)) : (l.drop x.toNat).any p = false := by
 rw [List.drop_eq_nil_of_le (by omega)]; rfl
def rdR {α : Type} (l : List (List α)) (i : Int) : List α := l.getD i.toNat []
theorem at_rows {α : Type} {d : Kd α} {e : Nat} {w : World} {A : Option Addr} {n : Nat} {xs : List (List α)} (h : Kd.C (Kd.slice e d) w A n xs) (i : Int) (h0 : 0 ≤ i) (h1 : i < n) : ∃ ad A0 c0, A = some ad ∧ w.cell? (ad.add i.toNat) = some (.slice A0 (rdR xs i).length c0) ∧ (rdR xs i).length ≤ c0 ∧ d.C w A0 (rdR xs i).length (rdR xs i) := by
 obtain ⟨ad, c, e, _, hK, hc0⟩ := Kd.C_get h ([] : List α) i h0 h1
 have hc : ∀ j u, c[j]? = some u → w.cell? (ad.add (i.toNat * 1 + j)) = some u := hc0
 obtain ⟨A0, c0, rfl, l0, g0⟩ := hK
 exact ⟨ad, A0, c0, e, by have hq := hc 0 _ rfl; rwa [Nat.mul_one, Nat.add_zero] at hq, l0, g0⟩
def ofB (level hi lo : Int) : Bool :=
 if level = 0 then hi == 0 && lo / 2 == 0 else if level = 1 then hi == 0 && lo / 4 == 0 else if level = 2 then hi == 0 && lo / 16 == 0 else
 if level = 3 then hi == 0 && lo / 256 == 0 else if level = 4 then hi == 0 && lo / 65536 == 0 else if level = 5 then hi == 0 && lo / 4294967296 == 0 else
 if level = 6 then hi == 0 else if level = 7 then true else false
def octet_Of.f (a0 : Int) (a1_0 : Int) (a1_1 : Int) : Option (Bool) := some (ofB a0 a1_0 a1_1)
set_option maxHeartbeats 8000000 in
set_option maxRecDepth 100000 in
theorem octet_Of.calls (a0 : Int) (a1_0 : Int) (a1_1 : Int) (r : Bool) (w : World) (h : octet_Of.f a0 a1_0 a1_1 = some r) :
  Calls Try.prog 81 #[.int .i64 a0, .agg #[.int .u64 a1_0, .int .u64 a1_1]] w fun e w' => e = .returned (.bool r) ∧ Below w.heap.size w w' := by
 obtain rfl := Option.some.inj h
 clear h
 have hu28 := Try.underlying28
 have hcase : a0 < 0 ∨ 7 < a0 ∨ a0 = 0 ∨ a0 = 1 ∨ a0 = 2 ∨ a0 = 3 ∨ a0 = 4 ∨ a0 = 5 ∨ a0 = 6 ∨ a0 = 7 := by omega
 rcases hcase with h | h | rfl | rfl | rfl | rfl | rfl | rfl | rfl | rfl
 ·have e : ofB a0 a1_0 a1_1 = false := by unfold ofB; repeat rw [if_neg (by omega)]
  rw [e]
  clear e
  go_enter Try.func81, Try.ntmps81
  go_wp2
  go_ret
  exact ⟨rfl, (Below.refl _ _).alloc (Nat.le_refl _) _⟩
 ·have e : ofB a0 a1_0 a1_1 = false := by unfold ofB; repeat rw [if_neg (by omega)]
  rw [e]
  clear e
  go_enter Try.func81, Try.ntmps81
  go_wp2
  go_ret
  exact ⟨rfl, (Below.refl _ _).alloc (Nat.le_refl _) _⟩
 rotate_right 2
 ·go_enter Try.func81, Try.ntmps81
  go_wp2
  go_ret
  exact ⟨rfl, (Below.refl _ _).alloc (Nat.le_refl _) _⟩
 ·go_enter Try.func81, Try.ntmps81
  go_wp2
  go_ret
  exact ⟨rfl, (Below.refl _ _).alloc (Nat.le_refl _) _⟩
 all_goals
  by_cases hz : a1_0 = 0
  ·subst hz
   go_enter Try.func81, Try.ntmps81
   go_wp2
   go_quiet (fail)
   go_wp2
   go_ret
   exact ⟨rfl, pw_below_drewN ((Below.refl _ _).alloc (Nat.le_refl _) _) _⟩
  ·have hb : (a1_0 == 0) = false := beq_eq_false_iff_ne.mpr hz
   go_enter Try.func81, Try.ntmps81
   go_wp2
   go_quiet (fail)
   go_wp2
   go_ret
   exact ⟨by simp [ofB, hb], pw_below_drewN ((Below.refl _ _).alloc (Nat.le_refl _) _) _⟩
def tower_Add.f (a0_0 : Int) (a0_1 : Int) (a1_0 : Int) (a1_1 : Int) : Option (Int × Int) := some (Go.bits .xor .u64 a0_0 a1_0, Go.bits .xor .u64 a0_1 a1_1)
set_option maxHeartbeats 8000000 in
set_option maxRecDepth 100000 in
theorem tower_Add.calls (a0_0 : Int) (a0_1 : Int) (a1_0 : Int) (a1_1 : Int) (r1 : Int) (r2 : Int) (w : World) (h : tower_Add.f a0_0 a0_1 a1_0 a1_1 = some (r1, r2)) :
  Calls Try.prog 60 #[.agg #[.int .u64 a0_0, .int .u64 a0_1], .agg #[.int .u64 a1_0, .int .u64 a1_1]] w fun e w' => e = .returned (.agg #[.int .u64 r1, .int .u64 r2]) ∧ Below w.heap.size w w' := by
 have hu28 := Try.underlying28
 have HB := Aside0.mk (Below.refl w.heap.size w)
 have H : (some (Go.bits .xor .u64 a0_0 a1_0, Go.bits .xor .u64 a0_1 a1_1)) = some (r1, r2) := h
 clear h
 simp only [Option.some.injEq, Prod.mk.injEq] at H
 obtain ⟨rfl, rfl⟩ := H
 go_enter Try.func60, Try.ntmps60
 go_wp2_with (first | ((with_reducible refine gate_dst (N := 2) rfl ?_); refine box_event ?hg (N := 2) ?hd (cs := #[.int .u64 a0_0, .int .u64 a0_1]) (t := 28) ?hr ?_; (case hd => rfl); (case hg => rfl); (case hr => first | (go_simp; done) | (go_simp; rfl)); intro gb310 hg w3 hbox hb; have n0_ := Aside0.mk (below_step (by exact lF HB.out) hb); have n1_ := Aside0.mk (hbox); have n2_ := Aside0.mk ((by rw [hg]; exact (below_size (by exact lF HB.out)) : w.heap.size ≤ gb310)); have n3_ := Aside0.mk ((by rw [hg]; exact (below_size (by exact lF HB.out)) : w.heap.size ≤ gb310)); clear HB; have HB := n0_; have BK310 := n1_; have GW310 := n2_; have GE310 := n3_; clear n0_ n1_ n2_ n3_; clear hb hbox hg) | ((with_reducible refine gate_dst (N := 3) rfl ?_); refine box_event ?hg (N := 3) ?hd (cs := #[.int .u64 a1_0, .int .u64 a1_1]) (t := 28) ?hr ?_; (case hd => rfl); (case hg => rfl); (case hr => first | (go_simp; done) | (go_simp; rfl)); intro gb311 hg w4 hbox hb; have n0_ := Aside0.mk (blk_below (g := gb310) (o := .cells #[.int .u64 a0_0, .int .u64 a0_1] 28 (0, 0)) (by exact bF BK310.out) hb); have n1_ := Aside0.mk (below_step (by repeat (first | (with_reducible first | exact HB.out | apply bA | apply bN | apply bD | refine bS ?_ GE310.out) | exact HB.out)) hb); have n2_ := Aside0.mk (hbox); have n3_ := Aside0.mk ((by rw [hg]; exact (below_size (by repeat (first | (with_reducible first | exact HB.out | apply bA | apply bN | apply bD | refine bS ?_ GE310.out) | exact HB.out))) : w.heap.size ≤ gb311)); have n4_ := Aside0.mk ((by rw [hg]; exact (below_size (by repeat (first | (with_reducible first | exact HB.out | apply bA | apply bN | apply bD | refine bS ?_ GE310.out) | exact HB.out))) : w.heap.size ≤ gb311)); have n5_ := Aside0.mk ((by rw [hg]; exact Nat.ne_of_lt (blk_lt (g := gb310) (o := .cells #[.int .u64 a0_0, .int .u64 a0_1] 28 (0, 0)) (by exact bF BK310.out)) : gb310 ≠ gb311)); have n6_ := Aside0.mk ((by rw [hg]; exact Nat.ne_of_gt (blk_lt (g := gb310) (o := .cells #[.int .u64 a0_0, .int .u64 a0_1] 28 (0, 0)) (by exact bF BK310.out)) : gb311 ≠ gb310)); clear BK310; clear HB; have BK310 := n0_; have HB := n1_; have BK311 := n2_; have GW311 := n3_; have GE311 := n4_; have NB310_311 := n5_; have NB311_310 := n6_; clear n0_ n1_ n2_ n3_ n4_ n5_ n6_; clear hb hbox hg) | ((with_reducible refine gate_dst (N := 4) rfl ?_); refine box_event ?hg (N := 4) ?hd (cs := #[.int .u64 0, .int .u64 0]) (t := 28) ?hr ?_; (case hd => rfl); (case hg => rfl); (case hr => first | (go_simp; done) | (go_simp; rfl)); intro gb312 hg w5 hbox hb; have n0_ := Aside0.mk (blk_below (g := gb310) (o := .cells #[.int .u64 a0_0, .int .u64 a0_1] 28 (0, 0)) (by exact bF BK310.out) hb); have n1_ := Aside0.mk (blk_below (g := gb311) (o := .cells #[.int .u64 a1_0, .int .u64 a1_1] 28 (0, 0)) (by exact bF BK311.out) hb); have n2_ := Aside0.mk (below_step (by repeat (first | (with_reducible first | exact HB.out | apply bA | apply bN | apply bD | refine bS ?_ GE310.out | refine bS ?_ GE311.out) | exact HB.out)) hb); have n3_ := Aside0.mk (hbox); have n4_ := Aside0.mk ((by rw [hg]; exact (below_size (by repeat (first | (with_reducible first | exact HB.out | apply bA | apply bN | apply bD | refine bS ?_ GE310.out | refine bS ?_ GE311.out) | exact HB.out))) : w.heap.size ≤ gb312)); have n5_ := Aside0.mk ((by rw [hg]; exact (below_size (by repeat (first | (with_reducible first | exact HB.out | apply bA | apply bN | apply bD | refine bS ?_ GE310.out | refine bS ?_ GE311.out) | exact HB.out))) : w.heap.size ≤ gb312)); have n6_ := Aside0.mk ((by rw [hg]; exact Nat.ne_of_lt (blk_lt (g := gb310) (o := .cells #[.int .u64 a0_0, .int .u64 a0_1] 28 (0, 0)) (by exact bF BK310.out)) : gb310 ≠ gb312)); have n7_ := Aside0.mk ((by rw [hg]; exact Nat.ne_of_gt (blk_lt (g := gb310) (o := .cells #[.int .u64 a0_0, .int .u64 a0_1] 28 (0, 0)) (by exact bF BK310.out)) : gb312 ≠ gb310)); have n8_ := Aside0.mk ((by rw [hg]; exact Nat.ne_of_lt (blk_lt (g := gb311) (o := .cells #[.int .u64 a1_0, .int .u64 a1_1] 28 (0, 0)) (by exact bF BK311.out)) : gb311 ≠ gb312)); have n9_ := Aside0.mk ((by rw [hg]; exact Nat.ne_of_gt (blk_lt (g := gb311) (o := .cells #[.int .u64 a1_0, .int .u64 a1_1] 28 (0, 0)) (by exact bF BK311.out)) : gb312 ≠ gb311)); clear BK310; clear BK311; clear HB; have BK310 := n0_; have BK311 := n1_; have HB := n2_; have BK312 := n3_; have GW312 := n4_; have GE312 := n5_; have NB310_312 := n6_; have NB312_310 := n7_; have NB311_312 := n8_; have NB312_311 := n9_; clear n0_ n1_ n2_ n3_ n4_ n5_ n6_ n7_ n8_ n9_; clear hb hbox hg; have hnb6 := NB310_311.out; have hnc6 := NB311_310.out; have hnb7 := NB310_312.out; have hnc7 := NB312_310.out; have hcz8_0 : w5.cell? ⟨gb310, 0, none⟩ = some (.int .u64 a0_0) := (blk_cell BK310.out 0).trans rfl; have hcz8_1 : w5.cell? ⟨gb310, 1, none⟩ = some (.int .u64 a0_1) := (blk_cell BK310.out 1).trans rfl; have hfz8_0 := blk_frozen BK310.out 0; have hfz8_1 := blk_frozen BK310.out 1; have hnb9 := NB311_312.out; have hnc9 := NB312_311.out; have hcz10_0 : w5.cell? ⟨gb311, 0, none⟩ = some (.int .u64 a1_0) := (blk_cell BK311.out 0).trans rfl; have hcz10_1 : w5.cell? ⟨gb311, 1, none⟩ = some (.int .u64 a1_1) := (blk_cell BK311.out 1).trans rfl; have hfz10_0 := blk_frozen BK311.out 0; have hfz10_1 := blk_frozen BK311.out 1; have hcz11_0 : w5.cell? ⟨gb312, 0, none⟩ = some (.int .u64 0) := (blk_cell BK312.out 0).trans rfl; have hcz11_1 : w5.cell? ⟨gb312, 1, none⟩ = some (.int .u64 0) := (blk_cell BK312.out 1).trans rfl; have hfz11_0 := blk_frozen BK312.out 0; have hfz11_1 := blk_frozen BK312.out 1))
 refine bodyPost_ret (results_cell_row rfl _ _ gb312 28 #[.int .u64 (Go.bits .xor .u64 a0_0 a1_0), .int .u64 (Go.bits .xor .u64 a0_1 a1_1)] (0, 0) _ rfl (by (with_reducible repeat (first | refine blk_drewN ?_ _ | refine blk_drew ?_ | refine blk_alloc ?_ _)); refine blk_put (cs := #[.int .u64 (Go.bits .xor .u64 a0_0 a1_0), .int .u64 0]) ?_ 1 _ rfl; (with_reducible repeat (first | refine blk_drewN ?_ _ | refine blk_drew ?_ | refine blk_alloc ?_ _)); refine blk_put (cs := #[.int .u64 0, .int .u64 0]) ?_ 0 _ rfl; exact bF BK312.out) Try.underlying28 rfl (by kernel_rfl)) rfl ?_
 exact ⟨by first | rfl | (simp [errW_none, errW_some] <;> rfl) | (simp [*, errW_none, errW_some] <;> rfl), by repeat (first | (with_reducible first | exact HB.out | apply bA | apply bN | apply bD | refine bS ?_ GE310.out | refine bS ?_ GE311.out | refine bS ?_ GE312.out) | exact HB.out)⟩
def octet_Wide.j0 : Nat → Int → Bool → Option (Int)
 | 0, _, _ => none
 | k + 1, x0, x3 => if x3 = true then (some 0) else (if x0 ≤ 3 then (some 1) else (if 0 ≤ (wrap64 (x0 - 3)) then (some (shl .i64 1 (wrap64 (x0 - 3)))) else (none)))
def octet_Wide.f (k : Nat) (a0 : Int) : Option (Int) := if a0 < 0 then (octet_Wide.j0 k a0 true) else (octet_Wide.j0 k a0 (decide (a0 > 7)))
set_option maxHeartbeats 8000000 in
set_option maxRecDepth 100000 in
theorem octet_Wide.calls (k : Nat) (a0 : Int) (r : Int) (w : World) (h : octet_Wide.f k a0 = some r) :
  Calls Try.prog 113 #[.int .i64 a0] w fun e w' => e = .returned (.int .i64 r) ∧ Drawn0 w w' := by
 have H : (if a0 < 0 then (octet_Wide.j0 k a0 true) else (octet_Wide.j0 k a0 (decide (a0 > 7)))) = some r := h
 clear h
 have HC2 := Aside0.mk H
 clear H
 go_enter Try.func113, Try.ntmps113
 go_upto_region 1 with (fail)
 go_cut [3] (fun v3 wc => ∃ (kq : Nat) (x3_1 : Bool), v3 = .bool x3_1 ∧ Aside0 (octet_Wide.j0 kq a0 x3_1 = some r) ∧ Aside0 (kq ≤ k) ∧ Drawn0 w wc)
 case first =>
  have H := HC2.out
  clear HC2
  by_cases c3 : a0 < 0
  ·rw [if_pos c3] at H
   have c3b0 : decide (a0 < 0) = true := decide_eq_true c3
   clear c3
   (first | rw [c3b0] | (simp only [i64_w, i32_w]; rw [c3b0]) | skip)
   have H' := Aside0.mk H
   clear H
   go_wp2
   go_meet
   case rel => exact ⟨_, (true), (by first | rfl | (simp; done) | (simp [*]; done)), H', ⟨by first | omega | exact Nat.le_refl _⟩, by repeat (first | exact Drawn0.refl _ | apply Drawn0.step)⟩
  ·rw [if_neg c3] at H
   have c3b0 : decide (a0 < 0) = false := decide_eq_false c3
   clear c3
   (first | rw [c3b0] | (simp only [i64_w, i32_w]; rw [c3b0]) | skip)
   have H' := Aside0.mk H
   clear H
   go_wp2
   go_meet
   case rel => exact ⟨_, (decide (a0 > 7)), (by first | rfl | (simp; done) | (simp [*]; done)), H', ⟨by first | omega | exact Nat.le_refl _⟩, by repeat (first | exact Drawn0.refl _ | apply Drawn0.step)⟩
 case rest =>
  clear HC2
  try clear c1
  try clear p2
  try clear c3
  try clear c3b0
  obtain ⟨kq, x3_1, rfl, HA, HJ1, ⟨mc1, rfl⟩⟩ := hcut
  cases kq with
  | zero => exact absurd HA.out (by simp [octet_Wide.j0])
  | succ kj1 =>
   have H := HA.out
   clear HA
   simp only [octet_Wide.j0] at H
   by_cases c4 : x3_1 = true
   ·subst c4
    have H1 : (some 0) = some r := by rw [if_pos rfl] at H; exact H
    clear H
    have H := H1
    clear H1
    obtain rfl := Option.some.inj H
    go_wp2
    go_ret
    exact ⟨by first | rfl | (simp; done) | (simp [*]; done), by repeat (first | exact Drawn0.refl _ | apply Drawn0.step)⟩
   ·replace c4 := Bool.eq_false_iff.mpr c4
    subst c4
    have H1 : (if a0 ≤ 3 then (some 1) else (if 0 ≤ (wrap64 (a0 - 3)) then (some (shl .i64 1 (wrap64 (a0 - 3)))) else (none))) = some r := by rw [if_neg (show ¬ (false = true) by decide)] at H; exact H
    clear H
    have H := H1
    clear H1
    by_cases c5 : a0 ≤ 3
    ·rw [if_pos c5] at H
     have c5b0 : decide (a0 ≤ 3) = true := decide_eq_true c5
     clear c5
     obtain rfl := Option.some.inj H
     go_wp2
     go_ret
     exact ⟨by first | rfl | (simp; done) | (simp [*]; done), by repeat (first | exact Drawn0.refl _ | apply Drawn0.step)⟩
    ·rw [if_neg c5] at H
     have c5b0 : decide (a0 ≤ 3) = false := decide_eq_false c5
     clear c5
     obtain ⟨ji6, hji6⟩ : ∃ j_ : Int, (wrap64 (a0 - 3)) = j_ := ⟨_, rfl⟩
     replace H : (if 0 ≤ (ji6) then (some (shl .i64 1 (ji6))) else (none)) = some r := by first | (rw [hji6] at H; exact H) | (simp only [hji6] at H ⊢; exact H)
     have hji6w : (IntKind.i64.wrap (a0 - 3)) = ji6 := (i64_w _).trans hji6
     by_cases c7 : 0 ≤ (ji6)
     ·rw [if_pos c7] at H
      have c7b0 := eq_true c7
      have c7b1 : decide (0 ≤ (ji6)) = true := decide_eq_true c7
      clear c7
      obtain ⟨ji8, hji8⟩ : ∃ j_ : Int, (shl .i64 1 (ji6)) = j_ := ⟨_, rfl⟩
      replace H : (some ji8) = some r := by first | (rw [hji8] at H; exact H) | (simp only [hji8] at H ⊢; exact H)
      have hji8_ : (IntKind.i64.wrap (1 * 2 ^ min (ji6).toNat 64)) = ji8 := hji8
      have hji8z : (ji6) ≤ 64 → (IntKind.i64.wrap (1 * 2 ^ (ji6).toNat)) = ji8 := shl_small hji8
      have hji8u : (IntKind.i64.wrap (2 ^ min (ji6).toNat 64)) = ji8 := by have h_ := hji8_; rw [Int.one_mul] at h_; exact h_
      have hji8v : (ji6) ≤ 64 → (IntKind.i64.wrap (2 ^ (ji6).toNat)) = ji8 := fun hle_ => by have h_ := hji8z hle_; rw [Int.one_mul] at h_; exact h_
      have hji8y : (wrap64 (1 * 2 ^ min (ji6).toNat 64)) = ji8 := (i64_w _).symm.trans hji8_
      have hji8x : (ji6) ≤ 64 → (wrap64 (1 * 2 ^ (ji6).toNat)) = ji8 := fun h_ => (i64_w _).symm.trans (hji8z h_)
      obtain rfl := Option.some.inj H
      go_wp2
      go_ret
      exact ⟨by first | rfl | (simp; done) | (simp only [← hji6, ← hji8] <;> (first | rfl | simp)) | (simp [*]; done), by repeat (first | exact Drawn0.refl _ | apply Drawn0.step)⟩
     ·rw [if_neg c7] at H
      exact absurd H (by simp)
def expr_ahead.f (a0_0 : Int) (a0_1 : Int) (a0_2 : Int) (a0_3 : Int) (a0_4 : Int) (a1 : Int) : Option (Bool) := if a0_1 ≥ 0 then (if a0_1 < a1 then (if a0_2 ≥ 0 then (some (decide (a0_2 < a1))) else (some false)) else (some false)) else (some false)
set_option maxHeartbeats 8000000 in
set_option maxRecDepth 100000 in
theorem expr_ahead.calls (a0_0 : Int) (a0_1 : Int) (a0_2 : Int) (a0_3 : Int) (a0_4 : Int) (a1 : Int) (r : Bool) (w : World) (h : expr_ahead.f a0_0 a0_1 a0_2 a0_3 a0_4 a1 = some r) :
  Calls Try.prog 175 #[.agg #[.int .i64 a0_0, .int .i64 a0_1, .int .i64 a0_2, .int .u64 a0_3, .int .u64 a0_4], .int .i64 a1] w fun e w' => e = .returned (.bool r) ∧ Below w.heap.size w w' := by
 have hu149 := Try.underlying149
 have HB := Aside0.mk (Below.refl w.heap.size w)
 have H : (if a0_1 ≥ 0 then (if a0_1 < a1 then (if a0_2 ≥ 0 then (some (decide (a0_2 < a1))) else (some false)) else (some false)) else (some false)) = some r := h
 clear h
 by_cases c3 : a0_1 ≥ 0
 ·rw [if_pos c3] at H
  have c3b0 : decide (0 ≤ a0_1) = true := decide_eq_true c3
  clear c3
  by_cases c4 : a0_1 < a1
  ·rw [if_pos c4] at H
   have c4b0 : decide (a0_1 < a1) = true := decide_eq_true c4
   clear c4
   by_cases c5 : a0_2 ≥ 0
   ·rw [if_pos c5] at H
    have c5b0 : decide (0 ≤ a0_2) = true := decide_eq_true c5
    clear c5
    obtain rfl := Option.some.inj H
    go_enter Try.func175, Try.ntmps175
    go_wp2_with (first | ((with_reducible refine gate_dst (N := 2) rfl ?_); refine box_event ?hg (N := 2) ?hd (cs := #[.int .i64 a0_0, .int .i64 a0_1, .int .i64 a0_2, .int .u64 a0_3, .int .u64 a0_4]) (t := 149) ?hr ?_; (case hd => rfl); (case hg => rfl); (case hr => first | (go_simp; done) | (go_simp; rfl)); intro gb313 hg w6 hbox hb; have n0_ := Aside0.mk (below_step (by exact lF HB.out) hb); have n1_ := Aside0.mk (hbox); have n2_ := Aside0.mk ((by rw [hg]; exact (below_size (by exact lF HB.out)) : w.heap.size ≤ gb313)); have n3_ := Aside0.mk ((by rw [hg]; exact (below_size (by exact lF HB.out)) : w.heap.size ≤ gb313)); clear HB; have HB := n0_; have BK313 := n1_; have GW313 := n2_; have GE313 := n3_; clear n0_ n1_ n2_ n3_; clear hb hbox hg; have hcz7_0 : w6.cell? ⟨gb313, 0, none⟩ = some (.int .i64 a0_0) := (blk_cell BK313.out 0).trans rfl; have hcz7_1 : w6.cell? ⟨gb313, 1, none⟩ = some (.int .i64 a0_1) := (blk_cell BK313.out 1).trans rfl; have hcz7_2 : w6.cell? ⟨gb313, 2, none⟩ = some (.int .i64 a0_2) := (blk_cell BK313.out 2).trans rfl; have hcz7_3 : w6.cell? ⟨gb313, 3, none⟩ = some (.int .u64 a0_3) := (blk_cell BK313.out 3).trans rfl; have hcz7_4 : w6.cell? ⟨gb313, 4, none⟩ = some (.int .u64 a0_4) := (blk_cell BK313.out 4).trans rfl; have hfz7_0 := blk_frozen BK313.out 0; have hfz7_1 := blk_frozen BK313.out 1; have hfz7_2 := blk_frozen BK313.out 2; have hfz7_3 := blk_frozen BK313.out 3; have hfz7_4 := blk_frozen BK313.out 4))
    go_ret
    exact ⟨by first | rfl | (simp [errW_none, errW_some] <;> rfl) | (simp [*, errW_none, errW_some] <;> rfl), by repeat (first | (with_reducible first | exact HB.out | apply bA | apply bN | apply bD | refine bS ?_ GE313.out) | exact HB.out)⟩
   ·rw [if_neg c5] at H
    have c5b0 : decide (0 ≤ a0_2) = false := decide_eq_false c5
    clear c5
    obtain rfl := Option.some.inj H
    go_enter Try.func175, Try.ntmps175
    go_wp2_with (first | ((with_reducible refine gate_dst (N := 2) rfl ?_); refine box_event ?hg (N := 2) ?hd (cs := #[.int .i64 a0_0, .int .i64 a0_1, .int .i64 a0_2, .int .u64 a0_3, .int .u64 a0_4]) (t := 149) ?hr ?_; (case hd => rfl); (case hg => rfl); (case hr => first | (go_simp; done) | (go_simp; rfl)); intro gb313 hg w8 hbox hb; have n0_ := Aside0.mk (below_step (by exact lF HB.out) hb); have n1_ := Aside0.mk (hbox); have n2_ := Aside0.mk ((by rw [hg]; exact (below_size (by exact lF HB.out)) : w.heap.size ≤ gb313)); have n3_ := Aside0.mk ((by rw [hg]; exact (below_size (by exact lF HB.out)) : w.heap.size ≤ gb313)); clear HB; have HB := n0_; have BK313 := n1_; have GW313 := n2_; have GE313 := n3_; clear n0_ n1_ n2_ n3_; clear hb hbox hg; have hcz9_0 : w8.cell? ⟨gb313, 0, none⟩ = some (.int .i64 a0_0) := (blk_cell BK313.out 0).trans rfl; have hcz9_1 : w8.cell? ⟨gb313, 1, none⟩ = some (.int .i64 a0_1) := (blk_cell BK313.out 1).trans rfl; have hcz9_2 : w8.cell? ⟨gb313, 2, none⟩ = some (.int .i64 a0_2) := (blk_cell BK313.out 2).trans rfl; have hcz9_3 : w8.cell? ⟨gb313, 3, none⟩ = some (.int .u64 a0_3) := (blk_cell BK313.out 3).trans rfl; have hcz9_4 : w8.cell? ⟨gb313, 4, none⟩ = some (.int .u64 a0_4) := (blk_cell BK313.out 4).trans rfl; have hfz9_0 := blk_frozen BK313.out 0; have hfz9_1 := blk_frozen BK313.out 1; have hfz9_2 := blk_frozen BK313.out 2; have hfz9_3 := blk_frozen BK313.out 3; have hfz9_4 := blk_frozen BK313.out 4))
    go_ret
    exact ⟨by first | rfl | (simp [errW_none, errW_some] <;> rfl) | (simp [*, errW_none, errW_some] <;> rfl), by repeat (first | (with_reducible first | exact HB.out | apply bA | apply bN | apply bD | refine bS ?_ GE313.out) | exact HB.out)⟩
  ·rw [if_neg c4] at H
   have c4b0 : decide (a0_1 < a1) = false := decide_eq_false c4
   clear c4
   obtain rfl := Option.some.inj H
   go_enter Try.func175, Try.ntmps175
   go_wp2_with (first | ((with_reducible refine gate_dst (N := 2) rfl ?_); refine box_event ?hg (N := 2) ?hd (cs := #[.int .i64 a0_0, .int .i64 a0_1, .int .i64 a0_2, .int .u64 a0_3, .int .u64 a0_4]) (t := 149) ?hr ?_; (case hd => rfl); (case hg => rfl); (case hr => first | (go_simp; done) | (go_simp; rfl)); intro gb313 hg w10 hbox hb; have n0_ := Aside0.mk (below_step (by exact lF HB.out) hb); have n1_ := Aside0.mk (hbox); have n2_ := Aside0.mk ((by rw [hg]; exact (below_size (by exact lF HB.out)) : w.heap.size ≤ gb313)); have n3_ := Aside0.mk ((by rw [hg]; exact (below_size (by exact lF HB.out)) : w.heap.size ≤ gb313)); clear HB; have HB := n0_; have BK313 := n1_; have GW313 := n2_; have GE313 := n3_; clear n0_ n1_ n2_ n3_; clear hb hbox hg; have hcz11_0 : w10.cell? ⟨gb313, 0, none⟩ = some (.int .i64 a0_0) := (blk_cell BK313.out 0).trans rfl; have hcz11_1 : w10.cell? ⟨gb313, 1, none⟩ = some (.int .i64 a0_1) := (blk_cell BK313.out 1).trans rfl; have hcz11_2 : w10.cell? ⟨gb313, 2, none⟩ = some (.int .i64 a0_2) := (blk_cell BK313.out 2).trans rfl; have hcz11_3 : w10.cell? ⟨gb313, 3, none⟩ = some (.int .u64 a0_3) := (blk_cell BK313.out 3).trans rfl; have hcz11_4 : w10.cell? ⟨gb313, 4, none⟩ = some (.int .u64 a0_4) := (blk_cell BK313.out 4).trans rfl; have hfz11_0 := blk_frozen BK313.out 0; have hfz11_1 := blk_frozen BK313.out 1; have hfz11_2 := blk_frozen BK313.out 2; have hfz11_3 := blk_frozen BK313.out 3; have hfz11_4 := blk_frozen BK313.out 4))
   go_ret
   exact ⟨by first | rfl | (simp [errW_none, errW_some] <;> rfl) | (simp [*, errW_none, errW_some] <;> rfl), by repeat (first | (with_reducible first | exact HB.out | apply bA | apply bN | apply bD | refine bS ?_ GE313.out) | exact HB.out)⟩
 ·rw [if_neg c3] at H
  have c3b0 : decide (0 ≤ a0_1) = false := decide_eq_false c3
  clear c3
  obtain rfl := Option.some.inj H
  go_enter Try.func175, Try.ntmps175
  go_wp2_with (first | ((with_reducible refine gate_dst (N := 2) rfl ?_); refine box_event ?hg (N := 2) ?hd (cs := #[.int .i64 a0_0, .int .i64 a0_1, .int .i64 a0_2, .int .u64 a0_3, .int .u64 a0_4]) (t := 149) ?hr ?_; (case hd => rfl); (case hg => rfl); (case hr => first | (go_simp; done) | (go_simp; rfl)); intro gb313 hg w12 hbox hb; have n0_ := Aside0.mk (below_step (by exact lF HB.out) hb); have n1_ := Aside0.mk (hbox); have n2_ := Aside0.mk ((by rw [hg]; exact (below_size (by exact lF HB.out)) : w.heap.size ≤ gb313)); have n3_ := Aside0.mk ((by rw [hg]; exact (below_size (by exact lF HB.out)) : w.heap.size ≤ gb313)); clear HB; have HB := n0_; have BK313 := n1_; have GW313 := n2_; have GE313 := n3_; clear n0_ n1_ n2_ n3_; clear hb hbox hg; have hcz13_0 : w12.cell? ⟨gb313, 0, none⟩ = some (.int .i64 a0_0) := (blk_cell BK313.out 0).trans rfl; have hcz13_1 : w12.cell? ⟨gb313, 1, none⟩ = some (.int .i64 a0_1) := (blk_cell BK313.out 1).trans rfl; have hcz13_2 : w12.cell? ⟨gb313, 2, none⟩ = some (.int .i64 a0_2) := (blk_cell BK313.out 2).trans rfl; have hcz13_3 : w12.cell? ⟨gb313, 3, none⟩ = some (.int .u64 a0_3) := (blk_cell BK313.out 3).trans rfl; have hcz13_4 : w12.cell? ⟨gb313, 4, none⟩ = some (.int .u64 a0_4) := (blk_cell BK313.out 4).trans rfl; have hfz13_0 := blk_frozen BK313.out 0; have hfz13_1 := blk_frozen BK313.out 1; have hfz13_2 := blk_frozen BK313.out 2; have hfz13_3 := blk_frozen BK313.out 3; have hfz13_4 := blk_frozen BK313.out 4))
  go_ret
  exact ⟨by first | rfl | (simp [errW_none, errW_some] <;> rfl) | (simp [*, errW_none, errW_some] <;> rfl), by repeat (first | (with_reducible first | exact HB.out | apply bA | apply bN | apply bD | refine bS ?_ GE313.out) | exact HB.out)⟩
end Go.Proofs.Ytoaepfgfbfgcdaa.Q
namespace Go.Proofs.Ytoaepfgfbfgcdaa.Q
open Go.RowKit Go.Proofs.YtoaepfgfbfgcdaaW.PrintWords Go.Proofs.YtoaepfgfbfgcdaaW.PrintLast Go.Proofs.YtoaepfgfbfgcdaaW.PrintMore
attribute [local go_sem] max2_int min2_int max_two min_two max_three min_three max_four min_four
set_option linter.unusedVariables false
set_option linter.unusedSimpArgs false
attribute [local go_sem high] eqA28
mutual
def expr_step.j0 : Nat → Int → Int → List Int → Bool → Int → Int → Int → Int → Int → Int → Int → Option (Int × Int)
 | 0, _, _, _, _, _, _, _, _, _, _, _ => none
 | k + 1, x0, x1, x3, x12, x315000, x315001, x315002, x315003, x315004, x316000, x316001 => if x12 = true then ((octet_Of.f x0 x315003 x315004).bind fun t316 => (if t316 = true then (some (0, 0)) else (some (0, 5)))) else (if x315000 = 2 then (if x315002 = 0 then (expr_step.j1 k x1 x3 (x315003 == x316000 && (x315004 == x316001)) x315000 x315001 x315002 x315003 x315004 x316000 x316001) else (expr_step.j1 k x1 x3 false x315000 x315001 x315002 x315003 x315004 x316000 x316001)) else (expr_step.j1 k x1 x3 false x315000 x315001 x315002 x315003 x315004 x316000 x316001))
def expr_step.j1 : Nat → Int → List Int → Bool → Int → Int → Int → Int → Int → Int → Int → Option (Int × Int)
 | 0, _, _, _, _, _, _, _, _, _, _ => none
 | k + 1, x1, x3, x31, x315000, x315001, x315002, x315003, x315004, x316000, x316001 => if x31 = true then (if x315001 < 0 then (some (0, 4)) else (if x315001 ≥ x1 then (some (0, 4)) else (some (1, 0)))) else (if x315000 = 3 then (if (x315003 == x316000 && (x315004 == x316001)) = true then ((expr_ahead.f x315000 x315001 x315002 x315003 x315004 (x3.length : Int)).bind fun t317 => (expr_step.j2 k x3 t317 x315000 x315001 x315002 x315003 x315004 x316000 x316001)) else (expr_step.j2 k x3 false x315000 x315001 x315002 x315003 x315004 x316000 x316001)) else (expr_step.j2 k x3 false x315000 x315001 x315002 x315003 x315004 x316000 x316001))
def expr_step.j2 : Nat → List Int → Bool → Int → Int → Int → Int → Int → Int → Int → Option (Int × Int)
 | 0, _, _, _, _, _, _, _, _, _ => none
 | k + 1, x3, x55, x315000, x315001, x315002, x315003, x315004, x316000, x316001 => if x55 = true then (if 0 ≤ x315001 then (if x315001 < (x3.length : Int) then (if 0 ≤ x315002 then (if x315002 < (x3.length : Int) then (some (mx (rd x3 x315001) (rd x3 x315002), 0)) else (none)) else (none)) else (none)) else (none)) else (if x315000 = 4 then (if (x315003 == x316000 && (x315004 == x316001)) = true then ((expr_ahead.f x315000 x315001 x315002 x315003 x315004 (x3.length : Int)).bind fun t320 => (if t320 = true then (if 0 ≤ x315001 then (if x315001 < (x3.length : Int) then (if 0 ≤ x315002 then (if x315002 < (x3.length : Int) then (some (wrap64 ((rd x3 x315001) + (rd x3 x315002)), 0)) else (none)) else (none)) else (none)) else (none)) else (some (0, 3)))) else (some (0, 3))) else (some (0, 3)))
end
def expr_step.f (k : Nat) (a0 : Int) (a1 : Int) (a2_0 : Int) (a2_1 : Int) (a2_2 : Int) (a2_3 : Int) (a2_4 : Int) (l3 : List Int) : Option (Int × Int) := if a2_0 = 1 then (if a2_1 = 0 then (expr_step.j0 k a0 a1 l3 (a2_2 == 0) a2_0 a2_1 a2_2 a2_3 a2_4 0 0) else (expr_step.j0 k a0 a1 l3 false a2_0 a2_1 a2_2 a2_3 a2_4 0 0)) else (expr_step.j0 k a0 a1 l3 false a2_0 a2_1 a2_2 a2_3 a2_4 0 0)
set_option maxHeartbeats 8000000 in
set_option maxRecDepth 100000 in
theorem expr_step.calls (k : Nat) (a0 : Int) (a1 : Int) (a2_0 : Int) (a2_1 : Int) (a2_2 : Int) (a2_3 : Int) (a2_4 : Int) (A3 : Option Addr) (c3 : Nat) (l3 : List Int) (r1 : Int) (r2 : Int) (w : World) (hr3 : Kd.C (Kd.int .i64) w A3 l3.length l3) (hc3 : l3.length ≤ c3) (h : expr_step.f k a0 a1 a2_0 a2_1 a2_2 a2_3 a2_4 l3 = some (r1, r2)) :
  Calls Try.prog 164 #[.int .i64 a0, .int .i64 a1, .agg #[.int .i64 a2_0, .int .i64 a2_1, .int .i64 a2_2, .int .u64 a2_3, .int .u64 a2_4], .slice A3 l3.length c3] w fun e w' => e = .returned (.tuple #[.int .i64 r1, .int .i64 r2]) ∧ Below w.heap.size w w' := by
 have hu149 := Try.underlying149
 have hu28 := Try.underlying28
 have HR3 := Aside0.mk hr3
 have HC3 := Aside0.mk hc3
 clear hr3 hc3
 have HB := Aside0.mk (Below.refl w.heap.size w)
 have H : (if a2_0 = 1 then (if a2_1 = 0 then (expr_step.j0 k a0 a1 l3 (a2_2 == 0) a2_0 a2_1 a2_2 a2_3 a2_4 0 0) else (expr_step.j0 k a0 a1 l3 false a2_0 a2_1 a2_2 a2_3 a2_4 0 0)) else (expr_step.j0 k a0 a1 l3 false a2_0 a2_1 a2_2 a2_3 a2_4 0 0)) = some (r1, r2) := h
 clear h
 have HC5 := Aside0.mk H
 clear H
 go_enter Try.func164, Try.ntmps164
 go_upto_region 2 with (first | ((with_reducible refine gate_dst (N := 6) rfl ?_); (try (refine gate_guard (by rfl) ?_; dsimp only)); refine box_event ?hg (N := 6) ?hd (cs := #[.int .i64 a2_0, .int .i64 a2_1, .int .i64 a2_2, .int .u64 a2_3, .int .u64 a2_4]) (t := 149) ?hr ?_; (case hd => rfl); (case hg => rfl); (case hr => first | (go_simp; done) | (go_simp; rfl)); intro gb314 hg w6 hbox hb; have n0_ := Aside0.mk (below_step (by exact lF HB.out) hb); have n1_ := Aside0.mk (hbox); have n2_ := Aside0.mk ((by rw [hg]; exact (below_size (by exact lF HB.out)) : w.heap.size ≤ gb314)); have n3_ := Aside0.mk ((by rw [hg]; exact (below_size (by exact lF HB.out)) : w.heap.size ≤ gb314)); clear HB; have HB := n0_; have BK314 := n1_; have GW314 := n2_; have GE314 := n3_; clear n0_ n1_ n2_ n3_; clear hb hbox hg) | ((with_reducible refine gate_dst (N := 10) rfl ?_); (try (refine gate_guard (by rfl) ?_; dsimp only)); refine box_event ?hg (N := 10) ?hd (cs := #[.int .u64 0, .int .u64 0]) (t := 28) ?hr ?_; (case hd => rfl); (case hg => rfl); (case hr => first | (go_simp; done) | (go_simp; rfl)); intro gb315 hg w7 hbox hb; have n0_ := Aside0.mk (blk_below (g := gb314) (o := .cells #[.int .i64 a2_0, .int .i64 a2_1, .int .i64 a2_2, .int .u64 a2_3, .int .u64 a2_4] 149 (0, 0)) (by exact bF BK314.out) hb); have n1_ := Aside0.mk (below_step (by repeat (first | (with_reducible first | exact HB.out | apply bA | apply bN | apply bD | refine bS ?_ GE314.out) | exact HB.out)) hb); have n2_ := Aside0.mk (hbox); have n3_ := Aside0.mk ((by rw [hg]; exact (below_size (by repeat (first | (with_reducible first | exact HB.out | apply bA | apply bN | apply bD | refine bS ?_ GE314.out) | exact HB.out))) : w.heap.size ≤ gb315)); have n4_ := Aside0.mk ((by rw [hg]; exact (below_size (by repeat (first | (with_reducible first | exact HB.out | apply bA | apply bN | apply bD | refine bS ?_ GE314.out) | exact HB.out))) : w.heap.size ≤ gb315)); have n5_ := Aside0.mk ((by rw [hg]; exact Nat.ne_of_lt (blk_lt (g := gb314) (o := .cells #[.int .i64 a2_0, .int .i64 a2_1, .int .i64 a2_2, .int .u64 a2_3, .int .u64 a2_4] 149 (0, 0)) (by exact bF BK314.out)) : gb314 ≠ gb315)); have n6_ := Aside0.mk ((by rw [hg]; exact Nat.ne_of_gt (blk_lt (g := gb314) (o := .cells #[.int .i64 a2_0, .int .i64 a2_1, .int .i64 a2_2, .int .u64 a2_3, .int .u64 a2_4] 149 (0, 0)) (by exact bF BK314.out)) : gb315 ≠ gb314)); clear BK314; clear HB; have BK314 := n0_; have HB := n1_; have BK315 := n2_; have GW315 := n3_; have GE315 := n4_; have NB314_315 := n5_; have NB315_314 := n6_; clear n0_ n1_ n2_ n3_ n4_ n5_ n6_; clear hb hbox hg; have hnb8 := NB315_314.out; have hnc8 := NB314_315.out; have hcz9_0 : w7.cell? ⟨gb315, 0, none⟩ = some (.int .u64 0) := (blk_cell BK315.out 0).trans rfl; have hcz9_1 : w7.cell? ⟨gb315, 1, none⟩ = some (.int .u64 0) := (blk_cell BK315.out 1).trans rfl; have hfz9_0 := blk_frozen BK315.out 0; have hfz9_1 := blk_frozen BK315.out 1))
 repeat (go_quiet (first | ((with_reducible refine gate_dst (N := 6) rfl ?_); (try (refine gate_guard (by rfl) ?_; dsimp only)); refine box_event ?hg (N := 6) ?hd (cs := #[.int .i64 a2_0, .int .i64 a2_1, .int .i64 a2_2, .int .u64 a2_3, .int .u64 a2_4]) (t := 149) ?hr ?_; (case hd => rfl); (case hg => rfl); (case hr => first | (go_simp; done) | (go_simp; rfl)); intro gb314 hg w6 hbox hb; have n0_ := Aside0.mk (below_step (by exact lF HB.out) hb); have n1_ := Aside0.mk (hbox); have n2_ := Aside0.mk ((by rw [hg]; exact (below_size (by exact lF HB.out)) : w.heap.size ≤ gb314)); have n3_ := Aside0.mk ((by rw [hg]; exact (below_size (by exact lF HB.out)) : w.heap.size ≤ gb314)); clear HB; have HB := n0_; have BK314 := n1_; have GW314 := n2_; have GE314 := n3_; clear n0_ n1_ n2_ n3_; clear hb hbox hg) | ((with_reducible refine gate_dst (N := 10) rfl ?_); (try (refine gate_guard (by rfl) ?_; dsimp only)); refine box_event ?hg (N := 10) ?hd (cs := #[.int .u64 0, .int .u64 0]) (t := 28) ?hr ?_; (case hd => rfl); (case hg => rfl); (case hr => first | (go_simp; done) | (go_simp; rfl)); intro gb315 hg w7 hbox hb; have n0_ := Aside0.mk (blk_below (g := gb314) (o := .cells #[.int .i64 a2_0, .int .i64 a2_1, .int .i64 a2_2, .int .u64 a2_3, .int .u64 a2_4] 149 (0, 0)) (by exact bF BK314.out) hb); have n1_ := Aside0.mk (below_step (by repeat (first | (with_reducible first | exact HB.out | apply bA | apply bN | apply bD | refine bS ?_ GE314.out) | exact HB.out)) hb); have n2_ := Aside0.mk (hbox); have n3_ := Aside0.mk ((by rw [hg]; exact (below_size (by repeat (first | (with_reducible first | exact HB.out | apply bA | apply bN | apply bD | refine bS ?_ GE314.out) | exact HB.out))) : w.heap.size ≤ gb315)); have n4_ := Aside0.mk ((by rw [hg]; exact (below_size (by repeat (first | (with_reducible first | exact HB.out | apply bA | apply bN | apply bD | refine bS ?_ GE314.out) | exact HB.out))) : w.heap.size ≤ gb315)); have n5_ := Aside0.mk ((by rw [hg]; exact Nat.ne_of_lt (blk_lt (g := gb314) (o := .cells #[.int .i64 a2_0, .int .i64 a2_1, .int .i64 a2_2, .int .u64 a2_3, .int .u64 a2_4] 149 (0, 0)) (by exact bF BK314.out)) : gb314 ≠ gb315)); have n6_ := Aside0.mk ((by rw [hg]; exact Nat.ne_of_gt (blk_lt (g := gb314) (o := .cells #[.int .i64 a2_0, .int .i64 a2_1, .int .i64 a2_2, .int .u64 a2_3, .int .u64 a2_4] 149 (0, 0)) (by exact bF BK314.out)) : gb315 ≠ gb314)); clear BK314; clear HB; have BK314 := n0_; have HB := n1_; have BK315 := n2_; have GW315 := n3_; have GE315 := n4_; have NB314_315 := n5_; have NB315_314 := n6_; clear n0_ n1_ n2_ n3_ n4_ n5_ n6_; clear hb hbox hg; have hnb8 := NB315_314.out; have hnc8 := NB314_315.out; have hcz9_0 : w7.cell? ⟨gb315, 0, none⟩ = some (.int .u64 0) := (blk_cell BK315.out 0).trans rfl; have hcz9_1 : w7.cell? ⟨gb315, 1, none⟩ = some (.int .u64 0) := (blk_cell BK315.out 1).trans rfl; have hfz9_0 := blk_frozen BK315.out 0; have hfz9_1 := blk_frozen BK315.out 1)); go_upto_region 2 with (first | ((with_reducible refine gate_dst (N := 6) rfl ?_); (try (refine gate_guard (by rfl) ?_; dsimp only)); refine box_event ?hg (N := 6) ?hd (cs := #[.int .i64 a2_0, .int .i64 a2_1, .int .i64 a2_2, .int .u64 a2_3, .int .u64 a2_4]) (t := 149) ?hr ?_; (case hd => rfl); (case hg => rfl); (case hr => first | (go_simp; done) | (go_simp; rfl)); intro gb314 hg w6 hbox hb; have n0_ := Aside0.mk (below_step (by exact lF HB.out) hb); have n1_ := Aside0.mk (hbox); have n2_ := Aside0.mk ((by rw [hg]; exact (below_size (by exact lF HB.out)) : w.heap.size ≤ gb314)); have n3_ := Aside0.mk ((by rw [hg]; exact (below_size (by exact lF HB.out)) : w.heap.size ≤ gb314)); clear HB; have HB := n0_; have BK314 := n1_; have GW314 := n2_; have GE314 := n3_; clear n0_ n1_ n2_ n3_; clear hb hbox hg) | ((with_reducible refine gate_dst (N := 10) rfl ?_); (try (refine gate_guard (by rfl) ?_; dsimp only)); refine box_event ?hg (N := 10) ?hd (cs := #[.int .u64 0, .int .u64 0]) (t := 28) ?hr ?_; (case hd => rfl); (case hg => rfl); (case hr => first | (go_simp; done) | (go_simp; rfl)); intro gb315 hg w7 hbox hb; have n0_ := Aside0.mk (blk_below (g := gb314) (o := .cells #[.int .i64 a2_0, .int .i64 a2_1, .int .i64 a2_2, .int .u64 a2_3, .int .u64 a2_4] 149 (0, 0)) (by exact bF BK314.out) hb); have n1_ := Aside0.mk (below_step (by repeat (first | (with_reducible first | exact HB.out | apply bA | apply bN | apply bD | refine bS ?_ GE314.out) | exact HB.out)) hb); have n2_ := Aside0.mk (hbox); have n3_ := Aside0.mk ((by rw [hg]; exact (below_size (by repeat (first | (with_reducible first | exact HB.out | apply bA | apply bN | apply bD | refine bS ?_ GE314.out) | exact HB.out))) : w.heap.size ≤ gb315)); have n4_ := Aside0.mk ((by rw [hg]; exact (below_size (by repeat (first | (with_reducible first | exact HB.out | apply bA | apply bN | apply bD | refine bS ?_ GE314.out) | exact HB.out))) : w.heap.size ≤ gb315)); have n5_ := Aside0.mk ((by rw [hg]; exact Nat.ne_of_lt (blk_lt (g := gb314) (o := .cells #[.int .i64 a2_0, .int .i64 a2_1, .int .i64 a2_2, .int .u64 a2_3, .int .u64 a2_4] 149 (0, 0)) (by exact bF BK314.out)) : gb314 ≠ gb315)); have n6_ := Aside0.mk ((by rw [hg]; exact Nat.ne_of_gt (blk_lt (g := gb314) (o := .cells #[.int .i64 a2_0, .int .i64 a2_1, .int .i64 a2_2, .int .u64 a2_3, .int .u64 a2_4] 149 (0, 0)) (by exact bF BK314.out)) : gb315 ≠ gb314)); clear BK314; clear HB; have BK314 := n0_; have HB := n1_; have BK315 := n2_; have GW315 := n3_; have GE315 := n4_; have NB314_315 := n5_; have NB315_314 := n6_; clear n0_ n1_ n2_ n3_ n4_ n5_ n6_; clear hb hbox hg; have hnb8 := NB315_314.out; have hnc8 := NB314_315.out; have hcz9_0 : w7.cell? ⟨gb315, 0, none⟩ = some (.int .u64 0) := (blk_cell BK315.out 0).trans rfl; have hcz9_1 : w7.cell? ⟨gb315, 1, none⟩ = some (.int .u64 0) := (blk_cell BK315.out 1).trans rfl; have hfz9_0 := blk_frozen BK315.out 0; have hfz9_1 := blk_frozen BK315.out 1)))
 (try simp only [Act.put, List.setIfInBounds_toArray, List.set_cons_zero, List.set_cons_succ])
 go_cut [12] (fun v12 wc => ∃ (kq : Nat) (x12_4 : Bool), v12 = .bool x12_4 ∧ Aside0 (expr_step.j0 kq a0 a1 l3 x12_4 a2_0 a2_1 a2_2 a2_3 a2_4 0 0 = some (r1, r2)) ∧ Aside0 (kq ≤ k) ∧ Aside0 (wc.heap[gb314]? = some (.cells #[.int .i64 a2_0, .int .i64 a2_1, .int .i64 a2_2, .int .u64 a2_3, .int .u64 a2_4] 149 (0, 0))) ∧ Aside0 (wc.heap[gb315]? = some (.cells #[.int .u64 0, .int .u64 0] 28 (0, 0))) ∧ Aside0 (Below w.heap.size w wc))
 case first =>
  have H := HC5.out
  clear HC5
  by_cases c10 : a2_0 = 1
  ·rw [if_pos c10] at H
   have c10b0 : (a2_0 == 1) = true := beq_iff_eq.mpr c10
   have c10b1 : (a2_0 != 1) = false := bne_eq_false_iff_eq.mpr c10
   clear c10
   (first | rw [c10b0] | (simp only [i64_w, i32_w]; rw [c10b0]) | skip)
   by_cases c11 : a2_1 = 0
   ·rw [if_pos c11] at H
    have c11b0 : (a2_1 == 0) = true := beq_iff_eq.mpr c11
    have c11b1 : (a2_1 != 0) = false := bne_eq_false_iff_eq.mpr c11
    clear c11
    have H' := Aside0.mk H
    clear H
    have hnb12 := NB314_315.out
    have hnc12 := NB315_314.out
    have hcz13_0 : w7.cell? ⟨gb314, 0, none⟩ = some (.int .i64 a2_0) := (blk_cell BK314.out 0).trans rfl
    have hcz13_1 : w7.cell? ⟨gb314, 1, none⟩ = some (.int .i64 a2_1) := (blk_cell BK314.out 1).trans rfl
    have hcz13_2 : w7.cell? ⟨gb314, 2, none⟩ = some (.int .i64 a2_2) := (blk_cell BK314.out 2).trans rfl
    have hcz13_3 : w7.cell? ⟨gb314, 3, none⟩ = some (.int .u64 a2_3) := (blk_cell BK314.out 3).trans rfl
    have hcz13_4 : w7.cell? ⟨gb314, 4, none⟩ = some (.int .u64 a2_4) := (blk_cell BK314.out 4).trans rfl
    have hfz13_0 := blk_frozen BK314.out 0
    have hfz13_1 := blk_frozen BK314.out 1
    have hfz13_2 := blk_frozen BK314.out 2
    have hfz13_3 := blk_frozen BK314.out 3
    have hfz13_4 := blk_frozen BK314.out 4
    go_wp2
    repeat (go_quiet (fail); try go_wp2)
    go_meet
    case rel => exact ⟨_, ((a2_2 == 0)), (by first | rfl | (simp; done) | (simp [*]; done)), H', ⟨by first | omega | exact Nat.le_refl _⟩, ⟨by (with_reducible repeat (first | refine blk_drewN ?_ _ | refine blk_drew ?_ | refine blk_alloc ?_ _)); refine blk_far ?_ NB314_315.out _; (with_reducible repeat (first | refine blk_drewN ?_ _ | refine blk_drew ?_ | refine blk_alloc ?_ _)); refine blk_far ?_ NB314_315.out _; exact bF BK314.out⟩, ⟨by (with_reducible repeat (first | refine blk_drewN ?_ _ | refine blk_drew ?_ | refine blk_alloc ?_ _)); refine blk_put (cs := #[.int .u64 0, .int .u64 0]) ?_ 1 _ rfl; (with_reducible repeat (first | refine blk_drewN ?_ _ | refine blk_drew ?_ | refine blk_alloc ?_ _)); refine blk_put (cs := #[.int .u64 0, .int .u64 0]) ?_ 0 _ rfl; exact bF BK315.out⟩, ⟨by repeat (first | (with_reducible first | exact HB.out | apply bA | apply bN | apply bD | refine bS ?_ GE314.out | refine bS ?_ GE315.out) | exact HB.out)⟩⟩
   ·rw [if_neg c11] at H
    have c11b0 : (a2_1 == 0) = false := beq_eq_false_iff_ne.mpr c11
    have c11b1 : (a2_1 != 0) = true := bne_iff_ne.mpr c11
    have H' := Aside0.mk H
    clear H
    have hnb14 := NB314_315.out
    have hnc14 := NB315_314.out
    have hcz15_0 : w7.cell? ⟨gb314, 0, none⟩ = some (.int .i64 a2_0) := (blk_cell BK314.out 0).trans rfl
    have hcz15_1 : w7.cell? ⟨gb314, 1, none⟩ = some (.int .i64 a2_1) := (blk_cell BK314.out 1).trans rfl
    have hcz15_2 : w7.cell? ⟨gb314, 2, none⟩ = some (.int .i64 a2_2) := (blk_cell BK314.out 2).trans rfl
    have hcz15_3 : w7.cell? ⟨gb314, 3, none⟩ = some (.int .u64 a2_3) := (blk_cell BK314.out 3).trans rfl
    have hcz15_4 : w7.cell? ⟨gb314, 4, none⟩ = some (.int .u64 a2_4) := (blk_cell BK314.out 4).trans rfl
    have hfz15_0 := blk_frozen BK314.out 0
    have hfz15_1 := blk_frozen BK314.out 1
    have hfz15_2 := blk_frozen BK314.out 2
    have hfz15_3 := blk_frozen BK314.out 3
    have hfz15_4 := blk_frozen BK314.out 4
    go_wp2
    repeat (go_quiet (fail); try go_wp2)
    go_meet
    case rel => exact ⟨_, (false), (by first | rfl | (simp; done) | (simp [*]; done)), H', ⟨by first | omega | exact Nat.le_refl _⟩, ⟨by (with_reducible repeat (first | refine blk_drewN ?_ _ | refine blk_drew ?_ | refine blk_alloc ?_ _)); refine blk_far ?_ NB314_315.out _; (with_reducible repeat (first | refine blk_drewN ?_ _ | refine blk_drew ?_ | refine blk_alloc ?_ _)); refine blk_far ?_ NB314_315.out _; exact bF BK314.out⟩, ⟨by (with_reducible repeat (first | refine blk_drewN ?_ _ | refine blk_drew ?_ | refine blk_alloc ?_ _)); refine blk_put (cs := #[.int .u64 0, .int .u64 0]) ?_ 1 _ rfl; (with_reducible repeat (first | refine blk_drewN ?_ _ | refine blk_drew ?_ | refine blk_alloc ?_ _)); refine blk_put (cs := #[.int .u64 0, .int .u64 0]) ?_ 0 _ rfl; exact bF BK315.out⟩, ⟨by repeat (first | (with_reducible first | exact HB.out | apply bA | apply bN | apply bD | refine bS ?_ GE314.out | refine bS ?_ GE315.out) | exact HB.out)⟩⟩
  ·rw [if_neg c10] at H
   have c10b0 : (a2_0 == 1) = false := beq_eq_false_iff_ne.mpr c10
   have c10b1 : (a2_0 != 1) = true := bne_iff_ne.mpr c10
   (first | rw [c10b0] | (simp only [i64_w, i32_w]; rw [c10b0]) | skip)
   have H' := Aside0.mk H
   clear H
   have hnb16 := NB314_315.out
   have hnc16 := NB315_314.out
   have hcz17_0 : w7.cell? ⟨gb314, 0, none⟩ = some (.int .i64 a2_0) := (blk_cell BK314.out 0).trans rfl
   have hcz17_1 : w7.cell? ⟨gb314, 1, none⟩ = some (.int .i64 a2_1) := (blk_cell BK314.out 1).trans rfl
   have hcz17_2 : w7.cell? ⟨gb314, 2, none⟩ = some (.int .i64 a2_2) := (blk_cell BK314.out 2).trans rfl
   have hcz17_3 : w7.cell? ⟨gb314, 3, none⟩ = some (.int .u64 a2_3) := (blk_cell BK314.out 3).trans rfl
   have hcz17_4 : w7.cell? ⟨gb314, 4, none⟩ = some (.int .u64 a2_4) := (blk_cell BK314.out 4).trans rfl
   have hfz17_0 := blk_frozen BK314.out 0
   have hfz17_1 := blk_frozen BK314.out 1
   have hfz17_2 := blk_frozen BK314.out 2
   have hfz17_3 := blk_frozen BK314.out 3
   have hfz17_4 := blk_frozen BK314.out 4
   go_wp2
   repeat (go_quiet (fail); try go_wp2)
   go_meet
   case rel => exact ⟨_, (false), (by first | rfl | (simp; done) | (simp [*]; done)), H', ⟨by first | omega | exact Nat.le_refl _⟩, ⟨by (with_reducible repeat (first | refine blk_drewN ?_ _ | refine blk_drew ?_ | refine blk_alloc ?_ _)); refine blk_far ?_ NB314_315.out _; (with_reducible repeat (first | refine blk_drewN ?_ _ | refine blk_drew ?_ | refine blk_alloc ?_ _)); refine blk_far ?_ NB314_315.out _; exact bF BK314.out⟩, ⟨by (with_reducible repeat (first | refine blk_drewN ?_ _ | refine blk_drew ?_ | refine blk_alloc ?_ _)); refine blk_put (cs := #[.int .u64 0, .int .u64 0]) ?_ 1 _ rfl; (with_reducible repeat (first | refine blk_drewN ?_ _ | refine blk_drew ?_ | refine blk_alloc ?_ _)); refine blk_put (cs := #[.int .u64 0, .int .u64 0]) ?_ 0 _ rfl; exact bF BK315.out⟩, ⟨by repeat (first | (with_reducible first | exact HB.out | apply bA | apply bN | apply bD | refine bS ?_ GE314.out | refine bS ?_ GE315.out) | exact HB.out)⟩⟩
 case rest =>
  clear HC5
  try clear c1
  try clear p2
  try clear c3
  try clear c8
  try clear c10
  try clear c10b0
  try clear c10b1
  try clear c11
  try clear c11b0
  try clear c11b1
  try clear c12
  try clear c14
  try clear c16
  try clear hcz13_0
  try clear hcz13_1
  try clear hcz13_2
  try clear hcz13_3
  try clear hcz13_4
  try clear hcz15_0
  try clear hcz15_1
  try clear hcz15_2
  try clear hcz15_3
  try clear hcz15_4
  try clear hcz17_0
  try clear hcz17_1
  try clear hcz17_2
  try clear hcz17_3
  try clear hcz17_4
  try clear hcz9_0
  try clear hcz9_1
  try clear hfz13_0
  try clear hfz13_1
  try clear hfz13_2
  try clear hfz13_3
  try clear hfz13_4
  try clear hfz15_0
  try clear hfz15_1
  try clear hfz15_2
  try clear hfz15_3
  try clear hfz15_4
  try clear hfz17_0
  try clear hfz17_1
  try clear hfz17_2
  try clear hfz17_3
  try clear hfz17_4
  try clear hfz9_0
  try clear hfz9_1
  obtain ⟨kq, x12_4, rfl, HA, HJ4, BK314, BK315, HB⟩ := hcut
  cases kq with
  | zero => exact absurd HA.out (by simp [expr_step.j0])
  | succ kj4 =>
   have H := HA.out
   clear HA
   simp only [expr_step.j0] at H
   by_cases c18 : x12_4 = true
   ·subst c18
    have H1 : ((octet_Of.f a0 a2_3 a2_4).bind fun t316 => (if t316 = true then (some (0, 0)) else (some (0, 5)))) = some (r1, r2) := by rw [if_pos rfl] at H; exact H
    clear H
    have H := H1
    clear H1
    replace H := Option.bind_eq_some_iff.mp H
    obtain ⟨t316, A190, H⟩ := H
    replace H : (if t316 = true then (some (0, 0)) else (some (0, 5))) = some (r1, r2) := H
    have A19 := Aside0.mk A190
    clear A190
    by_cases c20 : t316 = true
    ·subst c20
     have H1 : (some (0, 0)) = some (r1, r2) := by rw [if_pos rfl] at H; exact H
     clear H
     have H := H1
     clear H1
     simp only [Option.some.injEq, Prod.mk.injEq] at H
     obtain ⟨rfl, rfl⟩ := H
     have hnb21 := NB314_315.out
     have hnc21 := NB315_314.out
     have hcz22_0 : wc.cell? ⟨gb314, 0, none⟩ = some (.int .i64 a2_0) := (blk_cell BK314.out 0).trans rfl
     have hcz22_1 : wc.cell? ⟨gb314, 1, none⟩ = some (.int .i64 a2_1) := (blk_cell BK314.out 1).trans rfl
     have hcz22_2 : wc.cell? ⟨gb314, 2, none⟩ = some (.int .i64 a2_2) := (blk_cell BK314.out 2).trans rfl
     have hcz22_3 : wc.cell? ⟨gb314, 3, none⟩ = some (.int .u64 a2_3) := (blk_cell BK314.out 3).trans rfl
     have hcz22_4 : wc.cell? ⟨gb314, 4, none⟩ = some (.int .u64 a2_4) := (blk_cell BK314.out 4).trans rfl
     have hfz22_0 := blk_frozen BK314.out 0
     have hfz22_1 := blk_frozen BK314.out 1
     have hfz22_2 := blk_frozen BK314.out 2
     have hfz22_3 := blk_frozen BK314.out 3
     have hfz22_4 := blk_frozen BK314.out 4
     go_wp2_with (first | (go_at_call 81; (with_reducible refine (octet_Of.calls a0 a2_3 a2_4 true _ A19.out).mono ?_); rintro e w23 ⟨rfl, hb⟩; have n0_ := Aside0.mk (blk_below (g := gb314) (o := .cells #[.int .i64 a2_0, .int .i64 a2_1, .int .i64 a2_2, .int .u64 a2_3, .int .u64 a2_4] 149 (0, 0)) (by exact bF BK314.out) hb); have n1_ := Aside0.mk (blk_below (g := gb315) (o := .cells #[.int .u64 0, .int .u64 0] 28 (0, 0)) (by exact bF BK315.out) hb); have n2_ := Aside0.mk (below_step (by repeat (first | (with_reducible first | exact HB.out | apply bA | apply bN | apply bD | refine bS ?_ GE314.out | refine bS ?_ GE315.out) | exact HB.out)) hb); clear BK314; clear BK315; clear HB; have BK314 := n0_; have BK315 := n1_; have HB := n2_; clear n0_ n1_ n2_; (try clear hb); (try clear hb2); (try clear hk); (try clear hi)))
     repeat (go_quiet (first | (go_at_call 81; (with_reducible refine (octet_Of.calls a0 a2_3 a2_4 true _ A19.out).mono ?_); rintro e w23 ⟨rfl, hb⟩; have n0_ := Aside0.mk (blk_below (g := gb314) (o := .cells #[.int .i64 a2_0, .int .i64 a2_1, .int .i64 a2_2, .int .u64 a2_3, .int .u64 a2_4] 149 (0, 0)) (by exact bF BK314.out) hb); have n1_ := Aside0.mk (blk_below (g := gb315) (o := .cells #[.int .u64 0, .int .u64 0] 28 (0, 0)) (by exact bF BK315.out) hb); have n2_ := Aside0.mk (below_step (by repeat (first | (with_reducible first | exact HB.out | apply bA | apply bN | apply bD | refine bS ?_ GE314.out | refine bS ?_ GE315.out) | exact HB.out)) hb); clear BK314; clear BK315; clear HB; have BK314 := n0_; have BK315 := n1_; have HB := n2_; clear n0_ n1_ n2_; (try clear hb); (try clear hb2); (try clear hk); (try clear hi))); try go_wp2_with (first | (go_at_call 81; (with_reducible refine (octet_Of.calls a0 a2_3 a2_4 true _ A19.out).mono ?_); rintro e w23 ⟨rfl, hb⟩; have n0_ := Aside0.mk (blk_below (g := gb314) (o := .cells #[.int .i64 a2_0, .int .i64 a2_1, .int .i64 a2_2, .int .u64 a2_3, .int .u64 a2_4] 149 (0, 0)) (by exact bF BK314.out) hb); have n1_ := Aside0.mk (blk_below (g := gb315) (o := .cells #[.int .u64 0, .int .u64 0] 28 (0, 0)) (by exact bF BK315.out) hb); have n2_ := Aside0.mk (below_step (by repeat (first | (with_reducible first | exact HB.out | apply bA | apply bN | apply bD | refine bS ?_ GE314.out | refine bS ?_ GE315.out) | exact HB.out)) hb); clear BK314; clear BK315; clear HB; have BK314 := n0_; have BK315 := n1_; have HB := n2_; clear n0_ n1_ n2_; (try clear hb); (try clear hb2); (try clear hk); (try clear hi))))
     go_ret2
     exact ⟨by first | rfl | (simp [errW_none, errW_some] <;> rfl) | (simp [*, errW_none, errW_some] <;> rfl), by repeat (first | (with_reducible first | exact HB.out | apply bA | apply bN | apply bD | refine bS ?_ GE314.out | refine bS ?_ GE315.out) | exact HB.out)⟩
    ·replace c20 := Bool.eq_false_iff.mpr c20
     subst c20
     have H1 : (some (0, 5)) = some (r1, r2) := by rw [if_neg (show ¬ (false = true) by decide)] at H; exact H
     clear H
     have H := H1
     clear H1
     simp only [Option.some.injEq, Prod.mk.injEq] at H
     obtain ⟨rfl, rfl⟩ := H
     have hnb24 := NB314_315.out
     have hnc24 := NB315_314.out
     have hcz25_0 : wc.cell? ⟨gb314, 0, none⟩ = some (.int .i64 a2_0) := (blk_cell BK314.out 0).trans rfl
     have hcz25_1 : wc.cell? ⟨gb314, 1, none⟩ = some (.int .i64 a2_1) := (blk_cell BK314.out 1).trans rfl
     have hcz25_2 : wc.cell? ⟨gb314, 2, none⟩ = some (.int .i64 a2_2) := (blk_cell BK314.out 2).trans rfl
     have hcz25_3 : wc.cell? ⟨gb314, 3, none⟩ = some (.int .u64 a2_3) := (blk_cell BK314.out 3).trans rfl
     have hcz25_4 : wc.cell? ⟨gb314, 4, none⟩ = some (.int .u64 a2_4) := (blk_cell BK314.out 4).trans rfl
     have hfz25_0 := blk_frozen BK314.out 0
     have hfz25_1 := blk_frozen BK314.out 1
     have hfz25_2 := blk_frozen BK314.out 2
     have hfz25_3 := blk_frozen BK314.out 3
     have hfz25_4 := blk_frozen BK314.out 4
     go_wp2_with (first | (go_at_call 81; (with_reducible refine (octet_Of.calls a0 a2_3 a2_4 false _ A19.out).mono ?_); rintro e w26 ⟨rfl, hb⟩; have n0_ := Aside0.mk (blk_below (g := gb314) (o := .cells #[.int .i64 a2_0, .int .i64 a2_1, .int .i64 a2_2, .int .u64 a2_3, .int .u64 a2_4] 149 (0, 0)) (by exact bF BK314.out) hb); have n1_ := Aside0.mk (blk_below (g := gb315) (o := .cells #[.int .u64 0, .int .u64 0] 28 (0, 0)) (by exact bF BK315.out) hb); have n2_ := Aside0.mk (below_step (by repeat (first | (with_reducible first | exact HB.out | apply bA | apply bN | apply bD | refine bS ?_ GE314.out | refine bS ?_ GE315.out) | exact HB.out)) hb); clear BK314; clear BK315; clear HB; have BK314 := n0_; have BK315 := n1_; have HB := n2_; clear n0_ n1_ n2_; (try clear hb); (try clear hb2); (try clear hk); (try clear hi)))
     repeat (go_quiet (first | (go_at_call 81; (with_reducible refine (octet_Of.calls a0 a2_3 a2_4 false _ A19.out).mono ?_); rintro e w26 ⟨rfl, hb⟩; have n0_ := Aside0.mk (blk_below (g := gb314) (o := .cells #[.int .i64 a2_0, .int .i64 a2_1, .int .i64 a2_2, .int .u64 a2_3, .int .u64 a2_4] 149 (0, 0)) (by exact bF BK314.out) hb); have n1_ := Aside0.mk (blk_below (g := gb315) (o := .cells #[.int .u64 0, .int .u64 0] 28 (0, 0)) (by exact bF BK315.out) hb); have n2_ := Aside0.mk (below_step (by repeat (first | (with_reducible first | exact HB.out | apply bA | apply bN | apply bD | refine bS ?_ GE314.out | refine bS ?_ GE315.out) | exact HB.out)) hb); clear BK314; clear BK315; clear HB; have BK314 := n0_; have BK315 := n1_; have HB := n2_; clear n0_ n1_ n2_; (try clear hb); (try clear hb2); (try clear hk); (try clear hi))); try go_wp2_with (first | (go_at_call 81; (with_reducible refine (octet_Of.calls a0 a2_3 a2_4 false _ A19.out).mono ?_); rintro e w26 ⟨rfl, hb⟩; have n0_ := Aside0.mk (blk_below (g := gb314) (o := .cells #[.int .i64 a2_0, .int .i64 a2_1, .int .i64 a2_2, .int .u64 a2_3, .int .u64 a2_4] 149 (0, 0)) (by exact bF BK314.out) hb); have n1_ := Aside0.mk (blk_below (g := gb315) (o := .cells #[.int .u64 0, .int .u64 0] 28 (0, 0)) (by exact bF BK315.out) hb); have n2_ := Aside0.mk (below_step (by repeat (first | (with_reducible first | exact HB.out | apply bA | apply bN | apply bD | refine bS ?_ GE314.out | refine bS ?_ GE315.out) | exact HB.out)) hb); clear BK314; clear BK315; clear HB; have BK314 := n0_; have BK315 := n1_; have HB := n2_; clear n0_ n1_ n2_; (try clear hb); (try clear hb2); (try clear hk); (try clear hi))))
     go_ret2
     exact ⟨by first | rfl | (simp [errW_none, errW_some] <;> rfl) | (simp [*, errW_none, errW_some] <;> rfl), by repeat (first | (with_reducible first | exact HB.out | apply bA | apply bN | apply bD | refine bS ?_ GE314.out | refine bS ?_ GE315.out) | exact HB.out)⟩
   ·replace c18 := Bool.eq_false_iff.mpr c18
    subst c18
    have H1 : (if a2_0 = 2 then (if a2_2 = 0 then (expr_step.j1 kj4 a1 l3 (a2_3 == 0 && (a2_4 == 0)) a2_0 a2_1 a2_2 a2_3 a2_4 0 0) else (expr_step.j1 kj4 a1 l3 false a2_0 a2_1 a2_2 a2_3 a2_4 0 0)) else (expr_step.j1 kj4 a1 l3 false a2_0 a2_1 a2_2 a2_3 a2_4 0 0)) = some (r1, r2) := by rw [if_neg (show ¬ (false = true) by decide)] at H; exact H
    clear H
    have H := H1
    clear H1
    have HC27 := Aside0.mk H
    clear H
    go_upto_region 6 with (fail)
    repeat (go_quiet (fail); go_upto_region 6 with (fail))
    go_cut [31] (fun v31 wc => ∃ (kq : Nat) (x31_26 : Bool), v31 = .bool x31_26 ∧ Aside0 (expr_step.j1 kq a1 l3 x31_26 a2_0 a2_1 a2_2 a2_3 a2_4 0 0 = some (r1, r2)) ∧ Aside0 (kq ≤ kj4) ∧ Aside0 (wc.heap[gb314]? = some (.cells #[.int .i64 a2_0, .int .i64 a2_1, .int .i64 a2_2, .int .u64 a2_3, .int .u64 a2_4] 149 (0, 0))) ∧ Aside0 (wc.heap[gb315]? = some (.cells #[.int .u64 0, .int .u64 0] 28 (0, 0))) ∧ Aside0 (Below w.heap.size w wc))
    case first =>
     have H := HC27.out
     clear HC27
     by_cases c28 : a2_0 = 2
     ·rw [if_pos c28] at H
      have c28b0 : (a2_0 == 2) = true := beq_iff_eq.mpr c28
      have c28b1 : (a2_0 != 2) = false := bne_eq_false_iff_eq.mpr c28
      clear c28
      (first | rw [c28b0] | (simp only [i64_w, i32_w]; rw [c28b0]) | skip)
      by_cases c29 : a2_2 = 0
      ·rw [if_pos c29] at H
       have c29b0 : (a2_2 == 0) = true := beq_iff_eq.mpr c29
       have c29b1 : (a2_2 != 0) = false := bne_eq_false_iff_eq.mpr c29
       clear c29
       have H' := Aside0.mk H
       clear H
       have hnb30 := NB314_315.out
       have hnc30 := NB315_314.out
       have hcz31_0 : wc.cell? ⟨gb314, 0, none⟩ = some (.int .i64 a2_0) := (blk_cell BK314.out 0).trans rfl
       have hcz31_1 : wc.cell? ⟨gb314, 1, none⟩ = some (.int .i64 a2_1) := (blk_cell BK314.out 1).trans rfl
       have hcz31_2 : wc.cell? ⟨gb314, 2, none⟩ = some (.int .i64 a2_2) := (blk_cell BK314.out 2).trans rfl
       have hcz31_3 : wc.cell? ⟨gb314, 3, none⟩ = some (.int .u64 a2_3) := (blk_cell BK314.out 3).trans rfl
       have hcz31_4 : wc.cell? ⟨gb314, 4, none⟩ = some (.int .u64 a2_4) := (blk_cell BK314.out 4).trans rfl
       have hfz31_0 := blk_frozen BK314.out 0
       have hfz31_1 := blk_frozen BK314.out 1
       have hfz31_2 := blk_frozen BK314.out 2
       have hfz31_3 := blk_frozen BK314.out 3
       have hfz31_4 := blk_frozen BK314.out 4
       have hcz32_0 : wc.cell? ⟨gb315, 0, none⟩ = some (.int .u64 0) := (blk_cell BK315.out 0).trans rfl
       have hcz32_1 : wc.cell? ⟨gb315, 1, none⟩ = some (.int .u64 0) := (blk_cell BK315.out 1).trans rfl
       have hfz32_0 := blk_frozen BK315.out 0
       have hfz32_1 := blk_frozen BK315.out 1
       go_wp2
       repeat (go_quiet (fail); try go_wp2)
       go_meet
       case rel => exact ⟨_, ((a2_3 == 0 && (a2_4 == 0))), (by first | rfl | (simp; done) | (simp [*]; done)), H', ⟨by have := HJ4.out; first | omega | exact Nat.le_refl _⟩, ⟨by exact bF BK314.out⟩, ⟨by exact bF BK315.out⟩, ⟨by repeat (first | (with_reducible first | exact HB.out | apply bA | apply bN | apply bD | refine bS ?_ GE314.out | refine bS ?_ GE315.out) | exact HB.out)⟩⟩
      ·rw [if_neg c29] at H
       have c29b0 : (a2_2 == 0) = false := beq_eq_false_iff_ne.mpr c29
       have c29b1 : (a2_2 != 0) = true := bne_iff_ne.mpr c29
       have H' := Aside0.mk H
       clear H
       have hnb33 := NB314_315.out
       have hnc33 := NB315_314.out
       have hcz34_0 : wc.cell? ⟨gb314, 0, none⟩ = some (.int .i64 a2_0) := (blk_cell BK314.out 0).trans rfl
       have hcz34_1 : wc.cell? ⟨gb314, 1, none⟩ = some (.int .i64 a2_1) := (blk_cell BK314.out 1).trans rfl
       have hcz34_2 : wc.cell? ⟨gb314, 2, none⟩ = some (.int .i64 a2_2) := (blk_cell BK314.out 2).trans rfl
       have hcz34_3 : wc.cell? ⟨gb314, 3, none⟩ = some (.int .u64 a2_3) := (blk_cell BK314.out 3).trans rfl
       have hcz34_4 : wc.cell? ⟨gb314, 4, none⟩ = some (.int .u64 a2_4) := (blk_cell BK314.out 4).trans rfl
       have hfz34_0 := blk_frozen BK314.out 0
       have hfz34_1 := blk_frozen BK314.out 1
       have hfz34_2 := blk_frozen BK314.out 2
       have hfz34_3 := blk_frozen BK314.out 3
       have hfz34_4 := blk_frozen BK314.out 4
       go_wp2
       repeat (go_quiet (fail); try go_wp2)
       go_meet
       case rel => exact ⟨_, (false), (by first | rfl | (simp; done) | (simp [*]; done)), H', ⟨by have := HJ4.out; first | omega | exact Nat.le_refl _⟩, ⟨by exact bF BK314.out⟩, ⟨by exact bF BK315.out⟩, ⟨by repeat (first | (with_reducible first | exact HB.out | apply bA | apply bN | apply bD | refine bS ?_ GE314.out | refine bS ?_ GE315.out) | exact HB.out)⟩⟩
     ·rw [if_neg c28] at H
      have c28b0 : (a2_0 == 2) = false := beq_eq_false_iff_ne.mpr c28
      have c28b1 : (a2_0 != 2) = true := bne_iff_ne.mpr c28
      (first | rw [c28b0] | (simp only [i64_w, i32_w]; rw [c28b0]) | skip)
      have H' := Aside0.mk H
      clear H
      have hnb35 := NB314_315.out
      have hnc35 := NB315_314.out
      have hcz36_0 : wc.cell? ⟨gb314, 0, none⟩ = some (.int .i64 a2_0) := (blk_cell BK314.out 0).trans rfl
      have hcz36_1 : wc.cell? ⟨gb314, 1, none⟩ = some (.int .i64 a2_1) := (blk_cell BK314.out 1).trans rfl
      have hcz36_2 : wc.cell? ⟨gb314, 2, none⟩ = some (.int .i64 a2_2) := (blk_cell BK314.out 2).trans rfl
      have hcz36_3 : wc.cell? ⟨gb314, 3, none⟩ = some (.int .u64 a2_3) := (blk_cell BK314.out 3).trans rfl
      have hcz36_4 : wc.cell? ⟨gb314, 4, none⟩ = some (.int .u64 a2_4) := (blk_cell BK314.out 4).trans rfl
      have hfz36_0 := blk_frozen BK314.out 0
      have hfz36_1 := blk_frozen BK314.out 1
      have hfz36_2 := blk_frozen BK314.out 2
      have hfz36_3 := blk_frozen BK314.out 3
      have hfz36_4 := blk_frozen BK314.out 4
      go_wp2
      repeat (go_quiet (fail); try go_wp2)
      go_meet
      case rel => exact ⟨_, (false), (by first | rfl | (simp; done) | (simp [*]; done)), H', ⟨by have := HJ4.out; first | omega | exact Nat.le_refl _⟩, ⟨by exact bF BK314.out⟩, ⟨by exact bF BK315.out⟩, ⟨by repeat (first | (with_reducible first | exact HB.out | apply bA | apply bN | apply bD | refine bS ?_ GE314.out | refine bS ?_ GE315.out) | exact HB.out)⟩⟩
    case rest =>
     clear HC27
     try clear c1
     try clear c2
     try clear p2
     try clear c3
     try clear c8
     try clear c10
     try clear c10b0
     try clear c10b1
     try clear c11
     try clear c11b0
     try clear c11b1
     try clear c12
     try clear c14
     try clear c16
     try clear c18
     try clear c20
     try clear c21
     try clear c24
     try clear c28
     try clear c28b0
     try clear c28b1
     try clear c29
     try clear c29b0
     try clear c29b1
     try clear c30
     try clear c33
     try clear c35
     try clear hcz13_0
     try clear hcz13_1
     try clear hcz13_2
     try clear hcz13_3
     try clear hcz13_4
     try clear hcz15_0
     try clear hcz15_1
     try clear hcz15_2
     try clear hcz15_3
     try clear hcz15_4
     try clear hcz17_0
     try clear hcz17_1
     try clear hcz17_2
     try clear hcz17_3
     try clear hcz17_4
     try clear hcz22_0
     try clear hcz22_1
     try clear hcz22_2
     try clear hcz22_3
     try clear hcz22_4
     try clear hcz25_0
     try clear hcz25_1
     try clear hcz25_2
     try clear hcz25_3
     try clear hcz25_4
     try clear hcz31_0
     try clear hcz31_1
     try clear hcz31_2
     try clear hcz31_3
     try clear hcz31_4
     try clear hcz32_0
     try clear hcz32_1
     try clear hcz34_0
     try clear hcz34_1
     try clear hcz34_2
     try clear hcz34_3
     try clear hcz34_4
     try clear hcz36_0
     try clear hcz36_1
     try clear hcz36_2
     try clear hcz36_3
     try clear hcz36_4
     try clear hcz9_0
     try clear hcz9_1
     try clear hfz13_0
     try clear hfz13_1
     try clear hfz13_2
     try clear hfz13_3
     try clear hfz13_4
     try clear hfz15_0
     try clear hfz15_1
     try clear hfz15_2
     try clear hfz15_3
     try clear hfz15_4
     try clear hfz17_0
     try clear hfz17_1
     try clear hfz17_2
     try clear hfz17_3
     try clear hfz17_4
     try clear hfz22_0
     try clear hfz22_1
     try clear hfz22_2
     try clear hfz22_3
     try clear hfz22_4
     try clear hfz25_0
     try clear hfz25_1
     try clear hfz25_2
     try clear hfz25_3
     try clear hfz25_4
     try clear hfz31_0
     try clear hfz31_1
     try clear hfz31_2
     try clear hfz31_3
     try clear hfz31_4
     try clear hfz32_0
     try clear hfz32_1
     try clear hfz34_0
     try clear hfz34_1
     try clear hfz34_2
     try clear hfz34_3
     try clear hfz34_4
     try clear hfz36_0
     try clear hfz36_1
     try clear hfz36_2
     try clear hfz36_3
     try clear hfz36_4
     try clear hfz9_0
     try clear hfz9_1
     try clear p2
     obtain ⟨kq, x31_26, rfl, HA, HJ26, BK314, BK315, HB⟩ := hcut
     cases kq with
     | zero => exact absurd HA.out (by simp [expr_step.j1])
     | succ kj26 =>
      have H := HA.out
      clear HA
      simp only [expr_step.j1] at H
      by_cases c37 : x31_26 = true
      ·subst c37
       have H1 : (if a2_1 < 0 then (some (0, 4)) else (if a2_1 ≥ a1 then (some (0, 4)) else (some (1, 0)))) = some (r1, r2) := by rw [if_pos rfl] at H; exact H
       clear H
       have H := H1
       clear H1
       by_cases c38 : a2_1 < 0
       ·rw [if_pos c38] at H
        have c38b0 : decide (a2_1 < 0) = true := decide_eq_true c38
        clear c38
        simp only [Option.some.injEq, Prod.mk.injEq] at H
        obtain ⟨rfl, rfl⟩ := H
        have hnb39 := NB314_315.out
        have hnc39 := NB315_314.out
        have hcz40_0 : wc.cell? ⟨gb314, 0, none⟩ = some (.int .i64 a2_0) := (blk_cell BK314.out 0).trans rfl
        have hcz40_1 : wc.cell? ⟨gb314, 1, none⟩ = some (.int .i64 a2_1) := (blk_cell BK314.out 1).trans rfl
        have hcz40_2 : wc.cell? ⟨gb314, 2, none⟩ = some (.int .i64 a2_2) := (blk_cell BK314.out 2).trans rfl
        have hcz40_3 : wc.cell? ⟨gb314, 3, none⟩ = some (.int .u64 a2_3) := (blk_cell BK314.out 3).trans rfl
        have hcz40_4 : wc.cell? ⟨gb314, 4, none⟩ = some (.int .u64 a2_4) := (blk_cell BK314.out 4).trans rfl
        have hfz40_0 := blk_frozen BK314.out 0
        have hfz40_1 := blk_frozen BK314.out 1
        have hfz40_2 := blk_frozen BK314.out 2
        have hfz40_3 := blk_frozen BK314.out 3
        have hfz40_4 := blk_frozen BK314.out 4
        go_wp2
        repeat (go_quiet (fail); try go_wp2)
        go_ret2
        exact ⟨by first | rfl | (simp [errW_none, errW_some] <;> rfl) | (simp [*, errW_none, errW_some] <;> rfl), by repeat (first | (with_reducible first | exact HB.out | apply bA | apply bN | apply bD | refine bS ?_ GE314.out | refine bS ?_ GE315.out) | exact HB.out)⟩
       ·rw [if_neg c38] at H
        have c38b0 : decide (a2_1 < 0) = false := decide_eq_false c38
        clear c38
        by_cases c41 : a2_1 ≥ a1
        ·rw [if_pos c41] at H
         have c41b0 : decide (a1 ≤ a2_1) = true := decide_eq_true c41
         clear c41
         simp only [Option.some.injEq, Prod.mk.injEq] at H
         obtain ⟨rfl, rfl⟩ := H
         have hnb42 := NB314_315.out
         have hnc42 := NB315_314.out
         have hcz43_0 : wc.cell? ⟨gb314, 0, none⟩ = some (.int .i64 a2_0) := (blk_cell BK314.out 0).trans rfl
         have hcz43_1 : wc.cell? ⟨gb314, 1, none⟩ = some (.int .i64 a2_1) := (blk_cell BK314.out 1).trans rfl
         have hcz43_2 : wc.cell? ⟨gb314, 2, none⟩ = some (.int .i64 a2_2) := (blk_cell BK314.out 2).trans rfl
         have hcz43_3 : wc.cell? ⟨gb314, 3, none⟩ = some (.int .u64 a2_3) := (blk_cell BK314.out 3).trans rfl
         have hcz43_4 : wc.cell? ⟨gb314, 4, none⟩ = some (.int .u64 a2_4) := (blk_cell BK314.out 4).trans rfl
         have hfz43_0 := blk_frozen BK314.out 0
         have hfz43_1 := blk_frozen BK314.out 1
         have hfz43_2 := blk_frozen BK314.out 2
         have hfz43_3 := blk_frozen BK314.out 3
         have hfz43_4 := blk_frozen BK314.out 4
         go_wp2
         repeat (go_quiet (fail); try go_wp2)
         go_ret2
         exact ⟨by first | rfl | (simp [errW_none, errW_some] <;> rfl) | (simp [*, errW_none, errW_some] <;> rfl), by repeat (first | (with_reducible first | exact HB.out | apply bA | apply bN | apply bD | refine bS ?_ GE314.out | refine bS ?_ GE315.out) | exact HB.out)⟩
        ·rw [if_neg c41] at H
         have c41b0 : decide (a1 ≤ a2_1) = false := decide_eq_false c41
         clear c41
         simp only [Option.some.injEq, Prod.mk.injEq] at H
         obtain ⟨rfl, rfl⟩ := H
         have hnb44 := NB314_315.out
         have hnc44 := NB315_314.out
         have hcz45_0 : wc.cell? ⟨gb314, 0, none⟩ = some (.int .i64 a2_0) := (blk_cell BK314.out 0).trans rfl
         have hcz45_1 : wc.cell? ⟨gb314, 1, none⟩ = some (.int .i64 a2_1) := (blk_cell BK314.out 1).trans rfl
         have hcz45_2 : wc.cell? ⟨gb314, 2, none⟩ = some (.int .i64 a2_2) := (blk_cell BK314.out 2).trans rfl
         have hcz45_3 : wc.cell? ⟨gb314, 3, none⟩ = some (.int .u64 a2_3) := (blk_cell BK314.out 3).trans rfl
         have hcz45_4 : wc.cell? ⟨gb314, 4, none⟩ = some (.int .u64 a2_4) := (blk_cell BK314.out 4).trans rfl
         have hfz45_0 := blk_frozen BK314.out 0
         have hfz45_1 := blk_frozen BK314.out 1
         have hfz45_2 := blk_frozen BK314.out 2
         have hfz45_3 := blk_frozen BK314.out 3
         have hfz45_4 := blk_frozen BK314.out 4
         go_wp2
         repeat (go_quiet (fail); try go_wp2)
         go_ret2
         exact ⟨by first | rfl | (simp [errW_none, errW_some] <;> rfl) | (simp [*, errW_none, errW_some] <;> rfl), by repeat (first | (with_reducible first | exact HB.out | apply bA | apply bN | apply bD | refine bS ?_ GE314.out | refine bS ?_ GE315.out) | exact HB.out)⟩
      ·replace c37 := Bool.eq_false_iff.mpr c37
       subst c37
       have H1 : (if a2_0 = 3 then (if (a2_3 == 0 && (a2_4 == 0)) = true then ((expr_ahead.f a2_0 a2_1 a2_2 a2_3 a2_4 (l3.length : Int)).bind fun t317 => (expr_step.j2 kj26 l3 t317 a2_0 a2_1 a2_2 a2_3 a2_4 0 0)) else (expr_step.j2 kj26 l3 false a2_0 a2_1 a2_2 a2_3 a2_4 0 0)) else (expr_step.j2 kj26 l3 false a2_0 a2_1 a2_2 a2_3 a2_4 0 0)) = some (r1, r2) := by rw [if_neg (show ¬ (false = true) by decide)] at H; exact H
       clear H
       have H := H1
       clear H1
       have HC46 := Aside0.mk H
       clear H
       go_upto_region 10 with (fail)
       repeat (go_quiet (fail); go_upto_region 10 with (fail))
       go_cut [55] (fun v55 wc => ∃ (kq : Nat) (x55_45 : Bool), v55 = .bool x55_45 ∧ Aside0 (expr_step.j2 kq l3 x55_45 a2_0 a2_1 a2_2 a2_3 a2_4 0 0 = some (r1, r2)) ∧ Aside0 (kq ≤ kj26) ∧ Aside0 (wc.heap[gb314]? = some (.cells #[.int .i64 a2_0, .int .i64 a2_1, .int .i64 a2_2, .int .u64 a2_3, .int .u64 a2_4] 149 (0, 0))) ∧ Aside0 (wc.heap[gb315]? = some (.cells #[.int .u64 0, .int .u64 0] 28 (0, 0))) ∧ Aside0 (Below w.heap.size w wc))
       case first =>
        have H := HC46.out
        clear HC46
        by_cases c47 : a2_0 = 3
        ·rw [if_pos c47] at H
         have c47b0 : (a2_0 == 3) = true := beq_iff_eq.mpr c47
         have c47b1 : (a2_0 != 3) = false := bne_eq_false_iff_eq.mpr c47
         clear c47
         (first | rw [c47b0] | (simp only [i64_w, i32_w]; rw [c47b0]) | skip)
         by_cases c48 : (a2_3 == 0 && (a2_4 == 0)) = true
         ·rw [if_pos c48] at H
          have c48b0 : (a2_3 == 0 && (a2_4 == 0)) = true := c48
          (try (have c48b1 : decide (a2_3 = 0 && (a2_4 == 0)) = true := by simpa using c48))
          (try (have c48b2 : (a2_3 == 0 && (a2_4 == 0)) = true := by simpa using c48))
          clear c48
          replace H := Option.bind_eq_some_iff.mp H
          obtain ⟨t317, A490, H⟩ := H
          replace H : (expr_step.j2 kj26 l3 t317 a2_0 a2_1 a2_2 a2_3 a2_4 0 0) = some (r1, r2) := H
          have A49 := Aside0.mk A490
          clear A490
          have H' := Aside0.mk H
          clear H
          have hnb50 := NB314_315.out
          have hnc50 := NB315_314.out
          have hcz51_0 : wc.cell? ⟨gb314, 0, none⟩ = some (.int .i64 a2_0) := (blk_cell BK314.out 0).trans rfl
          have hcz51_1 : wc.cell? ⟨gb314, 1, none⟩ = some (.int .i64 a2_1) := (blk_cell BK314.out 1).trans rfl
          have hcz51_2 : wc.cell? ⟨gb314, 2, none⟩ = some (.int .i64 a2_2) := (blk_cell BK314.out 2).trans rfl
          have hcz51_3 : wc.cell? ⟨gb314, 3, none⟩ = some (.int .u64 a2_3) := (blk_cell BK314.out 3).trans rfl
          have hcz51_4 : wc.cell? ⟨gb314, 4, none⟩ = some (.int .u64 a2_4) := (blk_cell BK314.out 4).trans rfl
          have hfz51_0 := blk_frozen BK314.out 0
          have hfz51_1 := blk_frozen BK314.out 1
          have hfz51_2 := blk_frozen BK314.out 2
          have hfz51_3 := blk_frozen BK314.out 3
          have hfz51_4 := blk_frozen BK314.out 4
          have hcz52_0 : wc.cell? ⟨gb315, 0, none⟩ = some (.int .u64 0) := (blk_cell BK315.out 0).trans rfl
          have hcz52_1 : wc.cell? ⟨gb315, 1, none⟩ = some (.int .u64 0) := (blk_cell BK315.out 1).trans rfl
          have hfz52_0 := blk_frozen BK315.out 0
          have hfz52_1 := blk_frozen BK315.out 1
          go_wp2_with (first | (go_at_call 175; (with_reducible refine (expr_ahead.calls a2_0 a2_1 a2_2 a2_3 a2_4 (l3.length : Int) t317 _ A49.out).mono ?_); rintro e w53 ⟨rfl, hb⟩; have n0_ := Aside0.mk (blk_below (g := gb314) (o := .cells #[.int .i64 a2_0, .int .i64 a2_1, .int .i64 a2_2, .int .u64 a2_3, .int .u64 a2_4] 149 (0, 0)) (by exact bF BK314.out) hb); have n1_ := Aside0.mk (blk_below (g := gb315) (o := .cells #[.int .u64 0, .int .u64 0] 28 (0, 0)) (by exact bF BK315.out) hb); have n2_ := Aside0.mk (below_step (by repeat (first | (with_reducible first | exact HB.out | apply bA | apply bN | apply bD | refine bS ?_ GE314.out | refine bS ?_ GE315.out) | exact HB.out)) hb); clear BK314; clear BK315; clear HB; have BK314 := n0_; have BK315 := n1_; have HB := n2_; clear n0_ n1_ n2_; (try clear hb); (try clear hb2); (try clear hk); (try clear hi)))
          repeat (go_quiet (first | (go_at_call 175; (with_reducible refine (expr_ahead.calls a2_0 a2_1 a2_2 a2_3 a2_4 (l3.length : Int) t317 _ A49.out).mono ?_); rintro e w53 ⟨rfl, hb⟩; have n0_ := Aside0.mk (blk_below (g := gb314) (o := .cells #[.int .i64 a2_0, .int .i64 a2_1, .int .i64 a2_2, .int .u64 a2_3, .int .u64 a2_4] 149 (0, 0)) (by exact bF BK314.out) hb); have n1_ := Aside0.mk (blk_below (g := gb315) (o := .cells #[.int .u64 0, .int .u64 0] 28 (0, 0)) (by exact bF BK315.out) hb); have n2_ := Aside0.mk (below_step (by repeat (first | (with_reducible first | exact HB.out | apply bA | apply bN | apply bD | refine bS ?_ GE314.out | refine bS ?_ GE315.out) | exact HB.out)) hb); clear BK314; clear BK315; clear HB; have BK314 := n0_; have BK315 := n1_; have HB := n2_; clear n0_ n1_ n2_; (try clear hb); (try clear hb2); (try clear hk); (try clear hi))); try go_wp2_with (first | (go_at_call 175; (with_reducible refine (expr_ahead.calls a2_0 a2_1 a2_2 a2_3 a2_4 (l3.length : Int) t317 _ A49.out).mono ?_); rintro e w53 ⟨rfl, hb⟩; have n0_ := Aside0.mk (blk_below (g := gb314) (o := .cells #[.int .i64 a2_0, .int .i64 a2_1, .int .i64 a2_2, .int .u64 a2_3, .int .u64 a2_4] 149 (0, 0)) (by exact bF BK314.out) hb); have n1_ := Aside0.mk (blk_below (g := gb315) (o := .cells #[.int .u64 0, .int .u64 0] 28 (0, 0)) (by exact bF BK315.out) hb); have n2_ := Aside0.mk (below_step (by repeat (first | (with_reducible first | exact HB.out | apply bA | apply bN | apply bD | refine bS ?_ GE314.out | refine bS ?_ GE315.out) | exact HB.out)) hb); clear BK314; clear BK315; clear HB; have BK314 := n0_; have BK315 := n1_; have HB := n2_; clear n0_ n1_ n2_; (try clear hb); (try clear hb2); (try clear hk); (try clear hi))))
          go_meet
          case rel => exact ⟨_, (t317), (by first | rfl | (simp; done) | (simp [*]; done)), H', ⟨by have := HJ4.out; have := HJ26.out; first | omega | exact Nat.le_refl _⟩, ⟨by exact bF BK314.out⟩, ⟨by exact bF BK315.out⟩, ⟨by repeat (first | (with_reducible first | exact HB.out | apply bA | apply bN | apply bD | refine bS ?_ GE314.out | refine bS ?_ GE315.out) | exact HB.out)⟩⟩
         ·rw [if_neg c48] at H
          have c48b0 : (a2_3 == 0 && (a2_4 == 0)) = false := by simpa using c48
          (try (have c48b1 : decide (a2_3 = 0 && (a2_4 == 0)) = false := by simpa using c48))
          (try (have c48b2 : (a2_3 == 0 && (a2_4 == 0)) = false := by simpa using c48))
          (try (have c48b3 : ¬ (a2_3 = 0 && (a2_4 == 0)) := by simpa using c48))
          clear c48
          have H' := Aside0.mk H
          clear H
          have hnb54 := NB314_315.out
          have hnc54 := NB315_314.out
          have hcz55_0 : wc.cell? ⟨gb314, 0, none⟩ = some (.int .i64 a2_0) := (blk_cell BK314.out 0).trans rfl
          have hcz55_1 : wc.cell? ⟨gb314, 1, none⟩ = some (.int .i64 a2_1) := (blk_cell BK314.out 1).trans rfl
          have hcz55_2 : wc.cell? ⟨gb314, 2, none⟩ = some (.int .i64 a2_2) := (blk_cell BK314.out 2).trans rfl
          have hcz55_3 : wc.cell? ⟨gb314, 3, none⟩ = some (.int .u64 a2_3) := (blk_cell BK314.out 3).trans rfl
          have hcz55_4 : wc.cell? ⟨gb314, 4, none⟩ = some (.int .u64 a2_4) := (blk_cell BK314.out 4).trans rfl
          have hfz55_0 := blk_frozen BK314.out 0
          have hfz55_1 := blk_frozen BK314.out 1
          have hfz55_2 := blk_frozen BK314.out 2
          have hfz55_3 := blk_frozen BK314.out 3
          have hfz55_4 := blk_frozen BK314.out 4
          have hcz56_0 : wc.cell? ⟨gb315, 0, none⟩ = some (.int .u64 0) := (blk_cell BK315.out 0).trans rfl
          have hcz56_1 : wc.cell? ⟨gb315, 1, none⟩ = some (.int .u64 0) := (blk_cell BK315.out 1).trans rfl
          have hfz56_0 := blk_frozen BK315.out 0
          have hfz56_1 := blk_frozen BK315.out 1
          go_wp2
          repeat (go_quiet (fail); try go_wp2)
          go_meet
          case rel => exact ⟨_, (false), (by first | rfl | (simp; done) | (simp [*]; done)), H', ⟨by have := HJ4.out; have := HJ26.out; first | omega | exact Nat.le_refl _⟩, ⟨by exact bF BK314.out⟩, ⟨by exact bF BK315.out⟩, ⟨by repeat (first | (with_reducible first | exact HB.out | apply bA | apply bN | apply bD | refine bS ?_ GE314.out | refine bS ?_ GE315.out) | exact HB.out)⟩⟩
        ·rw [if_neg c47] at H
         have c47b0 : (a2_0 == 3) = false := beq_eq_false_iff_ne.mpr c47
         have c47b1 : (a2_0 != 3) = true := bne_iff_ne.mpr c47
         (first | rw [c47b0] | (simp only [i64_w, i32_w]; rw [c47b0]) | skip)
         have H' := Aside0.mk H
         clear H
         have hnb57 := NB314_315.out
         have hnc57 := NB315_314.out
         have hcz58_0 : wc.cell? ⟨gb314, 0, none⟩ = some (.int .i64 a2_0) := (blk_cell BK314.out 0).trans rfl
         have hcz58_1 : wc.cell? ⟨gb314, 1, none⟩ = some (.int .i64 a2_1) := (blk_cell BK314.out 1).trans rfl
         have hcz58_2 : wc.cell? ⟨gb314, 2, none⟩ = some (.int .i64 a2_2) := (blk_cell BK314.out 2).trans rfl
         have hcz58_3 : wc.cell? ⟨gb314, 3, none⟩ = some (.int .u64 a2_3) := (blk_cell BK314.out 3).trans rfl
         have hcz58_4 : wc.cell? ⟨gb314, 4, none⟩ = some (.int .u64 a2_4) := (blk_cell BK314.out 4).trans rfl
         have hfz58_0 := blk_frozen BK314.out 0
         have hfz58_1 := blk_frozen BK314.out 1
         have hfz58_2 := blk_frozen BK314.out 2
         have hfz58_3 := blk_frozen BK314.out 3
         have hfz58_4 := blk_frozen BK314.out 4
         go_wp2
         repeat (go_quiet (fail); try go_wp2)
         go_meet
         case rel => exact ⟨_, (false), (by first | rfl | (simp; done) | (simp [*]; done)), H', ⟨by have := HJ4.out; have := HJ26.out; first | omega | exact Nat.le_refl _⟩, ⟨by exact bF BK314.out⟩, ⟨by exact bF BK315.out⟩, ⟨by repeat (first | (with_reducible first | exact HB.out | apply bA | apply bN | apply bD | refine bS ?_ GE314.out | refine bS ?_ GE315.out) | exact HB.out)⟩⟩
       case rest =>
        clear HC46
        try clear c1
        try clear c2
        try clear p2
        try clear c3
        try clear c4
        try clear c5
        try clear c8
        try clear c10
        try clear c10b0
        try clear c10b1
        try clear c11
        try clear c11b0
        try clear c11b1
        try clear c12
        try clear c14
        try clear c16
        try clear c18
        try clear c20
        try clear c21
        try clear c24
        try clear c28
        try clear c28b0
        try clear c28b1
        try clear c29
        try clear c29b0
        try clear c29b1
        try clear c30
        try clear c33
        try clear c35
        try clear c37
        try clear c38
        try clear c38b0
        try clear c39
        try clear c41
        try clear c41b0
        try clear c42
        try clear c44
        try clear c47
        try clear c47b0
        try clear c47b1
        try clear c48
        try clear c48b0
        try clear c48b1
        try clear c48b2
        try clear c50
        try clear c54
        try clear c57
        try clear hcz13_0
        try clear hcz13_1
        try clear hcz13_2
        try clear hcz13_3
        try clear hcz13_4
        try clear hcz15_0
        try clear hcz15_1
        try clear hcz15_2
        try clear hcz15_3
        try clear hcz15_4
        try clear hcz17_0
        try clear hcz17_1
        try clear hcz17_2
        try clear hcz17_3
        try clear hcz17_4
        try clear hcz22_0
        try clear hcz22_1
        try clear hcz22_2
        try clear hcz22_3
        try clear hcz22_4
        try clear hcz25_0
        try clear hcz25_1
        try clear hcz25_2
        try clear hcz25_3
        try clear hcz25_4
        try clear hcz31_0
        try clear hcz31_1
        try clear hcz31_2
        try clear hcz31_3
        try clear hcz31_4
        try clear hcz32_0
        try clear hcz32_1
        try clear hcz34_0
        try clear hcz34_1
        try clear hcz34_2
        try clear hcz34_3
        try clear hcz34_4
        try clear hcz36_0
        try clear hcz36_1
        try clear hcz36_2
        try clear hcz36_3
        try clear hcz36_4
        try clear hcz40_0
        try clear hcz40_1
        try clear hcz40_2
        try clear hcz40_3
        try clear hcz40_4
        try clear hcz43_0
        try clear hcz43_1
        try clear hcz43_2
        try clear hcz43_3
        try clear hcz43_4
        try clear hcz45_0
        try clear hcz45_1
        try clear hcz45_2
        try clear hcz45_3
        try clear hcz45_4
        try clear hcz51_0
        try clear hcz51_1
        try clear hcz51_2
        try clear hcz51_3
        try clear hcz51_4
        try clear hcz52_0
        try clear hcz52_1
        try clear hcz55_0
        try clear hcz55_1
        try clear hcz55_2
        try clear hcz55_3
        try clear hcz55_4
        try clear hcz56_0
        try clear hcz56_1
        try clear hcz58_0
        try clear hcz58_1
        try clear hcz58_2
        try clear hcz58_3
        try clear hcz58_4
        try clear hcz9_0
        try clear hcz9_1
        try clear hfz13_0
        try clear hfz13_1
        try clear hfz13_2
        try clear hfz13_3
        try clear hfz13_4
        try clear hfz15_0
        try clear hfz15_1
        try clear hfz15_2
        try clear hfz15_3
        try clear hfz15_4
        try clear hfz17_0
        try clear hfz17_1
        try clear hfz17_2
        try clear hfz17_3
        try clear hfz17_4
        try clear hfz22_0
        try clear hfz22_1
        try clear hfz22_2
        try clear hfz22_3
        try clear hfz22_4
        try clear hfz25_0
        try clear hfz25_1
        try clear hfz25_2
        try clear hfz25_3
        try clear hfz25_4
        try clear hfz31_0
        try clear hfz31_1
        try clear hfz31_2
        try clear hfz31_3
        try clear hfz31_4
        try clear hfz32_0
        try clear hfz32_1
        try clear hfz34_0
        try clear hfz34_1
        try clear hfz34_2
        try clear hfz34_3
        try clear hfz34_4
        try clear hfz36_0
        try clear hfz36_1
        try clear hfz36_2
        try clear hfz36_3
        try clear hfz36_4
        try clear hfz40_0
        try clear hfz40_1
        try clear hfz40_2
        try clear hfz40_3
        try clear hfz40_4
        try clear hfz43_0
        try clear hfz43_1
        try clear hfz43_2
        try clear hfz43_3
        try clear hfz43_4
        try clear hfz45_0
        try clear hfz45_1
        try clear hfz45_2
        try clear hfz45_3
        try clear hfz45_4
        try clear hfz51_0
        try clear hfz51_1
        try clear hfz51_2
        try clear hfz51_3
        try clear hfz51_4
        try clear hfz52_0
        try clear hfz52_1
        try clear hfz55_0
        try clear hfz55_1
        try clear hfz55_2
        try clear hfz55_3
        try clear hfz55_4
        try clear hfz56_0
        try clear hfz56_1
        try clear hfz58_0
        try clear hfz58_1
        try clear hfz58_2
        try clear hfz58_3
        try clear hfz58_4
        try clear hfz9_0
        try clear hfz9_1
        try clear p2
        obtain ⟨kq, x55_45, rfl, HA, HJ45, BK314, BK315, HB⟩ := hcut
        cases kq with
        | zero => exact absurd HA.out (by simp [expr_step.j2])
        | succ kj45 =>
         have H := HA.out
         clear HA
         simp only [expr_step.j2] at H
         by_cases c59 : x55_45 = true
         ·subst c59
          have H1 : (if 0 ≤ a2_1 then (if a2_1 < (l3.length : Int) then (if 0 ≤ a2_2 then (if a2_2 < (l3.length : Int) then (some (mx (rd l3 a2_1) (rd l3 a2_2), 0)) else (none)) else (none)) else (none)) else (none)) = some (r1, r2) := by rw [if_pos rfl] at H; exact H
          clear H
          have H := H1
          clear H1
          by_cases c60 : 0 ≤ a2_1
          ·rw [if_pos c60] at H
           have c60b0 : decide (0 ≤ a2_1) = true := decide_eq_true c60
           clear c60
           by_cases c61 : a2_1 < (l3.length : Int)
           ·rw [if_pos c61] at H
            have c61b0 : decide (a2_1 < (l3.length : Int)) = true := decide_eq_true c61
            clear c61
            by_cases c62 : 0 ≤ a2_2
            ·rw [if_pos c62] at H
             have c62b0 : decide (0 ≤ a2_2) = true := decide_eq_true c62
             clear c62
             by_cases c63 : a2_2 < (l3.length : Int)
             ·rw [if_pos c63] at H
              have c63b0 : decide (a2_2 < (l3.length : Int)) = true := decide_eq_true c63
              clear c63
              obtain ⟨ji64, hji64⟩ : ∃ j_ : Int, (mx (rd l3 a2_1) (rd l3 a2_2)) = j_ := ⟨_, rfl⟩
              replace H : (some (ji64, 0)) = some (r1, r2) := by first | (rw [hji64] at H; exact H) | (simp only [hji64] at H ⊢; exact H)
              have hji64_ : (if (rd l3 a2_1) < (rd l3 a2_2) then (rd l3 a2_2) else (rd l3 a2_1)) = ji64 := hji64
              simp only [Option.some.injEq, Prod.mk.injEq] at H
              obtain ⟨rfl, rfl⟩ := H
              have hnb65 := NB314_315.out
              have hnc65 := NB315_314.out
              have hcz66_0 : wc.cell? ⟨gb314, 0, none⟩ = some (.int .i64 a2_0) := (blk_cell BK314.out 0).trans rfl
              have hcz66_1 : wc.cell? ⟨gb314, 1, none⟩ = some (.int .i64 a2_1) := (blk_cell BK314.out 1).trans rfl
              have hcz66_2 : wc.cell? ⟨gb314, 2, none⟩ = some (.int .i64 a2_2) := (blk_cell BK314.out 2).trans rfl
              have hcz66_3 : wc.cell? ⟨gb314, 3, none⟩ = some (.int .u64 a2_3) := (blk_cell BK314.out 3).trans rfl
              have hcz66_4 : wc.cell? ⟨gb314, 4, none⟩ = some (.int .u64 a2_4) := (blk_cell BK314.out 4).trans rfl
              have hfz66_0 := blk_frozen BK314.out 0
              have hfz66_1 := blk_frozen BK314.out 1
              have hfz66_2 := blk_frozen BK314.out 2
              have hfz66_3 := blk_frozen BK314.out 3
              have hfz66_4 := blk_frozen BK314.out 4
              have p318 : 0 ≤ (a2_1 : Int) := of_decide_eq_true (by first | (with_reducible assumption) | assumption)
              have q318 : a2_1 < (l3.length : Int) := of_decide_eq_true (by first | (with_reducible assumption) | assumption)
              obtain ⟨ad318, e318, hx318_0⟩ := Kd.at_int HR3.out a2_1 p318 q318
              cases e318
              replace hx318_0 := (HB.out.cell (World.block_lt_of_cell? w _ hx318_0)).trans hx318_0
              replace p318 := eq_true p318
              replace q318 := eq_true q318
              have p319 : 0 ≤ (a2_2 : Int) := of_decide_eq_true (by first | (with_reducible assumption) | assumption)
              have q319 : a2_2 < (l3.length : Int) := of_decide_eq_true (by first | (with_reducible assumption) | assumption)
              obtain ⟨ad319, e319, hx319_0⟩ := Kd.at_int HR3.out a2_2 p319 q319
              obtain rfl : ad318 = ad319 := (by injection e319)
              replace hx319_0 := (HB.out.cell (World.block_lt_of_cell? w _ hx319_0)).trans hx319_0
              replace p319 := eq_true p319
              replace q319 := eq_true q319
              go_wp2
              repeat (go_quiet (fail); try go_wp2)
              go_ret2
              exact ⟨by first | rfl | (simp [errW_none, errW_some] <;> rfl) | (simp only [← hji64]; first | rfl | (simp [errW_none, errW_some] <;> rfl)) | (simp [*, errW_none, errW_some] <;> rfl), by repeat (first | (with_reducible first | exact HB.out | apply bA | apply bN | apply bD | refine bS ?_ GE314.out | refine bS ?_ GE315.out) | exact HB.out)⟩
             ·rw [if_neg c63] at H
              exact absurd H (by simp)
            ·rw [if_neg c62] at H
             exact absurd H (by simp)
           ·rw [if_neg c61] at H
            exact absurd H (by simp)
          ·rw [if_neg c60] at H
           exact absurd H (by simp)
         ·replace c59 := Bool.eq_false_iff.mpr c59
          subst c59
          have H1 : (if a2_0 = 4 then (if (a2_3 == 0 && (a2_4 == 0)) = true then ((expr_ahead.f a2_0 a2_1 a2_2 a2_3 a2_4 (l3.length : Int)).bind fun t320 => (if t320 = true then (if 0 ≤ a2_1 then (if a2_1 < (l3.length : Int) then (if 0 ≤ a2_2 then (if a2_2 < (l3.length : Int) then (some (wrap64 ((rd l3 a2_1) + (rd l3 a2_2)), 0)) else (none)) else (none)) else (none)) else (none)) else (some (0, 3)))) else (some (0, 3))) else (some (0, 3))) = some (r1, r2) := by rw [if_neg (show ¬ (false = true) by decide)] at H; exact H
          clear H
          have H := H1
          clear H1
          by_cases c67 : a2_0 = 4
          ·rw [if_pos c67] at H
           have c67b0 : (a2_0 == 4) = true := beq_iff_eq.mpr c67
           have c67b1 : (a2_0 != 4) = false := bne_eq_false_iff_eq.mpr c67
           clear c67
           by_cases c68 : (a2_3 == 0 && (a2_4 == 0)) = true
           ·rw [if_pos c68] at H
            have c68b0 : (a2_3 == 0 && (a2_4 == 0)) = true := c68
            (try (have c68b1 : decide (a2_3 = 0 && (a2_4 == 0)) = true := by simpa using c68))
            (try (have c68b2 : (a2_3 == 0 && (a2_4 == 0)) = true := by simpa using c68))
            clear c68
            replace H := Option.bind_eq_some_iff.mp H
            obtain ⟨t320, A690, H⟩ := H
            replace H : (if t320 = true then (if 0 ≤ a2_1 then (if a2_1 < (l3.length : Int) then (if 0 ≤ a2_2 then (if a2_2 < (l3.length : Int) then (some (wrap64 ((rd l3 a2_1) + (rd l3 a2_2)), 0)) else (none)) else (none)) else (none)) else (none)) else (some (0, 3))) = some (r1, r2) := H
            have A69 := Aside0.mk A690
            clear A690
            by_cases c70 : t320 = true
            ·subst c70
             have H1 : (if 0 ≤ a2_1 then (if a2_1 < (l3.length : Int) then (if 0 ≤ a2_2 then (if a2_2 < (l3.length : Int) then (some (wrap64 ((rd l3 a2_1) + (rd l3 a2_2)), 0)) else (none)) else (none)) else (none)) else (none)) = some (r1, r2) := by rw [if_pos rfl] at H; exact H
             clear H
             have H := H1
             clear H1
             by_cases c71 : 0 ≤ a2_1
             ·rw [if_pos c71] at H
              have c71b0 : decide (0 ≤ a2_1) = true := decide_eq_true c71
              clear c71
              by_cases c72 : a2_1 < (l3.length : Int)
              ·rw [if_pos c72] at H
               have c72b0 : decide (a2_1 < (l3.length : Int)) = true := decide_eq_true c72
               clear c72
               by_cases c73 : 0 ≤ a2_2
               ·rw [if_pos c73] at H
                have c73b0 : decide (0 ≤ a2_2) = true := decide_eq_true c73
                clear c73
                by_cases c74 : a2_2 < (l3.length : Int)
                ·rw [if_pos c74] at H
                 have c74b0 : decide (a2_2 < (l3.length : Int)) = true := decide_eq_true c74
                 clear c74
                 simp only [Option.some.injEq, Prod.mk.injEq] at H
                 obtain ⟨rfl, rfl⟩ := H
                 have hnb75 := NB314_315.out
                 have hnc75 := NB315_314.out
                 have hcz76_0 : wc.cell? ⟨gb314, 0, none⟩ = some (.int .i64 a2_0) := (blk_cell BK314.out 0).trans rfl
                 have hcz76_1 : wc.cell? ⟨gb314, 1, none⟩ = some (.int .i64 a2_1) := (blk_cell BK314.out 1).trans rfl
                 have hcz76_2 : wc.cell? ⟨gb314, 2, none⟩ = some (.int .i64 a2_2) := (blk_cell BK314.out 2).trans rfl
                 have hcz76_3 : wc.cell? ⟨gb314, 3, none⟩ = some (.int .u64 a2_3) := (blk_cell BK314.out 3).trans rfl
                 have hcz76_4 : wc.cell? ⟨gb314, 4, none⟩ = some (.int .u64 a2_4) := (blk_cell BK314.out 4).trans rfl
                 have hfz76_0 := blk_frozen BK314.out 0
                 have hfz76_1 := blk_frozen BK314.out 1
                 have hfz76_2 := blk_frozen BK314.out 2
                 have hfz76_3 := blk_frozen BK314.out 3
                 have hfz76_4 := blk_frozen BK314.out 4
                 have hcz77_0 : wc.cell? ⟨gb315, 0, none⟩ = some (.int .u64 0) := (blk_cell BK315.out 0).trans rfl
                 have hcz77_1 : wc.cell? ⟨gb315, 1, none⟩ = some (.int .u64 0) := (blk_cell BK315.out 1).trans rfl
                 have hfz77_0 := blk_frozen BK315.out 0
                 have hfz77_1 := blk_frozen BK315.out 1
                 go_wp2_with (first | (go_at_call 175; (with_reducible refine (expr_ahead.calls a2_0 a2_1 a2_2 a2_3 a2_4 (l3.length : Int) true _ A69.out).mono ?_); rintro e w78 ⟨rfl, hb⟩; have n0_ := Aside0.mk (blk_below (g := gb314) (o := .cells #[.int .i64 a2_0, .int .i64 a2_1, .int .i64 a2_2, .int .u64 a2_3, .int .u64 a2_4] 149 (0, 0)) (by exact bF BK314.out) hb); have n1_ := Aside0.mk (blk_below (g := gb315) (o := .cells #[.int .u64 0, .int .u64 0] 28 (0, 0)) (by exact bF BK315.out) hb); have n2_ := Aside0.mk (below_step (by repeat (first | (with_reducible first | exact HB.out | apply bA | apply bN | apply bD | refine bS ?_ GE314.out | refine bS ?_ GE315.out) | exact HB.out)) hb); clear BK314; clear BK315; clear HB; have BK314 := n0_; have BK315 := n1_; have HB := n2_; clear n0_ n1_ n2_; (try clear hb); (try clear hb2); (try clear hk); (try clear hi); have hcz79_0 : w78.cell? ⟨gb314, 0, none⟩ = some (.int .i64 a2_0) := (blk_cell BK314.out 0).trans rfl; have hcz79_1 : w78.cell? ⟨gb314, 1, none⟩ = some (.int .i64 a2_1) := (blk_cell BK314.out 1).trans rfl; have hcz79_2 : w78.cell? ⟨gb314, 2, none⟩ = some (.int .i64 a2_2) := (blk_cell BK314.out 2).trans rfl; have hcz79_3 : w78.cell? ⟨gb314, 3, none⟩ = some (.int .u64 a2_3) := (blk_cell BK314.out 3).trans rfl; have hcz79_4 : w78.cell? ⟨gb314, 4, none⟩ = some (.int .u64 a2_4) := (blk_cell BK314.out 4).trans rfl; have hfz79_0 := blk_frozen BK314.out 0; have hfz79_1 := blk_frozen BK314.out 1; have hfz79_2 := blk_frozen BK314.out 2; have hfz79_3 := blk_frozen BK314.out 3; have hfz79_4 := blk_frozen BK314.out 4; have p321 : 0 ≤ (a2_1 : Int) := of_decide_eq_true (by first | (with_reducible assumption) | assumption); have q321 : a2_1 < (l3.length : Int) := of_decide_eq_true (by first | (with_reducible assumption) | assumption); obtain ⟨ad321, e321, hx321_0⟩ := Kd.at_int HR3.out a2_1 p321 q321; cases e321; replace hx321_0 := (HB.out.cell (World.block_lt_of_cell? w _ hx321_0)).trans hx321_0; replace p321 := eq_true p321; replace q321 := eq_true q321; have p322 : 0 ≤ (a2_2 : Int) := of_decide_eq_true (by first | (with_reducible assumption) | assumption); have q322 : a2_2 < (l3.length : Int) := of_decide_eq_true (by first | (with_reducible assumption) | assumption); obtain ⟨ad322, e322, hx322_0⟩ := Kd.at_int HR3.out a2_2 p322 q322; obtain rfl : ad321 = ad322 := (by injection e322); replace hx322_0 := (HB.out.cell (World.block_lt_of_cell? w _ hx322_0)).trans hx322_0; replace p322 := eq_true p322; replace q322 := eq_true q322))
                 repeat (go_quiet (first | (go_at_call 175; (with_reducible refine (expr_ahead.calls a2_0 a2_1 a2_2 a2_3 a2_4 (l3.length : Int) true _ A69.out).mono ?_); rintro e w78 ⟨rfl, hb⟩; have n0_ := Aside0.mk (blk_below (g := gb314) (o := .cells #[.int .i64 a2_0, .int .i64 a2_1, .int .i64 a2_2, .int .u64 a2_3, .int .u64 a2_4] 149 (0, 0)) (by exact bF BK314.out) hb); have n1_ := Aside0.mk (blk_below (g := gb315) (o := .cells #[.int .u64 0, .int .u64 0] 28 (0, 0)) (by exact bF BK315.out) hb); have n2_ := Aside0.mk (below_step (by repeat (first | (with_reducible first | exact HB.out | apply bA | apply bN | apply bD | refine bS ?_ GE314.out | refine bS ?_ GE315.out) | exact HB.out)) hb); clear BK314; clear BK315; clear HB; have BK314 := n0_; have BK315 := n1_; have HB := n2_; clear n0_ n1_ n2_; (try clear hb); (try clear hb2); (try clear hk); (try clear hi); have hcz79_0 : w78.cell? ⟨gb314, 0, none⟩ = some (.int .i64 a2_0) := (blk_cell BK314.out 0).trans rfl; have hcz79_1 : w78.cell? ⟨gb314, 1, none⟩ = some (.int .i64 a2_1) := (blk_cell BK314.out 1).trans rfl; have hcz79_2 : w78.cell? ⟨gb314, 2, none⟩ = some (.int .i64 a2_2) := (blk_cell BK314.out 2).trans rfl; have hcz79_3 : w78.cell? ⟨gb314, 3, none⟩ = some (.int .u64 a2_3) := (blk_cell BK314.out 3).trans rfl; have hcz79_4 : w78.cell? ⟨gb314, 4, none⟩ = some (.int .u64 a2_4) := (blk_cell BK314.out 4).trans rfl; have hfz79_0 := blk_frozen BK314.out 0; have hfz79_1 := blk_frozen BK314.out 1; have hfz79_2 := blk_frozen BK314.out 2; have hfz79_3 := blk_frozen BK314.out 3; have hfz79_4 := blk_frozen BK314.out 4; have p321 : 0 ≤ (a2_1 : Int) := of_decide_eq_true (by first | (with_reducible assumption) | assumption); have q321 : a2_1 < (l3.length : Int) := of_decide_eq_true (by first | (with_reducible assumption) | assumption); obtain ⟨ad321, e321, hx321_0⟩ := Kd.at_int HR3.out a2_1 p321 q321; cases e321; replace hx321_0 := (HB.out.cell (World.block_lt_of_cell? w _ hx321_0)).trans hx321_0; replace p321 := eq_true p321; replace q321 := eq_true q321; have p322 : 0 ≤ (a2_2 : Int) := of_decide_eq_true (by first | (with_reducible assumption) | assumption); have q322 : a2_2 < (l3.length : Int) := of_decide_eq_true (by first | (with_reducible assumption) | assumption); obtain ⟨ad322, e322, hx322_0⟩ := Kd.at_int HR3.out a2_2 p322 q322; obtain rfl : ad321 = ad322 := (by injection e322); replace hx322_0 := (HB.out.cell (World.block_lt_of_cell? w _ hx322_0)).trans hx322_0; replace p322 := eq_true p322; replace q322 := eq_true q322)); try go_wp2_with (first | (go_at_call 175; (with_reducible refine (expr_ahead.calls a2_0 a2_1 a2_2 a2_3 a2_4 (l3.length : Int) true _ A69.out).mono ?_); rintro e w78 ⟨rfl, hb⟩; have n0_ := Aside0.mk (blk_below (g := gb314) (o := .cells #[.int .i64 a2_0, .int .i64 a2_1, .int .i64 a2_2, .int .u64 a2_3, .int .u64 a2_4] 149 (0, 0)) (by exact bF BK314.out) hb); have n1_ := Aside0.mk (blk_below (g := gb315) (o := .cells #[.int .u64 0, .int .u64 0] 28 (0, 0)) (by exact bF BK315.out) hb); have n2_ := Aside0.mk (below_step (by repeat (first | (with_reducible first | exact HB.out | apply bA | apply bN | apply bD | refine bS ?_ GE314.out | refine bS ?_ GE315.out) | exact HB.out)) hb); clear BK314; clear BK315; clear HB; have BK314 := n0_; have BK315 := n1_; have HB := n2_; clear n0_ n1_ n2_; (try clear hb); (try clear hb2); (try clear hk); (try clear hi); have hcz79_0 : w78.cell? ⟨gb314, 0, none⟩ = some (.int .i64 a2_0) := (blk_cell BK314.out 0).trans rfl; have hcz79_1 : w78.cell? ⟨gb314, 1, none⟩ = some (.int .i64 a2_1) := (blk_cell BK314.out 1).trans rfl; have hcz79_2 : w78.cell? ⟨gb314, 2, none⟩ = some (.int .i64 a2_2) := (blk_cell BK314.out 2).trans rfl; have hcz79_3 : w78.cell? ⟨gb314, 3, none⟩ = some (.int .u64 a2_3) := (blk_cell BK314.out 3).trans rfl; have hcz79_4 : w78.cell? ⟨gb314, 4, none⟩ = some (.int .u64 a2_4) := (blk_cell BK314.out 4).trans rfl; have hfz79_0 := blk_frozen BK314.out 0; have hfz79_1 := blk_frozen BK314.out 1; have hfz79_2 := blk_frozen BK314.out 2; have hfz79_3 := blk_frozen BK314.out 3; have hfz79_4 := blk_frozen BK314.out 4; have p321 : 0 ≤ (a2_1 : Int) := of_decide_eq_true (by first | (with_reducible assumption) | assumption); have q321 : a2_1 < (l3.length : Int) := of_decide_eq_true (by first | (with_reducible assumption) | assumption); obtain ⟨ad321, e321, hx321_0⟩ := Kd.at_int HR3.out a2_1 p321 q321; cases e321; replace hx321_0 := (HB.out.cell (World.block_lt_of_cell? w _ hx321_0)).trans hx321_0; replace p321 := eq_true p321; replace q321 := eq_true q321; have p322 : 0 ≤ (a2_2 : Int) := of_decide_eq_true (by first | (with_reducible assumption) | assumption); have q322 : a2_2 < (l3.length : Int) := of_decide_eq_true (by first | (with_reducible assumption) | assumption); obtain ⟨ad322, e322, hx322_0⟩ := Kd.at_int HR3.out a2_2 p322 q322; obtain rfl : ad321 = ad322 := (by injection e322); replace hx322_0 := (HB.out.cell (World.block_lt_of_cell? w _ hx322_0)).trans hx322_0; replace p322 := eq_true p322; replace q322 := eq_true q322)))
                 go_ret2
                 exact ⟨by first | rfl | (simp [errW_none, errW_some] <;> rfl) | (simp [*, errW_none, errW_some] <;> rfl), by repeat (first | (with_reducible first | exact HB.out | apply bA | apply bN | apply bD | refine bS ?_ GE314.out | refine bS ?_ GE315.out) | exact HB.out)⟩
                ·rw [if_neg c74] at H
                 exact absurd H (by simp)
               ·rw [if_neg c73] at H
                exact absurd H (by simp)
              ·rw [if_neg c72] at H
               exact absurd H (by simp)
             ·rw [if_neg c71] at H
              exact absurd H (by simp)
            ·replace c70 := Bool.eq_false_iff.mpr c70
             subst c70
             have H1 : (some (0, 3)) = some (r1, r2) := by rw [if_neg (show ¬ (false = true) by decide)] at H; exact H
             clear H
             have H := H1
             clear H1
             simp only [Option.some.injEq, Prod.mk.injEq] at H
             obtain ⟨rfl, rfl⟩ := H
             have hnb80 := NB314_315.out
             have hnc80 := NB315_314.out
             have hcz81_0 : wc.cell? ⟨gb314, 0, none⟩ = some (.int .i64 a2_0) := (blk_cell BK314.out 0).trans rfl
             have hcz81_1 : wc.cell? ⟨gb314, 1, none⟩ = some (.int .i64 a2_1) := (blk_cell BK314.out 1).trans rfl
             have hcz81_2 : wc.cell? ⟨gb314, 2, none⟩ = some (.int .i64 a2_2) := (blk_cell BK314.out 2).trans rfl
             have hcz81_3 : wc.cell? ⟨gb314, 3, none⟩ = some (.int .u64 a2_3) := (blk_cell BK314.out 3).trans rfl
             have hcz81_4 : wc.cell? ⟨gb314, 4, none⟩ = some (.int .u64 a2_4) := (blk_cell BK314.out 4).trans rfl
             have hfz81_0 := blk_frozen BK314.out 0
             have hfz81_1 := blk_frozen BK314.out 1
             have hfz81_2 := blk_frozen BK314.out 2
             have hfz81_3 := blk_frozen BK314.out 3
             have hfz81_4 := blk_frozen BK314.out 4
             have hcz82_0 : wc.cell? ⟨gb315, 0, none⟩ = some (.int .u64 0) := (blk_cell BK315.out 0).trans rfl
             have hcz82_1 : wc.cell? ⟨gb315, 1, none⟩ = some (.int .u64 0) := (blk_cell BK315.out 1).trans rfl
             have hfz82_0 := blk_frozen BK315.out 0
             have hfz82_1 := blk_frozen BK315.out 1
             go_wp2_with (first | (go_at_call 175; (with_reducible refine (expr_ahead.calls a2_0 a2_1 a2_2 a2_3 a2_4 (l3.length : Int) false _ A69.out).mono ?_); rintro e w83 ⟨rfl, hb⟩; have n0_ := Aside0.mk (blk_below (g := gb314) (o := .cells #[.int .i64 a2_0, .int .i64 a2_1, .int .i64 a2_2, .int .u64 a2_3, .int .u64 a2_4] 149 (0, 0)) (by exact bF BK314.out) hb); have n1_ := Aside0.mk (blk_below (g := gb315) (o := .cells #[.int .u64 0, .int .u64 0] 28 (0, 0)) (by exact bF BK315.out) hb); have n2_ := Aside0.mk (below_step (by repeat (first | (with_reducible first | exact HB.out | apply bA | apply bN | apply bD | refine bS ?_ GE314.out | refine bS ?_ GE315.out) | exact HB.out)) hb); clear BK314; clear BK315; clear HB; have BK314 := n0_; have BK315 := n1_; have HB := n2_; clear n0_ n1_ n2_; (try clear hb); (try clear hb2); (try clear hk); (try clear hi)))
             repeat (go_quiet (first | (go_at_call 175; (with_reducible refine (expr_ahead.calls a2_0 a2_1 a2_2 a2_3 a2_4 (l3.length : Int) false _ A69.out).mono ?_); rintro e w83 ⟨rfl, hb⟩; have n0_ := Aside0.mk (blk_below (g := gb314) (o := .cells #[.int .i64 a2_0, .int .i64 a2_1, .int .i64 a2_2, .int .u64 a2_3, .int .u64 a2_4] 149 (0, 0)) (by exact bF BK314.out) hb); have n1_ := Aside0.mk (blk_below (g := gb315) (o := .cells #[.int .u64 0, .int .u64 0] 28 (0, 0)) (by exact bF BK315.out) hb); have n2_ := Aside0.mk (below_step (by repeat (first | (with_reducible first | exact HB.out | apply bA | apply bN | apply bD | refine bS ?_ GE314.out | refine bS ?_ GE315.out) | exact HB.out)) hb); clear BK314; clear BK315; clear HB; have BK314 := n0_; have BK315 := n1_; have HB := n2_; clear n0_ n1_ n2_; (try clear hb); (try clear hb2); (try clear hk); (try clear hi))); try go_wp2_with (first | (go_at_call 175; (with_reducible refine (expr_ahead.calls a2_0 a2_1 a2_2 a2_3 a2_4 (l3.length : Int) false _ A69.out).mono ?_); rintro e w83 ⟨rfl, hb⟩; have n0_ := Aside0.mk (blk_below (g := gb314) (o := .cells #[.int .i64 a2_0, .int .i64 a2_1, .int .i64 a2_2, .int .u64 a2_3, .int .u64 a2_4] 149 (0, 0)) (by exact bF BK314.out) hb); have n1_ := Aside0.mk (blk_below (g := gb315) (o := .cells #[.int .u64 0, .int .u64 0] 28 (0, 0)) (by exact bF BK315.out) hb); have n2_ := Aside0.mk (below_step (by repeat (first | (with_reducible first | exact HB.out | apply bA | apply bN | apply bD | refine bS ?_ GE314.out | refine bS ?_ GE315.out) | exact HB.out)) hb); clear BK314; clear BK315; clear HB; have BK314 := n0_; have BK315 := n1_; have HB := n2_; clear n0_ n1_ n2_; (try clear hb); (try clear hb2); (try clear hk); (try clear hi))))
             go_ret2
             exact ⟨by first | rfl | (simp [errW_none, errW_some] <;> rfl) | (simp [*, errW_none, errW_some] <;> rfl), by repeat (first | (with_reducible first | exact HB.out | apply bA | apply bN | apply bD | refine bS ?_ GE314.out | refine bS ?_ GE315.out) | exact HB.out)⟩
           ·rw [if_neg c68] at H
            have c68b0 : (a2_3 == 0 && (a2_4 == 0)) = false := by simpa using c68
            (try (have c68b1 : decide (a2_3 = 0 && (a2_4 == 0)) = false := by simpa using c68))
            (try (have c68b2 : (a2_3 == 0 && (a2_4 == 0)) = false := by simpa using c68))
            (try (have c68b3 : ¬ (a2_3 = 0 && (a2_4 == 0)) := by simpa using c68))
            clear c68
            simp only [Option.some.injEq, Prod.mk.injEq] at H
            obtain ⟨rfl, rfl⟩ := H
            have hnb84 := NB314_315.out
            have hnc84 := NB315_314.out
            have hcz85_0 : wc.cell? ⟨gb314, 0, none⟩ = some (.int .i64 a2_0) := (blk_cell BK314.out 0).trans rfl
            have hcz85_1 : wc.cell? ⟨gb314, 1, none⟩ = some (.int .i64 a2_1) := (blk_cell BK314.out 1).trans rfl
            have hcz85_2 : wc.cell? ⟨gb314, 2, none⟩ = some (.int .i64 a2_2) := (blk_cell BK314.out 2).trans rfl
            have hcz85_3 : wc.cell? ⟨gb314, 3, none⟩ = some (.int .u64 a2_3) := (blk_cell BK314.out 3).trans rfl
            have hcz85_4 : wc.cell? ⟨gb314, 4, none⟩ = some (.int .u64 a2_4) := (blk_cell BK314.out 4).trans rfl
            have hfz85_0 := blk_frozen BK314.out 0
            have hfz85_1 := blk_frozen BK314.out 1
            have hfz85_2 := blk_frozen BK314.out 2
            have hfz85_3 := blk_frozen BK314.out 3
            have hfz85_4 := blk_frozen BK314.out 4
            have hcz86_0 : wc.cell? ⟨gb315, 0, none⟩ = some (.int .u64 0) := (blk_cell BK315.out 0).trans rfl
            have hcz86_1 : wc.cell? ⟨gb315, 1, none⟩ = some (.int .u64 0) := (blk_cell BK315.out 1).trans rfl
            have hfz86_0 := blk_frozen BK315.out 0
            have hfz86_1 := blk_frozen BK315.out 1
            go_wp2
            repeat (go_quiet (fail); try go_wp2)
            go_ret2
            exact ⟨by first | rfl | (simp [errW_none, errW_some] <;> rfl) | (simp [*, errW_none, errW_some] <;> rfl), by repeat (first | (with_reducible first | exact HB.out | apply bA | apply bN | apply bD | refine bS ?_ GE314.out | refine bS ?_ GE315.out) | exact HB.out)⟩
          ·rw [if_neg c67] at H
           have c67b0 : (a2_0 == 4) = false := beq_eq_false_iff_ne.mpr c67
           have c67b1 : (a2_0 != 4) = true := bne_iff_ne.mpr c67
           simp only [Option.some.injEq, Prod.mk.injEq] at H
           obtain ⟨rfl, rfl⟩ := H
           have hnb87 := NB314_315.out
           have hnc87 := NB315_314.out
           have hcz88_0 : wc.cell? ⟨gb314, 0, none⟩ = some (.int .i64 a2_0) := (blk_cell BK314.out 0).trans rfl
           have hcz88_1 : wc.cell? ⟨gb314, 1, none⟩ = some (.int .i64 a2_1) := (blk_cell BK314.out 1).trans rfl
           have hcz88_2 : wc.cell? ⟨gb314, 2, none⟩ = some (.int .i64 a2_2) := (blk_cell BK314.out 2).trans rfl
           have hcz88_3 : wc.cell? ⟨gb314, 3, none⟩ = some (.int .u64 a2_3) := (blk_cell BK314.out 3).trans rfl
           have hcz88_4 : wc.cell? ⟨gb314, 4, none⟩ = some (.int .u64 a2_4) := (blk_cell BK314.out 4).trans rfl
           have hfz88_0 := blk_frozen BK314.out 0
           have hfz88_1 := blk_frozen BK314.out 1
           have hfz88_2 := blk_frozen BK314.out 2
           have hfz88_3 := blk_frozen BK314.out 3
           have hfz88_4 := blk_frozen BK314.out 4
           go_wp2
           repeat (go_quiet (fail); try go_wp2)
           go_ret2
           exact ⟨by first | rfl | (simp [errW_none, errW_some] <;> rfl) | (simp [*, errW_none, errW_some] <;> rfl), by repeat (first | (with_reducible first | exact HB.out | apply bA | apply bN | apply bD | refine bS ?_ GE314.out | refine bS ?_ GE315.out) | exact HB.out)⟩
end Go.Proofs.Ytoaepfgfbfgcdaa.Q
namespace Go.Proofs.Ytoaepfgfbfgcdaa.Q
open Go.RowKit Go.Proofs.YtoaepfgfbfgcdaaW.PrintWords Go.Proofs.YtoaepfgfbfgcdaaW.PrintLast Go.Proofs.YtoaepfgfbfgcdaaW.PrintMore
attribute [local go_sem] max2_int min2_int max_two min_two max_three min_three max_four min_four
set_option linter.unusedVariables false
set_option linter.unusedSimpArgs false
mutual
def expr_degrees.j0 : Nat → Int → Int → List (S149) → Bool → Option (List Int × Int)
 | 0, _, _, _, _ => none
 | k + 1, x0, x1, x2, x13 => if x13 = true then (some (([] : List Int), 1)) else (if (x2.length : Int) = 0 then (some (([] : List Int), 3)) else (if (x2.length : Int) > 200 then (some (([] : List Int), 2)) else (expr_degrees.l0 k x0 x1 ([] : List Int) x2 (x2.length : Int) 0)))
def expr_degrees.l0 : Nat → Int → Int → List Int → List (S149) → Int → Int → Option (List Int × Int)
 | 0, _, _, _, _, _, _ => none
 | k + 1, x0, x1, x8, x29, x30, x31 => if x31 < x30 then (if 0 ≤ x31 then (if x31 < (x29.length : Int) then ((expr_step.f k x0 x1 ((rd_T149 x29 x31).f0) ((rd_T149 x29 x31).f1) ((rd_T149 x29 x31).f2) ((rd_T149 x29 x31).f3.f0) ((rd_T149 x29 x31).f3.f1) x8).bind fun bt326 => (if bt326.2 = 0 then (expr_degrees.j2 k x0 x1 x8 bt326.1 bt326.2 x29 x30 x31 (decide (bt326.1 > 8))) else (expr_degrees.j2 k x0 x1 x8 bt326.1 bt326.2 x29 x30 x31 false))) else (none)) else (none)) else (some (x8, 0))
def expr_degrees.j2 : Nat → Int → Int → List Int → Int → Int → List (S149) → Int → Int → Bool → Option (List Int × Int)
 | 0, _, _, _, _, _, _, _, _, _ => none
 | k + 1, x0, x1, x8, x11, x12, x29, x30, x31, x48 => if x48 = true then (some (([] : List Int), 7)) else (if x12 = 0 then (if x8.length < 17592186044416 then (expr_degrees.l0 k x0 x1 (x8 ++ [x11]) x29 x30 (wrap64 (x31 + 1))) else (none)) else (some (([] : List Int), x12)))
end
def expr_degrees.f (k : Nat) (a0 : Int) (a1 : Int) (l2 : List (S149)) : Option (List Int × Int) := (octet_Wide.f k a0).bind fun t323 => (if t323 = 0 then (expr_degrees.j0 k a0 a1 l2 true) else (expr_degrees.j0 k a0 a1 l2 (decide (a1 < 0))))
set_option maxHeartbeats 8000000 in
set_option maxRecDepth 100000 in
theorem expr_degrees.calls (k : Nat) (a0 : Int) (a1 : Int) (A2 : Option Addr) (c2 : Nat) (l2 : List (S149)) (r1 : List Int) (r2 : Int) (w : World) (hr2 : Kd.C k149 w A2 l2.length l2) (hc2 : l2.length ≤ c2) (h : expr_degrees.f k a0 a1 l2 = some (r1, r2)) :
  Calls Try.prog 132 #[.int .i64 a0, .int .i64 a1, .slice A2 l2.length c2] w fun e w' => ∃ v0_ : Value, e = .returned (.tuple #[v0_, .int .i64 r2]) ∧ Kd.R (Kd.int .i64) 3 w' w.heap.size (fun _ => True) v0_ r1 ∧ Below w.heap.size w w' := by
 have hu149 := Try.underlying149
 have HR2 := Aside0.mk hr2
 have HC2 := Aside0.mk hc2
 clear hr2 hc2
 have HB := Aside0.mk (Below.refl w.heap.size w)
 have H : ((octet_Wide.f k a0).bind fun t323 => (if t323 = 0 then (expr_degrees.j0 k a0 a1 l2 true) else (expr_degrees.j0 k a0 a1 l2 (decide (a1 < 0))))) = some (r1, r2) := h
 clear h
 have HC4 := Aside0.mk H
 clear H
 go_enter Try.func132, Try.ntmps132
 go_upto_region 1 with (fail)
 go_cut [13] (fun v13 wc => ∃ (kq : Nat) (x13_3 : Bool), v13 = .bool x13_3 ∧ Aside0 (expr_degrees.j0 kq a0 a1 l2 x13_3 = some (r1, r2)) ∧ Aside0 (kq ≤ k) ∧ Aside0 (Below w.heap.size w wc))
 case first =>
  have H := HC4.out
  clear HC4
  replace H := Option.bind_eq_some_iff.mp H
  obtain ⟨t323, A50, H⟩ := H
  replace H : (if t323 = 0 then (expr_degrees.j0 k a0 a1 l2 true) else (expr_degrees.j0 k a0 a1 l2 (decide (a1 < 0)))) = some (r1, r2) := H
  have A5 := Aside0.mk A50
  clear A50
  by_cases c6 : t323 = 0
  ·rw [if_pos c6] at H
   have c6b0 : (t323 == 0) = true := beq_iff_eq.mpr c6
   have c6b1 : (t323 != 0) = false := bne_eq_false_iff_eq.mpr c6
   clear c6
   (first | rw [c6b0] | (simp only [i64_w, i32_w]; rw [c6b0]) | skip)
   have H' := Aside0.mk H
   clear H
   go_wp2_with (first | ((with_reducible refine gate_callee (f := 113) rfl ?_); refine goesL_ (some 15) rfl rfl Try.func113 (by kernel_rfl) rfl #[.int .i64 a0] rfl (by (try simp only [List.map_toArray, List.map_cons, List.map_nil]); first | done | rfl | (simp only [List.length_drop, List.length_take]; rfl)) ?_; (with_reducible refine (octet_Wide.calls k a0 t323 _ A5.out).mono ?_); rintro e w' ⟨rfl, ⟨nd, rfl⟩⟩; refine ⟨_, rfl, ?_⟩))
   go_meet
   case rel => exact ⟨_, (true), (by first | rfl | (simp; done) | (simp [*]; done)), H', ⟨by first | omega | exact Nat.le_refl _⟩, ⟨by repeat (first | (with_reducible first | exact HB.out | apply bA | apply bN | apply bD) | exact HB.out)⟩⟩
  ·rw [if_neg c6] at H
   have c6b0 : (t323 == 0) = false := beq_eq_false_iff_ne.mpr c6
   have c6b1 : (t323 != 0) = true := bne_iff_ne.mpr c6
   (first | rw [c6b0] | (simp only [i64_w, i32_w]; rw [c6b0]) | skip)
   have H' := Aside0.mk H
   clear H
   go_wp2_with (first | ((with_reducible refine gate_callee (f := 113) rfl ?_); refine goesL_ (some 15) rfl rfl Try.func113 (by kernel_rfl) rfl #[.int .i64 a0] rfl (by (try simp only [List.map_toArray, List.map_cons, List.map_nil]); first | done | rfl | (simp only [List.length_drop, List.length_take]; rfl)) ?_; (with_reducible refine (octet_Wide.calls k a0 t323 _ A5.out).mono ?_); rintro e w' ⟨rfl, ⟨nd, rfl⟩⟩; refine ⟨_, rfl, ?_⟩))
   go_meet
   case rel => exact ⟨_, (decide (a1 < 0)), (by first | rfl | (simp; done) | (simp [*]; done)), H', ⟨by first | omega | exact Nat.le_refl _⟩, ⟨by repeat (first | (with_reducible first | exact HB.out | apply bA | apply bN | apply bD) | exact HB.out)⟩⟩
 case rest =>
  clear HC4
  try clear c1
  try clear c2
  try clear p2
  try clear c6
  try clear c6b0
  try clear c6b1
  obtain ⟨kq, x13_3, rfl, HA, HJ3, HB⟩ := hcut
  cases kq with
  | zero => exact absurd HA.out (by simp [expr_degrees.j0])
  | succ kj3 =>
   have H := HA.out
   clear HA
   simp only [expr_degrees.j0] at H
   by_cases c7 : x13_3 = true
   ·subst c7
    have H1 : (some (([] : List Int), 1)) = some (r1, r2) := by rw [if_pos rfl] at H; exact H
    clear H
    have H := H1
    clear H1
    simp only [Option.some.injEq, Prod.mk.injEq] at H
    obtain ⟨rfl, rfl⟩ := H
    go_wp2
    go_ret2
    exact ⟨_, by first | rfl | (simp [errW_none, errW_some] <;> rfl) | (simp [*, errW_none, errW_some] <;> rfl), by first | exact Kd.R_nil _ _ _ _ _ | exact Kd.N_nil _ _ _ _ _ | exact Kd.V_nil _ _ _ _ _ | exact Kd.Q_nil _ _ _ _ _ | exact Kd.S_nil _ _ _ _ _, by repeat (first | (with_reducible first | exact HB.out | apply bA | apply bN | apply bD) | exact HB.out)⟩
   ·replace c7 := Bool.eq_false_iff.mpr c7
    subst c7
    have H1 : (if (l2.length : Int) = 0 then (some (([] : List Int), 3)) else (if (l2.length : Int) > 200 then (some (([] : List Int), 2)) else (expr_degrees.l0 kj3 a0 a1 ([] : List Int) l2 (l2.length : Int) 0))) = some (r1, r2) := by rw [if_neg (show ¬ (false = true) by decide)] at H; exact H
    clear H
    have H := H1
    clear H1
    by_cases c8 : (l2.length : Int) = 0
    ·rw [if_pos c8] at H
     have c8b0 : ((l2.length : Int) == 0) = true := beq_iff_eq.mpr c8
     have c8b1 : ((l2.length : Int) != 0) = false := bne_eq_false_iff_eq.mpr c8
     clear c8
     simp only [Option.some.injEq, Prod.mk.injEq] at H
     obtain ⟨rfl, rfl⟩ := H
     go_wp2
     go_ret2
     exact ⟨_, by first | rfl | (simp [errW_none, errW_some] <;> rfl) | (simp [*, errW_none, errW_some] <;> rfl), by first | exact Kd.R_nil _ _ _ _ _ | exact Kd.N_nil _ _ _ _ _ | exact Kd.V_nil _ _ _ _ _ | exact Kd.Q_nil _ _ _ _ _ | exact Kd.S_nil _ _ _ _ _, by repeat (first | (with_reducible first | exact HB.out | apply bA | apply bN | apply bD) | exact HB.out)⟩
    ·rw [if_neg c8] at H
     have c8b0 : ((l2.length : Int) == 0) = false := beq_eq_false_iff_ne.mpr c8
     have c8b1 : ((l2.length : Int) != 0) = true := bne_iff_ne.mpr c8
     have c8b2 : ¬ (l2 = []) := fun h_ => c8 (by rw [h_]; rfl)
     by_cases c9 : (l2.length : Int) > 200
     ·rw [if_pos c9] at H
      have c9b0 : decide (200 < (l2.length : Int)) = true := decide_eq_true c9
      have c9b1 : decide (200 < l2.length) = true := decide_eq_true (by omega)
      clear c9
      simp only [Option.some.injEq, Prod.mk.injEq] at H
      obtain ⟨rfl, rfl⟩ := H
      go_wp2
      go_ret2
      exact ⟨_, by first | rfl | (simp [errW_none, errW_some] <;> rfl) | (simp [*, errW_none, errW_some] <;> rfl), by first | exact Kd.R_nil _ _ _ _ _ | exact Kd.N_nil _ _ _ _ _ | exact Kd.V_nil _ _ _ _ _ | exact Kd.Q_nil _ _ _ _ _ | exact Kd.S_nil _ _ _ _ _, by repeat (first | (with_reducible first | exact HB.out | apply bA | apply bN | apply bD) | exact HB.out)⟩
     ·rw [if_neg c9] at H
      have c9b0 : decide (200 < (l2.length : Int)) = false := decide_eq_false c9
      have c9b1 : decide (200 < l2.length) = false := decide_eq_false (by omega)
      clear c9
      have H' := Aside0.mk H
      clear H
      go_wp2
      go_loopg [8, 31] kj3 (fun kq v8 v31 w' => ∃ (x8_2 : List Int) (x31_2 : Int), v31 = .int .i64 x31_2 ∧ Aside0 (expr_degrees.l0 kq a0 a1 x8_2 l2 (l2.length : Int) x31_2 = some (r1, r2)) ∧ Aside0 (kq ≤ kj3) ∧ Aside0 (Kd.R (Kd.int .i64) 3 w' w.heap.size (fun _ => True) v8 x8_2) ∧ Aside0 (Below w.heap.size w w'))
      case atStart => exact ⟨(([] : List Int)), (0), (by first | rfl | (simp; done) | (simp [*]; done)), H', ⟨Nat.le_refl _⟩, ⟨by first | exact Kd.R_nil _ _ _ _ _ | exact Kd.N_nil _ _ _ _ _ | exact Kd.V_nil _ _ _ _ _ | exact Kd.Q_nil _ _ _ _ _ | exact Kd.S_nil _ _ _ _ _⟩, ⟨by repeat (first | (with_reducible first | exact HB.out | apply bA | apply bN | apply bD) | exact HB.out)⟩⟩
      case round =>
       clear H'
       try clear c1
       try clear c2
       try clear p2
       try clear c6
       try clear c6b0
       try clear c6b1
       try clear c7
       try clear c8
       try clear c8b0
       try clear c8b1
       try clear c8b2
       try clear c9
       try clear c9b0
       try clear c9b1
       try clear p2
       obtain ⟨x8_2, x31_2, rfl, HA, HK2, HO_8, HB⟩ := hrel
       cases gk with
       | zero => exact absurd HA.out (by simp [expr_degrees.l0])
       | succ k2 =>
        have H := HA.out
        clear HA
        simp only [expr_degrees.l0] at H
        by_cases c10 : x31_2 < (l2.length : Int)
        ·rw [if_pos c10] at H
         have c10b0 : decide (x31_2 < (l2.length : Int)) = true := decide_eq_true c10
         clear c10
         by_cases c11 : 0 ≤ x31_2
         ·rw [if_pos c11] at H
          have c11b0 : decide (0 ≤ x31_2) = true := decide_eq_true c11
          clear c11
          by_cases c12 : x31_2 < (l2.length : Int)
          ·rw [if_pos c12] at H
           have c12b0 : decide (x31_2 < (l2.length : Int)) = true := decide_eq_true c12
           clear c12
           replace H := Option.bind_eq_some_iff.mp H
           obtain ⟨⟨t326, t327⟩, A130, H⟩ := H
           replace H : (if t327 = 0 then (expr_degrees.j2 k2 a0 a1 x8_2 t326 t327 l2 (l2.length : Int) x31_2 (decide (t326 > 8))) else (expr_degrees.j2 k2 a0 a1 x8_2 t326 t327 l2 (l2.length : Int) x31_2 false)) = some (r1, r2) := H
           have A13 := Aside0.mk A130
           clear A130
           have HC14 := Aside0.mk H
           clear H
           have p324 : 0 ≤ (x31_2 : Int) := of_decide_eq_true (by first | (with_reducible assumption) | assumption)
           have q324 : x31_2 < (l2.length : Int) := of_decide_eq_true (by first | (with_reducible assumption) | assumption)
           obtain ⟨ad324, e324, hx324_0, hx324_1, hx324_2, hx324_3, hx324_4⟩ := at_T149 HR2.out x31_2 p324 q324
           cases e324
           replace hx324_0 := (HB.out.cell (World.block_lt_of_cell? w _ hx324_0)).trans hx324_0
           replace hx324_1 := (HB.out.cell (World.block_lt_of_cell? w _ hx324_1)).trans hx324_1
           replace hx324_2 := (HB.out.cell (World.block_lt_of_cell? w _ hx324_2)).trans hx324_2
           replace hx324_3 := (HB.out.cell (World.block_lt_of_cell? w _ hx324_3)).trans hx324_3
           replace hx324_4 := (HB.out.cell (World.block_lt_of_cell? w _ hx324_4)).trans hx324_4
           replace p324 := eq_true p324
           replace q324 := eq_true q324
           go_upto_region 12 with (first | ((with_reducible refine gate_dst (N := 10) rfl ?_); refine box_event ?hg (N := 10) ?hd (cs := #[.int .i64 0, .int .i64 0, .int .i64 0, .int .u64 0, .int .u64 0]) (t := 149) ?hr ?_; (case hd => rfl); (case hg => rfl); (case hr => first | (go_simp; done) | (go_simp; rfl)); intro gb325 hg w15 hbox hb; have n0_ := Aside0.mk (Kd.R_below (by exact rF HO_8.out) hb); have n1_ := Aside0.mk (below_step (by exact lF HB.out) hb); have n2_ := Aside0.mk (hbox); have n3_ := Aside0.mk ((by rw [hg]; exact (below_size (by exact lF HB.out)) : w.heap.size ≤ gb325)); have n4_ := Aside0.mk ((by rw [hg]; exact (below_size (by exact lF HB.out)) : w.heap.size ≤ gb325)); clear HO_8; clear HB; have HO_8 := n0_; have HB := n1_; have BK325 := n2_; have GW325 := n3_; have GE325 := n4_; clear n0_ n1_ n2_ n3_ n4_; clear hb hbox hg; have hcz16_0 : w15.cell? ⟨gb325, 0, none⟩ = some (.int .i64 0) := (blk_cell BK325.out 0).trans rfl; have hcz16_1 : w15.cell? ⟨gb325, 1, none⟩ = some (.int .i64 0) := (blk_cell BK325.out 1).trans rfl; have hcz16_2 : w15.cell? ⟨gb325, 2, none⟩ = some (.int .i64 0) := (blk_cell BK325.out 2).trans rfl; have hcz16_3 : w15.cell? ⟨gb325, 3, none⟩ = some (.int .u64 0) := (blk_cell BK325.out 3).trans rfl; have hcz16_4 : w15.cell? ⟨gb325, 4, none⟩ = some (.int .u64 0) := (blk_cell BK325.out 4).trans rfl; have hfz16_0 := blk_frozen BK325.out 0; have hfz16_1 := blk_frozen BK325.out 1; have hfz16_2 := blk_frozen BK325.out 2; have hfz16_3 := blk_frozen BK325.out 3; have hfz16_4 := blk_frozen BK325.out 4; obtain ⟨Ao17, co17, eo17⟩ := Kd.R_slice HO_8.out; subst eo17) | ((with_reducible refine gate_callee (f := 164) rfl ?_); refine goesL_ (some 40) rfl rfl Try.func164 (by kernel_rfl) rfl #[.int .i64 a0, .int .i64 a1, .agg #[.int .i64 ((rd_T149 l2 x31_2).f0), .int .i64 ((rd_T149 l2 x31_2).f1), .int .i64 ((rd_T149 l2 x31_2).f2), .int .u64 ((rd_T149 l2 x31_2).f3.f0), .int .u64 ((rd_T149 l2 x31_2).f3.f1)], .slice Ao17 x8_2.length co17] rfl (by (try simp only [List.map_toArray, List.map_cons, List.map_nil]); first | done | rfl | (simp only [List.length_drop, List.length_take]; rfl)) ?_; (with_reducible refine (expr_step.calls k2 a0 a1 ((rd_T149 l2 x31_2).f0) ((rd_T149 l2 x31_2).f1) ((rd_T149 l2 x31_2).f2) ((rd_T149 l2 x31_2).f3.f0) ((rd_T149 l2 x31_2).f3.f1) _ _ x8_2 t326 t327 _ ?side1 ?side2 A13.out).mono ?_); (case side1 => refine (Kd.R_reads' (e := 3) (base := w.heap.size) (ok := fun k_ => True) (n := x8_2.length) (c := co17) ?_).2.2; exact (by (with_reducible repeat (first | apply Kd.R_alloc | apply Kd.R_drewN | apply Kd.R_drew)); exact (Kd.R_mono (Kd.R_far (p := ⟨gb325, 4, none⟩) (Kd.R_far (p := ⟨gb325, 3, none⟩) (Kd.R_far (p := ⟨gb325, 2, none⟩) (Kd.R_far (p := ⟨gb325, 1, none⟩) (Kd.R_far (p := ⟨gb325, 0, none⟩) (Kd.R_types HO_8.out BK325.out (by decide)) (fun _ hk => hk.2) (.int .i64 ((rd_T149 l2 x31_2).f0))) (fun _ hk => hk.2) (.int .i64 ((rd_T149 l2 x31_2).f1))) (fun _ hk => hk.2) (.int .i64 ((rd_T149 l2 x31_2).f2))) (fun _ hk => hk.2) (.int .u64 ((rd_T149 l2 x31_2).f3.f0))) (fun _ hk => hk.2) (.int .u64 ((rd_T149 l2 x31_2).f3.f1))) (fun _ h_ => h_.1)))); (case side2 => exact (Kd.R_reads' HO_8.out).2.1); rintro e w18 ⟨rfl, hb⟩; refine ⟨_, rfl, ?_⟩; have n0_ := Aside0.mk (Kd.R_below (by (with_reducible repeat (first | apply Kd.R_alloc | apply Kd.R_drewN | apply Kd.R_drew)); exact (Kd.R_mono (Kd.R_far (p := ⟨gb325, 4, none⟩) (Kd.R_far (p := ⟨gb325, 3, none⟩) (Kd.R_far (p := ⟨gb325, 2, none⟩) (Kd.R_far (p := ⟨gb325, 1, none⟩) (Kd.R_far (p := ⟨gb325, 0, none⟩) (Kd.R_types HO_8.out BK325.out (by decide)) (fun _ hk => hk.2) (.int .i64 ((rd_T149 l2 x31_2).f0))) (fun _ hk => hk.2) (.int .i64 ((rd_T149 l2 x31_2).f1))) (fun _ hk => hk.2) (.int .i64 ((rd_T149 l2 x31_2).f2))) (fun _ hk => hk.2) (.int .u64 ((rd_T149 l2 x31_2).f3.f0))) (fun _ hk => hk.2) (.int .u64 ((rd_T149 l2 x31_2).f3.f1))) (fun _ h_ => h_.1))) hb); have n1_ := Aside0.mk (blk_below (g := gb325) (o := .cells #[.int .i64 ((rd_T149 l2 x31_2).f0), .int .i64 ((rd_T149 l2 x31_2).f1), .int .i64 ((rd_T149 l2 x31_2).f2), .int .u64 ((rd_T149 l2 x31_2).f3.f0), .int .u64 ((rd_T149 l2 x31_2).f3.f1)] 149 (0, 0)) (by (with_reducible repeat (first | refine blk_drewN ?_ _ | refine blk_drew ?_ | refine blk_alloc ?_ _)); refine blk_put (cs := #[.int .i64 ((rd_T149 l2 x31_2).f0), .int .i64 ((rd_T149 l2 x31_2).f1), .int .i64 ((rd_T149 l2 x31_2).f2), .int .u64 ((rd_T149 l2 x31_2).f3.f0), .int .u64 0]) ?_ 4 _ rfl; (with_reducible repeat (first | refine blk_drewN ?_ _ | refine blk_drew ?_ | refine blk_alloc ?_ _)); refine blk_put (cs := #[.int .i64 ((rd_T149 l2 x31_2).f0), .int .i64 ((rd_T149 l2 x31_2).f1), .int .i64 ((rd_T149 l2 x31_2).f2), .int .u64 0, .int .u64 0]) ?_ 3 _ rfl; (with_reducible repeat (first | refine blk_drewN ?_ _ | refine blk_drew ?_ | refine blk_alloc ?_ _)); refine blk_put (cs := #[.int .i64 ((rd_T149 l2 x31_2).f0), .int .i64 ((rd_T149 l2 x31_2).f1), .int .i64 0, .int .u64 0, .int .u64 0]) ?_ 2 _ rfl; (with_reducible repeat (first | refine blk_drewN ?_ _ | refine blk_drew ?_ | refine blk_alloc ?_ _)); refine blk_put (cs := #[.int .i64 ((rd_T149 l2 x31_2).f0), .int .i64 0, .int .i64 0, .int .u64 0, .int .u64 0]) ?_ 1 _ rfl; (with_reducible repeat (first | refine blk_drewN ?_ _ | refine blk_drew ?_ | refine blk_alloc ?_ _)); refine blk_put (cs := #[.int .i64 0, .int .i64 0, .int .i64 0, .int .u64 0, .int .u64 0]) ?_ 0 _ rfl; exact bF BK325.out) hb); have n2_ := Aside0.mk (below_step (by repeat (first | (with_reducible first | exact HB.out | apply bA | apply bN | apply bD | refine bS ?_ GE325.out) | exact HB.out)) hb); clear HO_8; clear BK325; clear HB; have HO_8 := n0_; have BK325 := n1_; have HB := n2_; clear n0_ n1_ n2_; (try clear hb); (try clear hb2); (try clear hk); (try clear hi)))
           (try simp only [Act.put, List.setIfInBounds_toArray, List.set_cons_zero, List.set_cons_succ])
           go_cut [48] (fun v48 wc => ∃ (kq : Nat) (x48_13 : Bool), v48 = .bool x48_13 ∧ Aside0 (expr_degrees.j2 kq a0 a1 x8_2 t326 t327 l2 (l2.length : Int) x31_2 x48_13 = some (r1, r2)) ∧ Aside0 (kq ≤ k2) ∧ Aside0 (Kd.R (Kd.int .i64) 3 wc w.heap.size (fun _ => True) (.slice Ao17 x8_2.length co17) x8_2) ∧ Aside0 (wc.heap[gb325]? = some (.cells #[.int .i64 ((rd_T149 l2 x31_2).f0), .int .i64 ((rd_T149 l2 x31_2).f1), .int .i64 ((rd_T149 l2 x31_2).f2), .int .u64 ((rd_T149 l2 x31_2).f3.f0), .int .u64 ((rd_T149 l2 x31_2).f3.f1)] 149 (0, 0))) ∧ Aside0 (Below w.heap.size w wc))
           case first =>
            have H := HC14.out
            clear HC14
            by_cases c19 : t327 = 0
            ·rw [if_pos c19] at H
             have c19b0 : (t327 == 0) = true := beq_iff_eq.mpr c19
             have c19b1 : (t327 != 0) = false := bne_eq_false_iff_eq.mpr c19
             clear c19
             (first | rw [c19b0] | (simp only [i64_w, i32_w]; rw [c19b0]) | skip)
             have H' := Aside0.mk H
             clear H
             go_wp2
             go_meet
             case rel => exact ⟨_, (decide (t326 > 8)), (by first | rfl | (simp; done) | (simp [*]; done)), H', ⟨by have := HJ3.out; have := HK2.out; first | omega | exact Nat.le_refl _⟩, ⟨by exact rF HO_8.out⟩, ⟨by exact bF BK325.out⟩, ⟨by repeat (first | (with_reducible first | exact HB.out | apply bA | apply bN | apply bD | refine bS ?_ GE325.out) | exact HB.out)⟩⟩
            ·rw [if_neg c19] at H
             have c19b0 : (t327 == 0) = false := beq_eq_false_iff_ne.mpr c19
             have c19b1 : (t327 != 0) = true := bne_iff_ne.mpr c19
             (first | rw [c19b0] | (simp only [i64_w, i32_w]; rw [c19b0]) | skip)
             have H' := Aside0.mk H
             clear H
             go_wp2
             go_meet
             case rel => exact ⟨_, (false), (by first | rfl | (simp; done) | (simp [*]; done)), H', ⟨by have := HJ3.out; have := HK2.out; first | omega | exact Nat.le_refl _⟩, ⟨by exact rF HO_8.out⟩, ⟨by exact bF BK325.out⟩, ⟨by repeat (first | (with_reducible first | exact HB.out | apply bA | apply bN | apply bD | refine bS ?_ GE325.out) | exact HB.out)⟩⟩
           case rest =>
            clear HC14
            try clear c1
            try clear c2
            try clear p2
            try clear p3
            try clear q3
            try clear hx3
            try clear c6
            try clear c6b0
            try clear c6b1
            try clear c7
            try clear c8
            try clear c8b0
            try clear c8b1
            try clear c8b2
            try clear c9
            try clear c9b0
            try clear c9b1
            try clear c10
            try clear c10b0
            try clear c11
            try clear c11b0
            try clear c12
            try clear c12b0
            try clear c13
            try clear c16
            try clear c19
            try clear c19b0
            try clear c19b1
            try clear hcz16_0
            try clear hcz16_1
            try clear hcz16_2
            try clear hcz16_3
            try clear hcz16_4
            try clear hfz16_0
            try clear hfz16_1
            try clear hfz16_2
            try clear hfz16_3
            try clear hfz16_4
            try clear hx324_0
            try clear hx324_1
            try clear hx324_2
            try clear hx324_3
            try clear hx324_4
            try clear p2
            try clear p324
            try clear q324
            obtain ⟨kq, x48_13, rfl, HA, HJ13, HO_8, BK325, HB⟩ := hcut
            cases kq with
            | zero => exact absurd HA.out (by simp [expr_degrees.j2])
            | succ kj13 =>
             have H := HA.out
             clear HA
             simp only [expr_degrees.j2] at H
             by_cases c20 : x48_13 = true
             ·subst c20
              have H1 : (some (([] : List Int), 7)) = some (r1, r2) := by rw [if_pos rfl] at H; exact H
              clear H
              have H := H1
              clear H1
              simp only [Option.some.injEq, Prod.mk.injEq] at H
              obtain ⟨rfl, rfl⟩ := H
              go_wp2
              go_ret2
              exact ⟨_, by first | rfl | (simp [errW_none, errW_some] <;> rfl) | (simp [*, errW_none, errW_some] <;> rfl), by first | exact Kd.R_nil _ _ _ _ _ | exact Kd.N_nil _ _ _ _ _ | exact Kd.V_nil _ _ _ _ _ | exact Kd.Q_nil _ _ _ _ _ | exact Kd.S_nil _ _ _ _ _, by repeat (first | (with_reducible first | exact HB.out | apply bA | apply bN | apply bD | refine bS ?_ GE325.out) | exact HB.out)⟩
             ·replace c20 := Bool.eq_false_iff.mpr c20
              subst c20
              have H1 : (if t327 = 0 then (if x8_2.length < 17592186044416 then (expr_degrees.l0 kj13 a0 a1 (x8_2 ++ [t326]) l2 (l2.length : Int) (wrap64 (x31_2 + 1))) else (none)) else (some (([] : List Int), t327))) = some (r1, r2) := by rw [if_neg (show ¬ (false = true) by decide)] at H; exact H
              clear H
              have H := H1
              clear H1
              by_cases c21 : t327 = 0
              ·rw [if_pos c21] at H
               have c21b0 : (t327 == 0) = true := beq_iff_eq.mpr c21
               have c21b1 : (t327 != 0) = false := bne_eq_false_iff_eq.mpr c21
               clear c21
               by_cases c22 : x8_2.length < 17592186044416
               ·rw [if_pos c22] at H
                have LMc22 := Aside0.mk c22
                clear c22
                obtain ⟨y328, hy328⟩ : ∃ y_ : List Int, y_ = (x8_2 ++ [t326]) := ⟨_, rfl⟩
                replace H : (expr_degrees.l0 kj13 a0 a1 y328 l2 (l2.length : Int) (wrap64 (x31_2 + 1))) = some (r1, r2) := by first | (rw [hy328]; with_reducible exact H) | (have H2_ := (Option.bind_some _ _).symm.trans H; rw [hy328]; with_reducible exact H2_) | (have H2_ := (Option.bind_some _ _).symm.trans H; with_reducible exact H2_) | with_reducible exact H | (rw [hy328]; exact H) | exact H
                have Ny328 := Aside0.mk hy328
                clear hy328
                have H' := Aside0.mk H
                clear H
                go_wp2_with (first | ((with_reducible refine gate_builtin (b := .append) (xs := #[.tmp 52, .tmp 54]) rfl ?_); at_builtin; refine Kd.R_append (Kd.int .i64) (w0 := w) w.heap.size rfl (.tmp 52) (.tmp 54) 80 3 (.int .i64 0) 8 rfl Try.underlying80 info3 rfl (by decide) (by omega) (.slice Ao17 x8_2.length co17) x8_2 t326 [.int .i64 t326] (fun _ => True) (fun _ => False) rfl rfl ?aP (fun _ hk => hk.elim) ?aF ?aO ?aB ?aS ?aL ?_; (case aP => exact rfl); (case aB => exact (by repeat (first | (with_reducible first | exact HB.out | apply bA | apply bN | apply bD | refine bS ?_ GE325.out) | exact HB.out))); (case aF => exact (fun _ _ => trivial)); (case aO => exact (by exact rF HO_8.out)); (case aS => exact (below_size (by repeat (first | (with_reducible first | exact HB.out | apply bA | apply bN | apply bD | refine bS ?_ GE325.out) | exact HB.out)))); (case aL => have := LMc22.out; omega); intro v329 w23 ho hb hg hat; rw [← Ny328.out] at ho; have n0_ := Aside0.mk (blk_grown (g := gb325) (o := .cells #[.int .i64 ((rd_T149 l2 x31_2).f0), .int .i64 ((rd_T149 l2 x31_2).f1), .int .i64 ((rd_T149 l2 x31_2).f2), .int .u64 ((rd_T149 l2 x31_2).f3.f0), .int .u64 ((rd_T149 l2 x31_2).f3.f1)] 149 (0, 0)) (by exact bF BK325.out) hg (Kd.R_ne HO_8.out BK325.out (by decide))); have n1_ := Aside0.mk (hb); have n2_ := Aside0.mk (ho); clear BK325; clear HB; clear HO_8; have BK325 := n0_; have HB := n1_; have HO330 := n2_; clear n0_ n1_ n2_; clear ho hb hg hat))
                go_roundg kj13
                case measure => have := HJ3.out; have := HK2.out; have := HJ13.out; omega
                case rel => exact ⟨(y328), (wrap64 (x31_2 + 1)), (by first | rfl | (simp; done) | (simp [*]; done)), H', ⟨by have := HJ3.out; have := HK2.out; have := HJ13.out; omega⟩, ⟨by exact rF HO330.out⟩, ⟨by repeat (first | (with_reducible first | exact HB.out | apply bA | apply bN | apply bD | refine bS ?_ GE325.out) | exact HB.out)⟩⟩
               ·rw [if_neg c22] at H
                exact absurd H (by simp)
              ·rw [if_neg c21] at H
               have c21b0 : (t327 == 0) = false := beq_eq_false_iff_ne.mpr c21
               have c21b1 : (t327 != 0) = true := bne_iff_ne.mpr c21
               simp only [Option.some.injEq, Prod.mk.injEq] at H
               obtain ⟨rfl, rfl⟩ := H
               go_wp2
               go_ret2
               exact ⟨_, by first | rfl | (simp [errW_none, errW_some] <;> rfl) | (simp [*, errW_none, errW_some] <;> rfl), by first | exact Kd.R_nil _ _ _ _ _ | exact Kd.N_nil _ _ _ _ _ | exact Kd.V_nil _ _ _ _ _ | exact Kd.Q_nil _ _ _ _ _ | exact Kd.S_nil _ _ _ _ _, by repeat (first | (with_reducible first | exact HB.out | apply bA | apply bN | apply bD | refine bS ?_ GE325.out) | exact HB.out)⟩
          ·rw [if_neg c12] at H
           exact absurd H (by simp)
         ·rw [if_neg c11] at H
          exact absurd H (by simp)
        ·rw [if_neg c10] at H
         have c10b0 : decide (x31_2 < (l2.length : Int)) = false := decide_eq_false c10
         clear c10
         simp only [Option.some.injEq, Prod.mk.injEq] at H
         obtain ⟨rfl, rfl⟩ := H
         go_wp2
         go_ret2
         exact ⟨_, by first | rfl | (simp [errW_none, errW_some] <;> rfl) | (simp [*, errW_none, errW_some] <;> rfl), by exact rF HO_8.out, by repeat (first | (with_reducible first | exact HB.out | apply bA | apply bN | apply bD) | exact HB.out)⟩
def expr_Check.f (k : Nat) (a0 : Int) (a1 : Int) (l2 : List (S149)) : Option (Int) := (expr_degrees.f k a0 a1 l2).bind fun bt331 => (some bt331.2)
set_option maxHeartbeats 8000000 in
set_option maxRecDepth 100000 in
theorem expr_Check.calls (k : Nat) (a0 : Int) (a1 : Int) (A2 : Option Addr) (c2 : Nat) (l2 : List (S149)) (r : Int) (w : World) (hr2 : Kd.C k149 w A2 l2.length l2) (hc2 : l2.length ≤ c2) (h : expr_Check.f k a0 a1 l2 = some r) :
  Calls Try.prog 91 #[.int .i64 a0, .int .i64 a1, .slice A2 l2.length c2] w fun e w' => e = .returned (.int .i64 r) ∧ Below w.heap.size w w' := by
 have HR2 := Aside0.mk hr2
 have HC2 := Aside0.mk hc2
 clear hr2 hc2
 have HB := Aside0.mk (Below.refl w.heap.size w)
 have H : ((expr_degrees.f k a0 a1 l2).bind fun bt331 => (some bt331.2)) = some r := h
 clear h
 replace H := Option.bind_eq_some_iff.mp H
 obtain ⟨⟨t331, t332⟩, A40, H⟩ := H
 replace H : (some t332) = some r := H
 have A4 := Aside0.mk A40
 clear A40
 obtain rfl := Option.some.inj H
 go_enter Try.func91, Try.ntmps91
 go_wp2_with (first | ((with_reducible refine gate_callee (f := 132) rfl ?_); refine goesL_ (some 13) rfl rfl Try.func132 (by kernel_rfl) rfl #[.int .i64 a0, .int .i64 a1, .slice A2 l2.length c2] rfl (by (try simp only [List.map_toArray, List.map_cons, List.map_nil]); first | done | rfl | (simp only [List.length_drop, List.length_take]; rfl)) ?_; (with_reducible refine (expr_degrees.calls k a0 a1 _ _ l2 t331 t332 _ ?side1 ?side2 A4.out).mono ?_); (case side1 => repeat (first | exact HR2.out | (with_reducible refine Kd.C_alloc ?_ _) | (with_reducible refine Kd.C_drewN ?_ _) | (with_reducible refine Kd.C_drew ?_))); (case side2 => exact HC2.out); rintro e w5 ⟨v333, rfl, ho0, hb⟩; refine ⟨_, rfl, ?_⟩; have n0_ := Aside0.mk (Kd.R_lower ho0 (below_size (by exact lF HB.out))); have n1_ := Aside0.mk (below_step (by exact lF HB.out) hb); clear HB; have HO334 := n0_; have HB := n1_; clear n0_ n1_; (try clear hb); (try clear hb2); (try clear hk); (try clear hi); (try clear ho0)))
 go_ret
 exact ⟨by first | rfl | (simp [errW_none, errW_some] <;> rfl) | (simp [*, errW_none, errW_some] <;> rfl), by repeat (first | (with_reducible first | exact HB.out | apply bA | apply bN | apply bD) | exact HB.out)⟩
def tower_halves.f (a0 : Int) (a1 : Int) : Option (Int × Int) := if 0 ≤ (wrap64 (a0 - 1)) then (if 0 ≤ (shl .i64 1 (wrap64 (a0 - 1))) then (some (shr .u64 a1 (shl .i64 1 (wrap64 (a0 - 1))), Go.bits .and .u64 a1 (IntKind.u64.wrap ((shl .u64 1 (shl .i64 1 (wrap64 (a0 - 1)))) - 1)))) else (none)) else (none)
set_option maxHeartbeats 8000000 in
set_option maxRecDepth 100000 in
theorem tower_halves.calls (a0 : Int) (a1 : Int) (r1 : Int) (r2 : Int) (w : World) (h : tower_halves.f a0 a1 = some (r1, r2)) :
  Calls Try.prog 170 #[.int .i64 a0, .int .u64 a1] w fun e w' => e = .returned (.tuple #[.int .u64 r1, .int .u64 r2]) ∧ Drawn0 w w' := by
 have H : (if 0 ≤ (wrap64 (a0 - 1)) then (if 0 ≤ (shl .i64 1 (wrap64 (a0 - 1))) then (some (shr .u64 a1 (shl .i64 1 (wrap64 (a0 - 1))), Go.bits .and .u64 a1 (IntKind.u64.wrap ((shl .u64 1 (shl .i64 1 (wrap64 (a0 - 1)))) - 1)))) else (none)) else (none)) = some (r1, r2) := h
 clear h
 obtain ⟨ji3, hji3⟩ : ∃ j_ : Int, (wrap64 (a0 - 1)) = j_ := ⟨_, rfl⟩
 replace H : (if 0 ≤ (ji3) then (if 0 ≤ (shl .i64 1 (ji3)) then (some (shr .u64 a1 (shl .i64 1 (ji3)), Go.bits .and .u64 a1 (IntKind.u64.wrap ((shl .u64 1 (shl .i64 1 (ji3))) - 1)))) else (none)) else (none)) = some (r1, r2) := by first | (rw [hji3] at H; exact H) | (simp only [hji3] at H ⊢; exact H)
 have hji3w : (IntKind.i64.wrap (a0 - 1)) = ji3 := (i64_w _).trans hji3
 by_cases c4 : 0 ≤ (ji3)
 ·rw [if_pos c4] at H
  have c4b0 := eq_true c4
  have c4b1 : decide (0 ≤ (ji3)) = true := decide_eq_true c4
  clear c4
  obtain ⟨ji5, hji5⟩ : ∃ j_ : Int, (shl .i64 1 (ji3)) = j_ := ⟨_, rfl⟩
  replace H : (if 0 ≤ (ji5) then (some (shr .u64 a1 (ji5), Go.bits .and .u64 a1 (IntKind.u64.wrap ((shl .u64 1 (ji5)) - 1)))) else (none)) = some (r1, r2) := by first | (rw [hji5] at H; exact H) | (simp only [hji5] at H ⊢; exact H)
  have hji5_ : (IntKind.i64.wrap (1 * 2 ^ min (ji3).toNat 64)) = ji5 := hji5
  have hji5z : (ji3) ≤ 64 → (IntKind.i64.wrap (1 * 2 ^ (ji3).toNat)) = ji5 := shl_small hji5
  have hji5u : (IntKind.i64.wrap (2 ^ min (ji3).toNat 64)) = ji5 := by have h_ := hji5_; rw [Int.one_mul] at h_; exact h_
  have hji5v : (ji3) ≤ 64 → (IntKind.i64.wrap (2 ^ (ji3).toNat)) = ji5 := fun hle_ => by have h_ := hji5z hle_; rw [Int.one_mul] at h_; exact h_
  have hji5y : (wrap64 (1 * 2 ^ min (ji3).toNat 64)) = ji5 := (i64_w _).symm.trans hji5_
  have hji5x : (ji3) ≤ 64 → (wrap64 (1 * 2 ^ (ji3).toNat)) = ji5 := fun h_ => (i64_w _).symm.trans (hji5z h_)
  by_cases c6 : 0 ≤ (ji5)
  ·rw [if_pos c6] at H
   have c6b0 := eq_true c6
   have c6b1 : decide (0 ≤ (ji5)) = true := decide_eq_true c6
   clear c6
   obtain ⟨ji7, hji7⟩ : ∃ j_ : Int, (shr .u64 a1 (ji5)) = j_ := ⟨_, rfl⟩
   replace H : (some (ji7, Go.bits .and .u64 a1 (IntKind.u64.wrap ((shl .u64 1 (ji5)) - 1)))) = some (r1, r2) := by first | (rw [hji7] at H; exact H) | (simp only [hji7] at H ⊢; exact H)
   have hji7_ : (a1 / 2 ^ min (ji5).toNat 64) = ji7 := hji7
   have hji7z : (ji5) ≤ 64 → (a1 / 2 ^ (ji5).toNat) = ji7 := shr_small hji7
   have c8b0 := eq_true (of_decide_eq_true (by first | (with_reducible assumption) | assumption) : 0 ≤ (ji5))
   obtain ⟨ji9, hji9⟩ : ∃ j_ : Int, (shl .u64 1 (ji5)) = j_ := ⟨_, rfl⟩
   replace H : (some (ji7, Go.bits .and .u64 a1 (IntKind.u64.wrap ((ji9) - 1)))) = some (r1, r2) := by first | (rw [hji9] at H; exact H) | (simp only [hji9] at H ⊢; exact H)
   have hji9N : 0 ≤ ji9 := by rw [← hji9]; exact wrap_u64_nonneg _
   have hji9O := eq_true hji9N
   have hji9_ : (IntKind.u64.wrap (1 * 2 ^ min (ji5).toNat 64)) = ji9 := hji9
   have hji9z : (ji5) ≤ 64 → (IntKind.u64.wrap (1 * 2 ^ (ji5).toNat)) = ji9 := shl_small hji9
   have hji9u : (IntKind.u64.wrap (2 ^ min (ji5).toNat 64)) = ji9 := by have h_ := hji9_; rw [Int.one_mul] at h_; exact h_
   have hji9v : (ji5) ≤ 64 → (IntKind.u64.wrap (2 ^ (ji5).toNat)) = ji9 := fun hle_ => by have h_ := hji9z hle_; rw [Int.one_mul] at h_; exact h_
   simp only [Option.some.injEq, Prod.mk.injEq] at H
   obtain ⟨rfl, rfl⟩ := H
   go_enter Try.func170, Try.ntmps170
   go_wp2
   repeat (go_quiet (fail); try go_wp2)
   go_ret2
   exact ⟨by first | rfl | (simp; done) | (simp only [← hji3, ← hji5, ← hji7, ← hji9] <;> (first | rfl | simp)) | (simp [*]; done), by repeat (first | exact Drawn0.refl _ | apply Drawn0.step)⟩
  ·rw [if_neg c6] at H
   exact absurd H (by simp)
 ·rw [if_neg c4] at H
  exact absurd H (by simp)
def tower_join.f (a0 : Int) (a1 : Int) (a2 : Int) : Option (Int) := if 0 ≤ (wrap64 (a0 - 1)) then (some (Go.bits .or .u64 (shl .u64 a1 (shl .u64 1 (wrap64 (a0 - 1)))) a2)) else (none)
set_option maxHeartbeats 8000000 in
set_option maxRecDepth 100000 in
theorem tower_join.calls (a0 : Int) (a1 : Int) (a2 : Int) (r : Int) (w : World) (h : tower_join.f a0 a1 a2 = some r) :
  Calls Try.prog 171 #[.int .i64 a0, .int .u64 a1, .int .u64 a2] w fun e w' => e = .returned (.int .u64 r) ∧ Drawn0 w w' := by
 have H : (if 0 ≤ (wrap64 (a0 - 1)) then (some (Go.bits .or .u64 (shl .u64 a1 (shl .u64 1 (wrap64 (a0 - 1)))) a2)) else (none)) = some r := h
 clear h
 obtain ⟨ji4, hji4⟩ : ∃ j_ : Int, (wrap64 (a0 - 1)) = j_ := ⟨_, rfl⟩
 replace H : (if 0 ≤ (ji4) then (some (Go.bits .or .u64 (shl .u64 a1 (shl .u64 1 (ji4))) a2)) else (none)) = some r := by first | (rw [hji4] at H; exact H) | (simp only [hji4] at H ⊢; exact H)
 have hji4w : (IntKind.i64.wrap (a0 - 1)) = ji4 := (i64_w _).trans hji4
 by_cases c5 : 0 ≤ (ji4)
 ·rw [if_pos c5] at H
  have c5b0 := eq_true c5
  have c5b1 : decide (0 ≤ (ji4)) = true := decide_eq_true c5
  clear c5
  obtain ⟨ji6, hji6⟩ : ∃ j_ : Int, (shl .u64 1 (ji4)) = j_ := ⟨_, rfl⟩
  replace H : (some (Go.bits .or .u64 (shl .u64 a1 (ji6)) a2)) = some r := by first | (rw [hji6] at H; exact H) | (simp only [hji6] at H ⊢; exact H)
  have hji6N : 0 ≤ ji6 := by rw [← hji6]; exact wrap_u64_nonneg _
  have hji6O := eq_true hji6N
  have hji6_ : (IntKind.u64.wrap (1 * 2 ^ min (ji4).toNat 64)) = ji6 := hji6
  have hji6z : (ji4) ≤ 64 → (IntKind.u64.wrap (1 * 2 ^ (ji4).toNat)) = ji6 := shl_small hji6
  have hji6u : (IntKind.u64.wrap (2 ^ min (ji4).toNat 64)) = ji6 := by have h_ := hji6_; rw [Int.one_mul] at h_; exact h_
  have hji6v : (ji4) ≤ 64 → (IntKind.u64.wrap (2 ^ (ji4).toNat)) = ji6 := fun hle_ => by have h_ := hji6z hle_; rw [Int.one_mul] at h_; exact h_
  obtain ⟨ji7, hji7⟩ : ∃ j_ : Int, (shl .u64 a1 (ji6)) = j_ := ⟨_, rfl⟩
  replace H : (some (Go.bits .or .u64 (ji7) a2)) = some r := by first | (rw [hji7] at H; exact H) | (simp only [hji7] at H ⊢; exact H)
  have hji7N : 0 ≤ ji7 := by rw [← hji7]; exact wrap_u64_nonneg _
  have hji7O := eq_true hji7N
  have hji7_ : (IntKind.u64.wrap (a1 * 2 ^ min (ji6).toNat 64)) = ji7 := hji7
  have hji7z : (ji6) ≤ 64 → (IntKind.u64.wrap (a1 * 2 ^ (ji6).toNat)) = ji7 := shl_small hji7
  obtain rfl := Option.some.inj H
  go_enter Try.func171, Try.ntmps171
  go_wp2
  go_ret
  exact ⟨by first | rfl | (simp; done) | (simp only [← hji4, ← hji6, ← hji7] <;> (first | rfl | simp)) | (simp [*]; done), by repeat (first | exact Drawn0.refl _ | apply Drawn0.step)⟩
 ·rw [if_neg c5] at H
  exact absurd H (by simp)
def tower_mulX.f : Nat → Int → Int → Option (Int)
 | 0, _, _ => none
 | k + 1, a0, a1 => if a0 = 0 then (some a1) else ((tower_halves.f a0 a1).bind fun bt335 => ((tower_mulX.f k (wrap64 (a0 - 1)) bt335.1).bind fun t337 => ((tower_join.f a0 (Go.bits .xor .u64 bt335.2 t337) bt335.1).bind fun t338 => (some t338))))
theorem tower_mulX.mono_l : ∀ k, (∀ y0 y1, LeO (tower_mulX.f k y0 y1) (tower_mulX.f (k + 1) y0 y1))
 | 0 => fun _ _ r h => by simp [tower_mulX.f] at h
 | k + 1 => by
  have ih0 := tower_mulX.mono_l k
  ·intro y0 y1
   unfold tower_mulX.f
   repeat' first
   | (with_reducible exact ih0 _ _)
   | (with_reducible exact LeO.refl _)
   | (with_reducible exact LeO.none _)
   | (with_reducible refine LeO.ite ?_ ?_)
   | (with_reducible refine LeO.bind ?_ (fun _ => ?_))
   | exact ih0 _ _
   | exact LeO.none _
   | refine LeO.ite ?_ ?_
   | refine LeO.bind ?_ (fun _ => ?_)
theorem tower_mulX.mono : ∀ a0 a1 k, LeO (tower_mulX.f k a0 a1) (tower_mulX.f (k + 1) a0 a1) := by
 intro a0 a1 k
 have ih0 := tower_mulX.mono_l k
 exact ih0 a0 a1
set_option maxHeartbeats 8000000 in
set_option maxRecDepth 100000 in
theorem tower_mulX.calls (k : Nat) : ∀ (a0 : Int) (a1 : Int) (r : Int) (w : World) (h : tower_mulX.f k a0 a1 = some r),
  Calls Try.prog 150 #[.int .i64 a0, .int .u64 a1] w fun e w' => e = .returned (.int .u64 r) ∧ Drawn0 w w' := by
 induction k using Nat.strongRecOn with
 | _ k ih =>
 intro a0 a1 r w h
 cases k with
 | zero => exact absurd h (by simp [tower_mulX.f])
 | succ k =>
 simp only [tower_mulX.f] at h
 have H : (if a0 = 0 then (some a1) else ((tower_halves.f a0 a1).bind fun bt335 => ((tower_mulX.f k (wrap64 (a0 - 1)) bt335.1).bind fun t337 => ((tower_join.f a0 (Go.bits .xor .u64 bt335.2 t337) bt335.1).bind fun t338 => (some t338))))) = some r := h
 clear h
 by_cases c3 : a0 = 0
 ·rw [if_pos c3] at H
  have c3b0 : (a0 == 0) = true := beq_iff_eq.mpr c3
  have c3b1 : (a0 != 0) = false := bne_eq_false_iff_eq.mpr c3
  clear c3
  obtain rfl := Option.some.inj H
  go_enter Try.func150, Try.ntmps150
  go_wp2
  go_ret
  exact ⟨by first | rfl | (simp; done) | (simp [*]; done), by repeat (first | exact Drawn0.refl _ | apply Drawn0.step)⟩
 ·rw [if_neg c3] at H
  have c3b0 : (a0 == 0) = false := beq_eq_false_iff_ne.mpr c3
  have c3b1 : (a0 != 0) = true := bne_iff_ne.mpr c3
  replace H := Option.bind_eq_some_iff.mp H
  obtain ⟨⟨t335, t336⟩, A40, H⟩ := H
  replace H : ((tower_mulX.f k (wrap64 (a0 - 1)) t335).bind fun t337 => ((tower_join.f a0 (Go.bits .xor .u64 t336 t337) t335).bind fun t338 => (some t338))) = some r := H
  have A4 := Aside0.mk A40
  clear A40
  replace H := Option.bind_eq_some_iff.mp H
  obtain ⟨t337, A50, H⟩ := H
  replace H : ((tower_join.f a0 (Go.bits .xor .u64 t336 t337) t335).bind fun t338 => (some t338)) = some r := H
  have A5 := Aside0.mk A50
  clear A50
  replace H := Option.bind_eq_some_iff.mp H
  obtain ⟨t338, A60, H⟩ := H
  replace H : (some t338) = some r := H
  have A6 := Aside0.mk A60
  clear A60
  obtain rfl := Option.some.inj H
  go_enter Try.func150, Try.ntmps150
  go_wp2_with (first | ((with_reducible refine gate_callee (f := 170) rfl ?_); refine goesL_ (some 13) rfl rfl Try.func170 (by kernel_rfl) rfl #[.int .i64 a0, .int .u64 a1] rfl (by (try simp only [List.map_toArray, List.map_cons, List.map_nil]); first | done | rfl | (simp only [List.length_drop, List.length_take]; rfl)) ?_; (with_reducible refine (tower_halves.calls a0 a1 t335 t336 _ A4.out).mono ?_); rintro e w' ⟨rfl, ⟨nd, rfl⟩⟩; refine ⟨_, rfl, ?_⟩) | ((with_reducible refine gate_callee (f := 150) rfl ?_); refine goesL_ (some 21) rfl rfl Try.func150 (by kernel_rfl) rfl #[.int .i64 (wrap64 (a0 - 1)), .int .u64 t335] rfl (by (try simp only [List.map_toArray, List.map_cons, List.map_nil]); first | done | rfl | (simp only [List.length_drop, List.length_take]; rfl)) ?_; (with_reducible refine (ih k (by omega) (wrap64 (a0 - 1)) t335 t337 _ A5.out).mono ?_); rintro e w' ⟨rfl, ⟨nd, rfl⟩⟩; refine ⟨_, rfl, ?_⟩) | ((with_reducible refine gate_callee (f := 171) rfl ?_); refine goesL_ (some 24) rfl rfl Try.func171 (by kernel_rfl) rfl #[.int .i64 a0, .int .u64 (Go.bits .xor .u64 t336 t337), .int .u64 t335] rfl (by (try simp only [List.map_toArray, List.map_cons, List.map_nil]); first | done | rfl | (simp only [List.length_drop, List.length_take]; rfl)) ?_; (with_reducible refine (tower_join.calls a0 (Go.bits .xor .u64 t336 t337) t335 t338 _ A6.out).mono ?_); rintro e w' ⟨rfl, ⟨nd, rfl⟩⟩; refine ⟨_, rfl, ?_⟩))
  go_ret
  exact ⟨by first | rfl | (simp; done) | (simp [*]; done), by repeat (first | exact Drawn0.refl _ | apply Drawn0.step)⟩
mutual
def tower_mul.j0 : Nat → Int → Int → Int → Bool → Option (Int)
 | 0, _, _, _, _ => none
 | k + 1, x0, x1, x2, x23 => if x23 = true then (some (Go.bits .and .u64 (Go.bits .and .u64 x1 x2) 1)) else ((tower_halves.f x0 x1).bind fun bt339 => ((tower_halves.f x0 x2).bind fun bt341 => ((tower_mul.f k (wrap64 (x0 - 1)) bt339.1 bt341.1).bind fun t343 => ((tower_mul.f k (wrap64 (x0 - 1)) bt339.2 bt341.2).bind fun t344 => ((tower_mul.f k (wrap64 (x0 - 1)) (Go.bits .xor .u64 bt339.1 bt339.2) (Go.bits .xor .u64 bt341.1 bt341.2)).bind fun t345 => ((tower_mulX.f k (wrap64 (x0 - 1)) t343).bind fun t346 => ((tower_join.f x0 (Go.bits .xor .u64 (Go.bits .xor .u64 (Go.bits .xor .u64 t345 t343) t344) t346) (Go.bits .xor .u64 t344 t343)).bind fun t347 => (some t347))))))))
def tower_mul.f : Nat → Int → Int → Int → Option (Int)
 | 0, _, _, _ => none
 | k + 1, a0, a1, a2 => if a0 = 0 then (tower_mul.j0 k a0 a1 a2 true) else (if a1 = 0 then (tower_mul.j0 k a0 a1 a2 true) else (tower_mul.j0 k a0 a1 a2 (a2 == 0)))
end
theorem tower_mul.mono_l : ∀ k, (∀ y0 y1 y2, LeO (tower_mul.f k y0 y1 y2) (tower_mul.f (k + 1) y0 y1 y2)) ∧ (∀ y0 y1 y2 y3, LeO (tower_mul.j0 k y0 y1 y2 y3) (tower_mul.j0 (k + 1) y0 y1 y2 y3))
 | 0 => ⟨fun _ _ _ r h => by simp [tower_mul.f] at h, fun _ _ _ _ r h => by simp [tower_mul.j0] at h⟩
 | k + 1 => by
  obtain ⟨ih0, ih1⟩ := tower_mul.mono_l k
  refine ⟨?_, ?_⟩
  ·intro y0 y1 y2
   unfold tower_mul.f
   repeat' first
   | (with_reducible exact ih0 _ _ _)
   | (with_reducible exact ih1 _ _ _ _)
   | (with_reducible exact tower_mulX.mono _ _ _)
   | (with_reducible exact LeO.refl _)
   | (with_reducible exact LeO.none _)
   | (with_reducible refine LeO.ite ?_ ?_)
   | (with_reducible refine LeO.bind ?_ (fun _ => ?_))
   | exact ih0 _ _ _
   | exact ih1 _ _ _ _
   | exact tower_mulX.mono _ _ _
   | exact LeO.none _
   | refine LeO.ite ?_ ?_
   | refine LeO.bind ?_ (fun _ => ?_)
  ·intro y0 y1 y2 y3
   unfold tower_mul.j0
   repeat' first
   | (with_reducible exact ih0 _ _ _)
   | (with_reducible exact ih1 _ _ _ _)
   | (with_reducible exact tower_mulX.mono _ _ _)
   | (with_reducible exact LeO.refl _)
   | (with_reducible exact LeO.none _)
   | (with_reducible refine LeO.ite ?_ ?_)
   | (with_reducible refine LeO.bind ?_ (fun _ => ?_))
   | exact ih0 _ _ _
   | exact ih1 _ _ _ _
   | exact tower_mulX.mono _ _ _
   | exact LeO.none _
   | refine LeO.ite ?_ ?_
   | refine LeO.bind ?_ (fun _ => ?_)
theorem tower_mul.mono : ∀ a0 a1 a2 k, LeO (tower_mul.f k a0 a1 a2) (tower_mul.f (k + 1) a0 a1 a2) := by
 intro a0 a1 a2 k
 obtain ⟨ih0, ih1⟩ := tower_mul.mono_l k
 exact ih0 a0 a1 a2
set_option maxHeartbeats 8000000 in
set_option maxRecDepth 100000 in
theorem tower_mul.calls (k : Nat) : ∀ (a0 : Int) (a1 : Int) (a2 : Int) (r : Int) (w : World) (h : tower_mul.f k a0 a1 a2 = some r),
  Calls Try.prog 149 #[.int .i64 a0, .int .u64 a1, .int .u64 a2] w fun e w' => e = .returned (.int .u64 r) ∧ Drawn0 w w' := by
 induction k using Nat.strongRecOn with
 | _ k ih =>
 intro a0 a1 a2 r w h
 cases k with
 | zero => exact absurd h (by simp [tower_mul.f])
 | succ k =>
 simp only [tower_mul.f] at h
 have H : (if a0 = 0 then (tower_mul.j0 k a0 a1 a2 true) else (if a1 = 0 then (tower_mul.j0 k a0 a1 a2 true) else (tower_mul.j0 k a0 a1 a2 (a2 == 0)))) = some r := h
 clear h
 have HC4 := Aside0.mk H
 clear H
 go_enter Try.func149, Try.ntmps149
 go_upto_region 1 with (fail)
 go_cut [23] (fun v23 wc => ∃ (kq : Nat) (x23_3 : Bool), v23 = .bool x23_3 ∧ Aside0 (tower_mul.j0 kq a0 a1 a2 x23_3 = some r) ∧ Aside0 (kq ≤ k) ∧ Drawn0 w wc)
 case first =>
  have H := HC4.out
  clear HC4
  by_cases c5 : a0 = 0
  ·rw [if_pos c5] at H
   have c5b0 : (a0 == 0) = true := beq_iff_eq.mpr c5
   have c5b1 : (a0 != 0) = false := bne_eq_false_iff_eq.mpr c5
   clear c5
   (first | rw [c5b0] | (simp only [i64_w, i32_w]; rw [c5b0]) | skip)
   have H' := Aside0.mk H
   clear H
   go_wp2
   go_meet
   case rel => exact ⟨_, (true), (by first | rfl | (simp; done) | (simp [*]; done)), H', ⟨by first | omega | exact Nat.le_refl _⟩, by repeat (first | exact Drawn0.refl _ | apply Drawn0.step)⟩
  ·rw [if_neg c5] at H
   have c5b0 : (a0 == 0) = false := beq_eq_false_iff_ne.mpr c5
   have c5b1 : (a0 != 0) = true := bne_iff_ne.mpr c5
   (first | rw [c5b0] | (simp only [i64_w, i32_w]; rw [c5b0]) | skip)
   by_cases c6 : a1 = 0
   ·rw [if_pos c6] at H
    have c6b0 : (a1 == 0) = true := beq_iff_eq.mpr c6
    have c6b1 : (a1 != 0) = false := bne_eq_false_iff_eq.mpr c6
    clear c6
    have H' := Aside0.mk H
    clear H
    go_wp2
    go_meet
    case rel => exact ⟨_, (true), (by first | rfl | (simp; done) | (simp [*]; done)), H', ⟨by first | omega | exact Nat.le_refl _⟩, by repeat (first | exact Drawn0.refl _ | apply Drawn0.step)⟩
   ·rw [if_neg c6] at H
    have c6b0 : (a1 == 0) = false := beq_eq_false_iff_ne.mpr c6
    have c6b1 : (a1 != 0) = true := bne_iff_ne.mpr c6
    have H' := Aside0.mk H
    clear H
    go_wp2
    go_meet
    case rel => exact ⟨_, ((a2 == 0)), (by first | rfl | (simp; done) | (simp [*]; done)), H', ⟨by first | omega | exact Nat.le_refl _⟩, by repeat (first | exact Drawn0.refl _ | apply Drawn0.step)⟩
 case rest =>
  clear HC4
  try clear c1
  try clear p2
  try clear c5
  try clear c5b0
  try clear c5b1
  try clear c6
  try clear c6b0
  try clear c6b1
  obtain ⟨kq, x23_3, rfl, HA, HJ3, ⟨mc3, rfl⟩⟩ := hcut
  cases kq with
  | zero => exact absurd HA.out (by simp [tower_mul.j0])
  | succ kj3 =>
   have H := HA.out
   clear HA
   simp only [tower_mul.j0] at H
   by_cases c7 : x23_3 = true
   ·subst c7
    have H1 : (some (Go.bits .and .u64 (Go.bits .and .u64 a1 a2) 1)) = some r := by rw [if_pos rfl] at H; exact H
    clear H
    have H := H1
    clear H1
    obtain rfl := Option.some.inj H
    go_wp2
    go_ret
    exact ⟨by first | rfl | (simp; done) | (simp [*]; done), by repeat (first | exact Drawn0.refl _ | apply Drawn0.step)⟩
   ·replace c7 := Bool.eq_false_iff.mpr c7
    subst c7
    have H1 : ((tower_halves.f a0 a1).bind fun bt339 => ((tower_halves.f a0 a2).bind fun bt341 => ((tower_mul.f kj3 (wrap64 (a0 - 1)) bt339.1 bt341.1).bind fun t343 => ((tower_mul.f kj3 (wrap64 (a0 - 1)) bt339.2 bt341.2).bind fun t344 => ((tower_mul.f kj3 (wrap64 (a0 - 1)) (Go.bits .xor .u64 bt339.1 bt339.2) (Go.bits .xor .u64 bt341.1 bt341.2)).bind fun t345 => ((tower_mulX.f kj3 (wrap64 (a0 - 1)) t343).bind fun t346 => ((tower_join.f a0 (Go.bits .xor .u64 (Go.bits .xor .u64 (Go.bits .xor .u64 t345 t343) t344) t346) (Go.bits .xor .u64 t344 t343)).bind fun t347 => (some t347)))))))) = some r := by rw [if_neg (show ¬ (false = true) by decide)] at H; exact H
    clear H
    have H := H1
    clear H1
    replace H := Option.bind_eq_some_iff.mp H
    obtain ⟨⟨t339, t340⟩, A80, H⟩ := H
    replace H : ((tower_halves.f a0 a2).bind fun bt341 => ((tower_mul.f kj3 (wrap64 (a0 - 1)) t339 bt341.1).bind fun t343 => ((tower_mul.f kj3 (wrap64 (a0 - 1)) t340 bt341.2).bind fun t344 => ((tower_mul.f kj3 (wrap64 (a0 - 1)) (Go.bits .xor .u64 t339 t340) (Go.bits .xor .u64 bt341.1 bt341.2)).bind fun t345 => ((tower_mulX.f kj3 (wrap64 (a0 - 1)) t343).bind fun t346 => ((tower_join.f a0 (Go.bits .xor .u64 (Go.bits .xor .u64 (Go.bits .xor .u64 t345 t343) t344) t346) (Go.bits .xor .u64 t344 t343)).bind fun t347 => (some t347))))))) = some r := H
    have A8 := Aside0.mk A80
    clear A80
    replace H := Option.bind_eq_some_iff.mp H
    obtain ⟨⟨t341, t342⟩, A90, H⟩ := H
    replace H : ((tower_mul.f kj3 (wrap64 (a0 - 1)) t339 t341).bind fun t343 => ((tower_mul.f kj3 (wrap64 (a0 - 1)) t340 t342).bind fun t344 => ((tower_mul.f kj3 (wrap64 (a0 - 1)) (Go.bits .xor .u64 t339 t340) (Go.bits .xor .u64 t341 t342)).bind fun t345 => ((tower_mulX.f kj3 (wrap64 (a0 - 1)) t343).bind fun t346 => ((tower_join.f a0 (Go.bits .xor .u64 (Go.bits .xor .u64 (Go.bits .xor .u64 t345 t343) t344) t346) (Go.bits .xor .u64 t344 t343)).bind fun t347 => (some t347)))))) = some r := H
    have A9 := Aside0.mk A90
    clear A90
    replace H := Option.bind_eq_some_iff.mp H
    obtain ⟨t343, A100, H⟩ := H
    replace H : ((tower_mul.f kj3 (wrap64 (a0 - 1)) t340 t342).bind fun t344 => ((tower_mul.f kj3 (wrap64 (a0 - 1)) (Go.bits .xor .u64 t339 t340) (Go.bits .xor .u64 t341 t342)).bind fun t345 => ((tower_mulX.f kj3 (wrap64 (a0 - 1)) t343).bind fun t346 => ((tower_join.f a0 (Go.bits .xor .u64 (Go.bits .xor .u64 (Go.bits .xor .u64 t345 t343) t344) t346) (Go.bits .xor .u64 t344 t343)).bind fun t347 => (some t347))))) = some r := H
    have A10 := Aside0.mk A100
    clear A100
    replace H := Option.bind_eq_some_iff.mp H
    obtain ⟨t344, A110, H⟩ := H
    replace H : ((tower_mul.f kj3 (wrap64 (a0 - 1)) (Go.bits .xor .u64 t339 t340) (Go.bits .xor .u64 t341 t342)).bind fun t345 => ((tower_mulX.f kj3 (wrap64 (a0 - 1)) t343).bind fun t346 => ((tower_join.f a0 (Go.bits .xor .u64 (Go.bits .xor .u64 (Go.bits .xor .u64 t345 t343) t344) t346) (Go.bits .xor .u64 t344 t343)).bind fun t347 => (some t347)))) = some r := H
    have A11 := Aside0.mk A110
    clear A110
    replace H := Option.bind_eq_some_iff.mp H
    obtain ⟨t345, A120, H⟩ := H
    replace H : ((tower_mulX.f kj3 (wrap64 (a0 - 1)) t343).bind fun t346 => ((tower_join.f a0 (Go.bits .xor .u64 (Go.bits .xor .u64 (Go.bits .xor .u64 t345 t343) t344) t346) (Go.bits .xor .u64 t344 t343)).bind fun t347 => (some t347))) = some r := H
    have A12 := Aside0.mk A120
    clear A120
    replace H := Option.bind_eq_some_iff.mp H
    obtain ⟨t346, A130, H⟩ := H
    replace H : ((tower_join.f a0 (Go.bits .xor .u64 (Go.bits .xor .u64 (Go.bits .xor .u64 t345 t343) t344) t346) (Go.bits .xor .u64 t344 t343)).bind fun t347 => (some t347)) = some r := H
    have A13 := Aside0.mk A130
    clear A130
    replace H := Option.bind_eq_some_iff.mp H
    obtain ⟨t347, A140, H⟩ := H
    replace H : (some t347) = some r := H
    have A14 := Aside0.mk A140
    clear A140
    obtain rfl := Option.some.inj H
    go_wp2_with (first | ((with_reducible refine gate_callee (f := 170) rfl ?_); refine goesL_ (some 31) rfl rfl Try.func170 (by kernel_rfl) rfl #[.int .i64 a0, .int .u64 a1] rfl (by (try simp only [List.map_toArray, List.map_cons, List.map_nil]); first | done | rfl | (simp only [List.length_drop, List.length_take]; rfl)) ?_; (with_reducible refine (tower_halves.calls a0 a1 t339 t340 _ A8.out).mono ?_); rintro e w' ⟨rfl, ⟨nd, rfl⟩⟩; refine ⟨_, rfl, ?_⟩) | ((with_reducible refine gate_callee (f := 170) rfl ?_); refine goesL_ (some 37) rfl rfl Try.func170 (by kernel_rfl) rfl #[.int .i64 a0, .int .u64 a2] rfl (by (try simp only [List.map_toArray, List.map_cons, List.map_nil]); first | done | rfl | (simp only [List.length_drop, List.length_take]; rfl)) ?_; (with_reducible refine (tower_halves.calls a0 a2 t341 t342 _ A9.out).mono ?_); rintro e w' ⟨rfl, ⟨nd, rfl⟩⟩; refine ⟨_, rfl, ?_⟩) | ((with_reducible refine gate_callee (f := 149) rfl ?_); refine goesL_ (some 44) rfl rfl Try.func149 (by kernel_rfl) rfl #[.int .i64 (wrap64 (a0 - 1)), .int .u64 t339, .int .u64 t341] rfl (by (try simp only [List.map_toArray, List.map_cons, List.map_nil]); first | done | rfl | (simp only [List.length_drop, List.length_take]; rfl)) ?_; (with_reducible refine (ih kj3 (by have := HJ3.out; omega) (wrap64 (a0 - 1)) t339 t341 t343 _ A10.out).mono ?_); rintro e w' ⟨rfl, ⟨nd, rfl⟩⟩; refine ⟨_, rfl, ?_⟩) | ((with_reducible refine gate_callee (f := 149) rfl ?_); refine goesL_ (some 49) rfl rfl Try.func149 (by kernel_rfl) rfl #[.int .i64 (wrap64 (a0 - 1)), .int .u64 t340, .int .u64 t342] rfl (by (try simp only [List.map_toArray, List.map_cons, List.map_nil]); first | done | rfl | (simp only [List.length_drop, List.length_take]; rfl)) ?_; (with_reducible refine (ih kj3 (by have := HJ3.out; omega) (wrap64 (a0 - 1)) t340 t342 t344 _ A11.out).mono ?_); rintro e w' ⟨rfl, ⟨nd, rfl⟩⟩; refine ⟨_, rfl, ?_⟩) | ((with_reducible refine gate_callee (f := 149) rfl ?_); refine goesL_ (some 58) rfl rfl Try.func149 (by kernel_rfl) rfl #[.int .i64 (wrap64 (a0 - 1)), .int .u64 (Go.bits .xor .u64 t339 t340), .int .u64 (Go.bits .xor .u64 t341 t342)] rfl (by (try simp only [List.map_toArray, List.map_cons, List.map_nil]); first | done | rfl | (simp only [List.length_drop, List.length_take]; rfl)) ?_; (with_reducible refine (ih kj3 (by have := HJ3.out; omega) (wrap64 (a0 - 1)) (Go.bits .xor .u64 t339 t340) (Go.bits .xor .u64 t341 t342) t345 _ A12.out).mono ?_); rintro e w' ⟨rfl, ⟨nd, rfl⟩⟩; refine ⟨_, rfl, ?_⟩) | ((with_reducible refine gate_callee (f := 150) rfl ?_); refine goesL_ (some 68) rfl rfl Try.func150 (by kernel_rfl) rfl #[.int .i64 (wrap64 (a0 - 1)), .int .u64 t343] rfl (by (try simp only [List.map_toArray, List.map_cons, List.map_nil]); first | done | rfl | (simp only [List.length_drop, List.length_take]; rfl)) ?_; (with_reducible refine (tower_mulX.calls kj3 (wrap64 (a0 - 1)) t343 t346 _ A13.out).mono ?_); rintro e w' ⟨rfl, ⟨nd, rfl⟩⟩; refine ⟨_, rfl, ?_⟩) | ((with_reducible refine gate_callee (f := 171) rfl ?_); refine goesL_ (some 73) rfl rfl Try.func171 (by kernel_rfl) rfl #[.int .i64 a0, .int .u64 (Go.bits .xor .u64 (Go.bits .xor .u64 (Go.bits .xor .u64 t345 t343) t344) t346), .int .u64 (Go.bits .xor .u64 t344 t343)] rfl (by (try simp only [List.map_toArray, List.map_cons, List.map_nil]); first | done | rfl | (simp only [List.length_drop, List.length_take]; rfl)) ?_; (with_reducible refine (tower_join.calls a0 (Go.bits .xor .u64 (Go.bits .xor .u64 (Go.bits .xor .u64 t345 t343) t344) t346) (Go.bits .xor .u64 t344 t343) t347 _ A14.out).mono ?_); rintro e w' ⟨rfl, ⟨nd, rfl⟩⟩; refine ⟨_, rfl, ?_⟩))
    go_ret
    exact ⟨by first | rfl | (simp; done) | (simp [*]; done), by repeat (first | exact Drawn0.refl _ | apply Drawn0.step)⟩
def tower_Mul.j0 : Nat → Int → Bool → Int → Int → Int → Int → Option (Int × Int)
 | 0, _, _, _, _, _, _ => none
 | k + 1, x0, x10, x349000, x349001, x350000, x350001 => if x10 = true then (some (0, 0)) else (if x0 ≤ 6 then ((tower_mul.f k x0 x349001 x350001).bind fun t353 => (some (0, t353))) else ((tower_mul.f k 6 x349000 x350000).bind fun t354 => ((tower_mul.f k 6 x349001 x350001).bind fun t355 => ((tower_mul.f k 6 (Go.bits .xor .u64 x349000 x349001) (Go.bits .xor .u64 x350000 x350001)).bind fun t356 => ((tower_mulX.f k 6 t354).bind fun t357 => (some (Go.bits .xor .u64 (Go.bits .xor .u64 (Go.bits .xor .u64 t356 t354) t355) t357, Go.bits .xor .u64 t355 t354)))))))
def tower_Mul.f (k : Nat) (a0 : Int) (a1_0 : Int) (a1_1 : Int) (a2_0 : Int) (a2_1 : Int) : Option (Int × Int) := (octet_Of.f a0 a1_0 a1_1).bind fun t351 => (if t351 = true then ((octet_Of.f a0 a2_0 a2_1).bind fun t352 => (tower_Mul.j0 k a0 (!t352) a1_0 a1_1 a2_0 a2_1)) else (tower_Mul.j0 k a0 true a1_0 a1_1 a2_0 a2_1))
theorem tower_Mul.mono_l : ∀ k, (∀ y0 y1 y2 y3 y4 y5, LeO (tower_Mul.j0 k y0 y1 y2 y3 y4 y5) (tower_Mul.j0 (k + 1) y0 y1 y2 y3 y4 y5))
 | 0 => fun _ _ _ _ _ _ r h => by simp [tower_Mul.j0] at h
 | k + 1 => by
  have ih0 := tower_Mul.mono_l k
  ·intro y0 y1 y2 y3 y4 y5
   unfold tower_Mul.j0
   repeat' first
   | (with_reducible exact ih0 _ _ _ _ _ _)
   | (with_reducible exact tower_mul.mono _ _ _ _)
   | (with_reducible exact tower_mulX.mono _ _ _)
   | (with_reducible exact LeO.refl _)
   | (with_reducible exact LeO.none _)
   | (with_reducible refine LeO.ite ?_ ?_)
   | (with_reducible refine LeO.bind ?_ (fun _ => ?_))
   | exact ih0 _ _ _ _ _ _
   | exact tower_mul.mono _ _ _ _
   | exact tower_mulX.mono _ _ _
   | exact LeO.none _
   | refine LeO.ite ?_ ?_
   | refine LeO.bind ?_ (fun _ => ?_)
theorem tower_Mul.mono : ∀ a0 a1 a2 a3 a4 k, LeO (tower_Mul.f k a0 a1 a2 a3 a4) (tower_Mul.f (k + 1) a0 a1 a2 a3 a4) := by
 intro a0 a1 a2 a3 a4 k
 have ih0 := tower_Mul.mono_l k
 unfold tower_Mul.f
 repeat' first
   | (with_reducible exact ih0 _ _ _ _ _ _)
   | (with_reducible exact tower_mul.mono _ _ _ _)
   | (with_reducible exact tower_mulX.mono _ _ _)
   | (with_reducible exact LeO.refl _)
   | (with_reducible exact LeO.none _)
   | (with_reducible refine LeO.ite ?_ ?_)
   | (with_reducible refine LeO.bind ?_ (fun _ => ?_))
   | exact ih0 _ _ _ _ _ _
   | exact tower_mul.mono _ _ _ _
   | exact tower_mulX.mono _ _ _
   | exact LeO.none _
   | refine LeO.ite ?_ ?_
   | refine LeO.bind ?_ (fun _ => ?_)
set_option maxHeartbeats 8000000 in
set_option maxRecDepth 100000 in
theorem tower_Mul.calls (k : Nat) (a0 : Int) (a1_0 : Int) (a1_1 : Int) (a2_0 : Int) (a2_1 : Int) (r1 : Int) (r2 : Int) (w : World) (h : tower_Mul.f k a0 a1_0 a1_1 a2_0 a2_1 = some (r1, r2)) :
  Calls Try.prog 114 #[.int .i64 a0, .agg #[.int .u64 a1_0, .int .u64 a1_1], .agg #[.int .u64 a2_0, .int .u64 a2_1]] w fun e w' => e = .returned (.agg #[.int .u64 r1, .int .u64 r2]) ∧ Below w.heap.size w w' := by
 have hu28 := Try.underlying28
 have HB := Aside0.mk (Below.refl w.heap.size w)
 have H : ((octet_Of.f a0 a1_0 a1_1).bind fun t351 => (if t351 = true then ((octet_Of.f a0 a2_0 a2_1).bind fun t352 => (tower_Mul.j0 k a0 (!t352) a1_0 a1_1 a2_0 a2_1)) else (tower_Mul.j0 k a0 true a1_0 a1_1 a2_0 a2_1))) = some (r1, r2) := h
 clear h
 have HC4 := Aside0.mk H
 clear H
 go_enter Try.func114, Try.ntmps114
 go_upto_region 1 with (first | ((with_reducible refine gate_dst (N := 4) rfl ?_); refine box_event ?hg (N := 4) ?hd (cs := #[.int .u64 a1_0, .int .u64 a1_1]) (t := 28) ?hr ?_; (case hd => rfl); (case hg => rfl); (case hr => first | (go_simp; done) | (go_simp; rfl)); intro gb348 hg w5 hbox hb; have n0_ := Aside0.mk (below_step (by exact lF HB.out) hb); have n1_ := Aside0.mk (hbox); have n2_ := Aside0.mk ((by rw [hg]; exact (below_size (by exact lF HB.out)) : w.heap.size ≤ gb348)); have n3_ := Aside0.mk ((by rw [hg]; exact (below_size (by exact lF HB.out)) : w.heap.size ≤ gb348)); clear HB; have HB := n0_; have BK348 := n1_; have GW348 := n2_; have GE348 := n3_; clear n0_ n1_ n2_ n3_; clear hb hbox hg) | ((with_reducible refine gate_dst (N := 5) rfl ?_); refine box_event ?hg (N := 5) ?hd (cs := #[.int .u64 a2_0, .int .u64 a2_1]) (t := 28) ?hr ?_; (case hd => rfl); (case hg => rfl); (case hr => first | (go_simp; done) | (go_simp; rfl)); intro gb349 hg w6 hbox hb; have n0_ := Aside0.mk (blk_below (g := gb348) (o := .cells #[.int .u64 a1_0, .int .u64 a1_1] 28 (0, 0)) (by exact bF BK348.out) hb); have n1_ := Aside0.mk (below_step (by repeat (first | (with_reducible first | exact HB.out | apply bA | apply bN | apply bD | refine bS ?_ GE348.out) | exact HB.out)) hb); have n2_ := Aside0.mk (hbox); have n3_ := Aside0.mk ((by rw [hg]; exact (below_size (by repeat (first | (with_reducible first | exact HB.out | apply bA | apply bN | apply bD | refine bS ?_ GE348.out) | exact HB.out))) : w.heap.size ≤ gb349)); have n4_ := Aside0.mk ((by rw [hg]; exact (below_size (by repeat (first | (with_reducible first | exact HB.out | apply bA | apply bN | apply bD | refine bS ?_ GE348.out) | exact HB.out))) : w.heap.size ≤ gb349)); have n5_ := Aside0.mk ((by rw [hg]; exact Nat.ne_of_lt (blk_lt (g := gb348) (o := .cells #[.int .u64 a1_0, .int .u64 a1_1] 28 (0, 0)) (by exact bF BK348.out)) : gb348 ≠ gb349)); have n6_ := Aside0.mk ((by rw [hg]; exact Nat.ne_of_gt (blk_lt (g := gb348) (o := .cells #[.int .u64 a1_0, .int .u64 a1_1] 28 (0, 0)) (by exact bF BK348.out)) : gb349 ≠ gb348)); clear BK348; clear HB; have BK348 := n0_; have HB := n1_; have BK349 := n2_; have GW349 := n3_; have GE349 := n4_; have NB348_349 := n5_; have NB349_348 := n6_; clear n0_ n1_ n2_ n3_ n4_ n5_ n6_; clear hb hbox hg) | ((with_reducible refine gate_dst (N := 6) rfl ?_); refine box_event ?hg (N := 6) ?hd (cs := #[.int .u64 0, .int .u64 0]) (t := 28) ?hr ?_; (case hd => rfl); (case hg => rfl); (case hr => first | (go_simp; done) | (go_simp; rfl)); intro gb350 hg w7 hbox hb; have n0_ := Aside0.mk (blk_below (g := gb348) (o := .cells #[.int .u64 a1_0, .int .u64 a1_1] 28 (0, 0)) (by exact bF BK348.out) hb); have n1_ := Aside0.mk (blk_below (g := gb349) (o := .cells #[.int .u64 a2_0, .int .u64 a2_1] 28 (0, 0)) (by exact bF BK349.out) hb); have n2_ := Aside0.mk (below_step (by repeat (first | (with_reducible first | exact HB.out | apply bA | apply bN | apply bD | refine bS ?_ GE348.out | refine bS ?_ GE349.out) | exact HB.out)) hb); have n3_ := Aside0.mk (hbox); have n4_ := Aside0.mk ((by rw [hg]; exact (below_size (by repeat (first | (with_reducible first | exact HB.out | apply bA | apply bN | apply bD | refine bS ?_ GE348.out | refine bS ?_ GE349.out) | exact HB.out))) : w.heap.size ≤ gb350)); have n5_ := Aside0.mk ((by rw [hg]; exact (below_size (by repeat (first | (with_reducible first | exact HB.out | apply bA | apply bN | apply bD | refine bS ?_ GE348.out | refine bS ?_ GE349.out) | exact HB.out))) : w.heap.size ≤ gb350)); have n6_ := Aside0.mk ((by rw [hg]; exact Nat.ne_of_lt (blk_lt (g := gb348) (o := .cells #[.int .u64 a1_0, .int .u64 a1_1] 28 (0, 0)) (by exact bF BK348.out)) : gb348 ≠ gb350)); have n7_ := Aside0.mk ((by rw [hg]; exact Nat.ne_of_gt (blk_lt (g := gb348) (o := .cells #[.int .u64 a1_0, .int .u64 a1_1] 28 (0, 0)) (by exact bF BK348.out)) : gb350 ≠ gb348)); have n8_ := Aside0.mk ((by rw [hg]; exact Nat.ne_of_lt (blk_lt (g := gb349) (o := .cells #[.int .u64 a2_0, .int .u64 a2_1] 28 (0, 0)) (by exact bF BK349.out)) : gb349 ≠ gb350)); have n9_ := Aside0.mk ((by rw [hg]; exact Nat.ne_of_gt (blk_lt (g := gb349) (o := .cells #[.int .u64 a2_0, .int .u64 a2_1] 28 (0, 0)) (by exact bF BK349.out)) : gb350 ≠ gb349)); clear BK348; clear BK349; clear HB; have BK348 := n0_; have BK349 := n1_; have HB := n2_; have BK350 := n3_; have GW350 := n4_; have GE350 := n5_; have NB348_350 := n6_; have NB350_348 := n7_; have NB349_350 := n8_; have NB350_349 := n9_; clear n0_ n1_ n2_ n3_ n4_ n5_ n6_ n7_ n8_ n9_; clear hb hbox hg))
 repeat (go_quiet (first | ((with_reducible refine gate_dst (N := 4) rfl ?_); refine box_event ?hg (N := 4) ?hd (cs := #[.int .u64 a1_0, .int .u64 a1_1]) (t := 28) ?hr ?_; (case hd => rfl); (case hg => rfl); (case hr => first | (go_simp; done) | (go_simp; rfl)); intro gb348 hg w5 hbox hb; have n0_ := Aside0.mk (below_step (by exact lF HB.out) hb); have n1_ := Aside0.mk (hbox); have n2_ := Aside0.mk ((by rw [hg]; exact (below_size (by exact lF HB.out)) : w.heap.size ≤ gb348)); have n3_ := Aside0.mk ((by rw [hg]; exact (below_size (by exact lF HB.out)) : w.heap.size ≤ gb348)); clear HB; have HB := n0_; have BK348 := n1_; have GW348 := n2_; have GE348 := n3_; clear n0_ n1_ n2_ n3_; clear hb hbox hg) | ((with_reducible refine gate_dst (N := 5) rfl ?_); refine box_event ?hg (N := 5) ?hd (cs := #[.int .u64 a2_0, .int .u64 a2_1]) (t := 28) ?hr ?_; (case hd => rfl); (case hg => rfl); (case hr => first | (go_simp; done) | (go_simp; rfl)); intro gb349 hg w6 hbox hb; have n0_ := Aside0.mk (blk_below (g := gb348) (o := .cells #[.int .u64 a1_0, .int .u64 a1_1] 28 (0, 0)) (by exact bF BK348.out) hb); have n1_ := Aside0.mk (below_step (by repeat (first | (with_reducible first | exact HB.out | apply bA | apply bN | apply bD | refine bS ?_ GE348.out) | exact HB.out)) hb); have n2_ := Aside0.mk (hbox); have n3_ := Aside0.mk ((by rw [hg]; exact (below_size (by repeat (first | (with_reducible first | exact HB.out | apply bA | apply bN | apply bD | refine bS ?_ GE348.out) | exact HB.out))) : w.heap.size ≤ gb349)); have n4_ := Aside0.mk ((by rw [hg]; exact (below_size (by repeat (first | (with_reducible first | exact HB.out | apply bA | apply bN | apply bD | refine bS ?_ GE348.out) | exact HB.out))) : w.heap.size ≤ gb349)); have n5_ := Aside0.mk ((by rw [hg]; exact Nat.ne_of_lt (blk_lt (g := gb348) (o := .cells #[.int .u64 a1_0, .int .u64 a1_1] 28 (0, 0)) (by exact bF BK348.out)) : gb348 ≠ gb349)); have n6_ := Aside0.mk ((by rw [hg]; exact Nat.ne_of_gt (blk_lt (g := gb348) (o := .cells #[.int .u64 a1_0, .int .u64 a1_1] 28 (0, 0)) (by exact bF BK348.out)) : gb349 ≠ gb348)); clear BK348; clear HB; have BK348 := n0_; have HB := n1_; have BK349 := n2_; have GW349 := n3_; have GE349 := n4_; have NB348_349 := n5_; have NB349_348 := n6_; clear n0_ n1_ n2_ n3_ n4_ n5_ n6_; clear hb hbox hg) | ((with_reducible refine gate_dst (N := 6) rfl ?_); refine box_event ?hg (N := 6) ?hd (cs := #[.int .u64 0, .int .u64 0]) (t := 28) ?hr ?_; (case hd => rfl); (case hg => rfl); (case hr => first | (go_simp; done) | (go_simp; rfl)); intro gb350 hg w7 hbox hb; have n0_ := Aside0.mk (blk_below (g := gb348) (o := .cells #[.int .u64 a1_0, .int .u64 a1_1] 28 (0, 0)) (by exact bF BK348.out) hb); have n1_ := Aside0.mk (blk_below (g := gb349) (o := .cells #[.int .u64 a2_0, .int .u64 a2_1] 28 (0, 0)) (by exact bF BK349.out) hb); have n2_ := Aside0.mk (below_step (by repeat (first | (with_reducible first | exact HB.out | apply bA | apply bN | apply bD | refine bS ?_ GE348.out | refine bS ?_ GE349.out) | exact HB.out)) hb); have n3_ := Aside0.mk (hbox); have n4_ := Aside0.mk ((by rw [hg]; exact (below_size (by repeat (first | (with_reducible first | exact HB.out | apply bA | apply bN | apply bD | refine bS ?_ GE348.out | refine bS ?_ GE349.out) | exact HB.out))) : w.heap.size ≤ gb350)); have n5_ := Aside0.mk ((by rw [hg]; exact (below_size (by repeat (first | (with_reducible first | exact HB.out | apply bA | apply bN | apply bD | refine bS ?_ GE348.out | refine bS ?_ GE349.out) | exact HB.out))) : w.heap.size ≤ gb350)); have n6_ := Aside0.mk ((by rw [hg]; exact Nat.ne_of_lt (blk_lt (g := gb348) (o := .cells #[.int .u64 a1_0, .int .u64 a1_1] 28 (0, 0)) (by exact bF BK348.out)) : gb348 ≠ gb350)); have n7_ := Aside0.mk ((by rw [hg]; exact Nat.ne_of_gt (blk_lt (g := gb348) (o := .cells #[.int .u64 a1_0, .int .u64 a1_1] 28 (0, 0)) (by exact bF BK348.out)) : gb350 ≠ gb348)); have n8_ := Aside0.mk ((by rw [hg]; exact Nat.ne_of_lt (blk_lt (g := gb349) (o := .cells #[.int .u64 a2_0, .int .u64 a2_1] 28 (0, 0)) (by exact bF BK349.out)) : gb349 ≠ gb350)); have n9_ := Aside0.mk ((by rw [hg]; exact Nat.ne_of_gt (blk_lt (g := gb349) (o := .cells #[.int .u64 a2_0, .int .u64 a2_1] 28 (0, 0)) (by exact bF BK349.out)) : gb350 ≠ gb349)); clear BK348; clear BK349; clear HB; have BK348 := n0_; have BK349 := n1_; have HB := n2_; have BK350 := n3_; have GW350 := n4_; have GE350 := n5_; have NB348_350 := n6_; have NB350_348 := n7_; have NB349_350 := n8_; have NB350_349 := n9_; clear n0_ n1_ n2_ n3_ n4_ n5_ n6_ n7_ n8_ n9_; clear hb hbox hg)); go_upto_region 1 with (first | ((with_reducible refine gate_dst (N := 4) rfl ?_); refine box_event ?hg (N := 4) ?hd (cs := #[.int .u64 a1_0, .int .u64 a1_1]) (t := 28) ?hr ?_; (case hd => rfl); (case hg => rfl); (case hr => first | (go_simp; done) | (go_simp; rfl)); intro gb348 hg w5 hbox hb; have n0_ := Aside0.mk (below_step (by exact lF HB.out) hb); have n1_ := Aside0.mk (hbox); have n2_ := Aside0.mk ((by rw [hg]; exact (below_size (by exact lF HB.out)) : w.heap.size ≤ gb348)); have n3_ := Aside0.mk ((by rw [hg]; exact (below_size (by exact lF HB.out)) : w.heap.size ≤ gb348)); clear HB; have HB := n0_; have BK348 := n1_; have GW348 := n2_; have GE348 := n3_; clear n0_ n1_ n2_ n3_; clear hb hbox hg) | ((with_reducible refine gate_dst (N := 5) rfl ?_); refine box_event ?hg (N := 5) ?hd (cs := #[.int .u64 a2_0, .int .u64 a2_1]) (t := 28) ?hr ?_; (case hd => rfl); (case hg => rfl); (case hr => first | (go_simp; done) | (go_simp; rfl)); intro gb349 hg w6 hbox hb; have n0_ := Aside0.mk (blk_below (g := gb348) (o := .cells #[.int .u64 a1_0, .int .u64 a1_1] 28 (0, 0)) (by exact bF BK348.out) hb); have n1_ := Aside0.mk (below_step (by repeat (first | (with_reducible first | exact HB.out | apply bA | apply bN | apply bD | refine bS ?_ GE348.out) | exact HB.out)) hb); have n2_ := Aside0.mk (hbox); have n3_ := Aside0.mk ((by rw [hg]; exact (below_size (by repeat (first | (with_reducible first | exact HB.out | apply bA | apply bN | apply bD | refine bS ?_ GE348.out) | exact HB.out))) : w.heap.size ≤ gb349)); have n4_ := Aside0.mk ((by rw [hg]; exact (below_size (by repeat (first | (with_reducible first | exact HB.out | apply bA | apply bN | apply bD | refine bS ?_ GE348.out) | exact HB.out))) : w.heap.size ≤ gb349)); have n5_ := Aside0.mk ((by rw [hg]; exact Nat.ne_of_lt (blk_lt (g := gb348) (o := .cells #[.int .u64 a1_0, .int .u64 a1_1] 28 (0, 0)) (by exact bF BK348.out)) : gb348 ≠ gb349)); have n6_ := Aside0.mk ((by rw [hg]; exact Nat.ne_of_gt (blk_lt (g := gb348) (o := .cells #[.int .u64 a1_0, .int .u64 a1_1] 28 (0, 0)) (by exact bF BK348.out)) : gb349 ≠ gb348)); clear BK348; clear HB; have BK348 := n0_; have HB := n1_; have BK349 := n2_; have GW349 := n3_; have GE349 := n4_; have NB348_349 := n5_; have NB349_348 := n6_; clear n0_ n1_ n2_ n3_ n4_ n5_ n6_; clear hb hbox hg) | ((with_reducible refine gate_dst (N := 6) rfl ?_); refine box_event ?hg (N := 6) ?hd (cs := #[.int .u64 0, .int .u64 0]) (t := 28) ?hr ?_; (case hd => rfl); (case hg => rfl); (case hr => first | (go_simp; done) | (go_simp; rfl)); intro gb350 hg w7 hbox hb; have n0_ := Aside0.mk (blk_below (g := gb348) (o := .cells #[.int .u64 a1_0, .int .u64 a1_1] 28 (0, 0)) (by exact bF BK348.out) hb); have n1_ := Aside0.mk (blk_below (g := gb349) (o := .cells #[.int .u64 a2_0, .int .u64 a2_1] 28 (0, 0)) (by exact bF BK349.out) hb); have n2_ := Aside0.mk (below_step (by repeat (first | (with_reducible first | exact HB.out | apply bA | apply bN | apply bD | refine bS ?_ GE348.out | refine bS ?_ GE349.out) | exact HB.out)) hb); have n3_ := Aside0.mk (hbox); have n4_ := Aside0.mk ((by rw [hg]; exact (below_size (by repeat (first | (with_reducible first | exact HB.out | apply bA | apply bN | apply bD | refine bS ?_ GE348.out | refine bS ?_ GE349.out) | exact HB.out))) : w.heap.size ≤ gb350)); have n5_ := Aside0.mk ((by rw [hg]; exact (below_size (by repeat (first | (with_reducible first | exact HB.out | apply bA | apply bN | apply bD | refine bS ?_ GE348.out | refine bS ?_ GE349.out) | exact HB.out))) : w.heap.size ≤ gb350)); have n6_ := Aside0.mk ((by rw [hg]; exact Nat.ne_of_lt (blk_lt (g := gb348) (o := .cells #[.int .u64 a1_0, .int .u64 a1_1] 28 (0, 0)) (by exact bF BK348.out)) : gb348 ≠ gb350)); have n7_ := Aside0.mk ((by rw [hg]; exact Nat.ne_of_gt (blk_lt (g := gb348) (o := .cells #[.int .u64 a1_0, .int .u64 a1_1] 28 (0, 0)) (by exact bF BK348.out)) : gb350 ≠ gb348)); have n8_ := Aside0.mk ((by rw [hg]; exact Nat.ne_of_lt (blk_lt (g := gb349) (o := .cells #[.int .u64 a2_0, .int .u64 a2_1] 28 (0, 0)) (by exact bF BK349.out)) : gb349 ≠ gb350)); have n9_ := Aside0.mk ((by rw [hg]; exact Nat.ne_of_gt (blk_lt (g := gb349) (o := .cells #[.int .u64 a2_0, .int .u64 a2_1] 28 (0, 0)) (by exact bF BK349.out)) : gb350 ≠ gb349)); clear BK348; clear BK349; clear HB; have BK348 := n0_; have BK349 := n1_; have HB := n2_; have BK350 := n3_; have GW350 := n4_; have GE350 := n5_; have NB348_350 := n6_; have NB350_348 := n7_; have NB349_350 := n8_; have NB350_349 := n9_; clear n0_ n1_ n2_ n3_ n4_ n5_ n6_ n7_ n8_ n9_; clear hb hbox hg)))
 (try simp only [Act.put, List.setIfInBounds_toArray, List.set_cons_zero, List.set_cons_succ])
 go_cut [10] (fun v10 wc => ∃ (kq : Nat) (x10_3 : Bool), v10 = .bool x10_3 ∧ Aside0 (tower_Mul.j0 kq a0 x10_3 a1_0 a1_1 a2_0 a2_1 = some (r1, r2)) ∧ Aside0 (kq ≤ k) ∧ Aside0 (wc.heap[gb348]? = some (.cells #[.int .u64 a1_0, .int .u64 a1_1] 28 (0, 0))) ∧ Aside0 (wc.heap[gb349]? = some (.cells #[.int .u64 a2_0, .int .u64 a2_1] 28 (0, 0))) ∧ Aside0 (wc.heap[gb350]? = some (.cells #[.int .u64 0, .int .u64 0] 28 (0, 0))) ∧ Aside0 (Below w.heap.size w wc))
 case first =>
  have H := HC4.out
  clear HC4
  replace H := Option.bind_eq_some_iff.mp H
  obtain ⟨t351, A80, H⟩ := H
  replace H : (if t351 = true then ((octet_Of.f a0 a2_0 a2_1).bind fun t352 => (tower_Mul.j0 k a0 (!t352) a1_0 a1_1 a2_0 a2_1)) else (tower_Mul.j0 k a0 true a1_0 a1_1 a2_0 a2_1)) = some (r1, r2) := H
  have A8 := Aside0.mk A80
  clear A80
  by_cases c9 : t351 = true
  ·subst c9
   have H1 : ((octet_Of.f a0 a2_0 a2_1).bind fun t352 => (tower_Mul.j0 k a0 (!t352) a1_0 a1_1 a2_0 a2_1)) = some (r1, r2) := by rw [if_pos rfl] at H; exact H
   clear H
   have H := H1
   clear H1
   replace H := Option.bind_eq_some_iff.mp H
   obtain ⟨t352, A100, H⟩ := H
   replace H : (tower_Mul.j0 k a0 (!t352) a1_0 a1_1 a2_0 a2_1) = some (r1, r2) := H
   have A10 := Aside0.mk A100
   clear A100
   have H' := Aside0.mk H
   clear H
   have hnb11 := NB348_349.out
   have hnc11 := NB349_348.out
   have hnb12 := NB348_350.out
   have hnc12 := NB350_348.out
   have hcz13_0 : w7.cell? ⟨gb348, 0, none⟩ = some (.int .u64 a1_0) := (blk_cell BK348.out 0).trans rfl
   have hcz13_1 : w7.cell? ⟨gb348, 1, none⟩ = some (.int .u64 a1_1) := (blk_cell BK348.out 1).trans rfl
   have hfz13_0 := blk_frozen BK348.out 0
   have hfz13_1 := blk_frozen BK348.out 1
   go_wp2_with (first | (go_at_call 81; (with_reducible refine (octet_Of.calls a0 a1_0 a1_1 true _ A8.out).mono ?_); rintro e w14 ⟨rfl, hb⟩; have n0_ := Aside0.mk (blk_below (g := gb348) (o := .cells #[.int .u64 a1_0, .int .u64 a1_1] 28 (0, 0)) (by exact bF BK348.out) hb); have n1_ := Aside0.mk (blk_below (g := gb349) (o := .cells #[.int .u64 a2_0, .int .u64 a2_1] 28 (0, 0)) (by exact bF BK349.out) hb); have n2_ := Aside0.mk (blk_below (g := gb350) (o := .cells #[.int .u64 0, .int .u64 0] 28 (0, 0)) (by exact bF BK350.out) hb); have n3_ := Aside0.mk (below_step (by repeat (first | (with_reducible first | exact HB.out | apply bA | apply bN | apply bD | refine bS ?_ GE348.out | refine bS ?_ GE349.out | refine bS ?_ GE350.out) | exact HB.out)) hb); clear BK348; clear BK349; clear BK350; clear HB; have BK348 := n0_; have BK349 := n1_; have BK350 := n2_; have HB := n3_; clear n0_ n1_ n2_ n3_; (try clear hb); (try clear hb2); (try clear hk); (try clear hi); have hnb15 := NB349_350.out; have hnc15 := NB350_349.out; have hcz16_0 : w14.cell? ⟨gb349, 0, none⟩ = some (.int .u64 a2_0) := (blk_cell BK349.out 0).trans rfl; have hcz16_1 : w14.cell? ⟨gb349, 1, none⟩ = some (.int .u64 a2_1) := (blk_cell BK349.out 1).trans rfl; have hfz16_0 := blk_frozen BK349.out 0; have hfz16_1 := blk_frozen BK349.out 1) | (go_at_call 81; (with_reducible refine (octet_Of.calls a0 a2_0 a2_1 t352 _ A10.out).mono ?_); rintro e w17 ⟨rfl, hb⟩; have n0_ := Aside0.mk (blk_below (g := gb348) (o := .cells #[.int .u64 a1_0, .int .u64 a1_1] 28 (0, 0)) (by exact bF BK348.out) hb); have n1_ := Aside0.mk (blk_below (g := gb349) (o := .cells #[.int .u64 a2_0, .int .u64 a2_1] 28 (0, 0)) (by exact bF BK349.out) hb); have n2_ := Aside0.mk (blk_below (g := gb350) (o := .cells #[.int .u64 0, .int .u64 0] 28 (0, 0)) (by exact bF BK350.out) hb); have n3_ := Aside0.mk (below_step (by repeat (first | (with_reducible first | exact HB.out | apply bA | apply bN | apply bD | refine bS ?_ GE348.out | refine bS ?_ GE349.out | refine bS ?_ GE350.out) | exact HB.out)) hb); clear BK348; clear BK349; clear BK350; clear HB; have BK348 := n0_; have BK349 := n1_; have BK350 := n2_; have HB := n3_; clear n0_ n1_ n2_ n3_; (try clear hb); (try clear hb2); (try clear hk); (try clear hi)))
   repeat (go_quiet (first | (go_at_call 81; (with_reducible refine (octet_Of.calls a0 a1_0 a1_1 true _ A8.out).mono ?_); rintro e w14 ⟨rfl, hb⟩; have n0_ := Aside0.mk (blk_below (g := gb348) (o := .cells #[.int .u64 a1_0, .int .u64 a1_1] 28 (0, 0)) (by exact bF BK348.out) hb); have n1_ := Aside0.mk (blk_below (g := gb349) (o := .cells #[.int .u64 a2_0, .int .u64 a2_1] 28 (0, 0)) (by exact bF BK349.out) hb); have n2_ := Aside0.mk (blk_below (g := gb350) (o := .cells #[.int .u64 0, .int .u64 0] 28 (0, 0)) (by exact bF BK350.out) hb); have n3_ := Aside0.mk (below_step (by repeat (first | (with_reducible first | exact HB.out | apply bA | apply bN | apply bD | refine bS ?_ GE348.out | refine bS ?_ GE349.out | refine bS ?_ GE350.out) | exact HB.out)) hb); clear BK348; clear BK349; clear BK350; clear HB; have BK348 := n0_; have BK349 := n1_; have BK350 := n2_; have HB := n3_; clear n0_ n1_ n2_ n3_; (try clear hb); (try clear hb2); (try clear hk); (try clear hi); have hnb15 := NB349_350.out; have hnc15 := NB350_349.out; have hcz16_0 : w14.cell? ⟨gb349, 0, none⟩ = some (.int .u64 a2_0) := (blk_cell BK349.out 0).trans rfl; have hcz16_1 : w14.cell? ⟨gb349, 1, none⟩ = some (.int .u64 a2_1) := (blk_cell BK349.out 1).trans rfl; have hfz16_0 := blk_frozen BK349.out 0; have hfz16_1 := blk_frozen BK349.out 1) | (go_at_call 81; (with_reducible refine (octet_Of.calls a0 a2_0 a2_1 t352 _ A10.out).mono ?_); rintro e w17 ⟨rfl, hb⟩; have n0_ := Aside0.mk (blk_below (g := gb348) (o := .cells #[.int .u64 a1_0, .int .u64 a1_1] 28 (0, 0)) (by exact bF BK348.out) hb); have n1_ := Aside0.mk (blk_below (g := gb349) (o := .cells #[.int .u64 a2_0, .int .u64 a2_1] 28 (0, 0)) (by exact bF BK349.out) hb); have n2_ := Aside0.mk (blk_below (g := gb350) (o := .cells #[.int .u64 0, .int .u64 0] 28 (0, 0)) (by exact bF BK350.out) hb); have n3_ := Aside0.mk (below_step (by repeat (first | (with_reducible first | exact HB.out | apply bA | apply bN | apply bD | refine bS ?_ GE348.out | refine bS ?_ GE349.out | refine bS ?_ GE350.out) | exact HB.out)) hb); clear BK348; clear BK349; clear BK350; clear HB; have BK348 := n0_; have BK349 := n1_; have BK350 := n2_; have HB := n3_; clear n0_ n1_ n2_ n3_; (try clear hb); (try clear hb2); (try clear hk); (try clear hi))); try go_wp2_with (first | (go_at_call 81; (with_reducible refine (octet_Of.calls a0 a1_0 a1_1 true _ A8.out).mono ?_); rintro e w14 ⟨rfl, hb⟩; have n0_ := Aside0.mk (blk_below (g := gb348) (o := .cells #[.int .u64 a1_0, .int .u64 a1_1] 28 (0, 0)) (by exact bF BK348.out) hb); have n1_ := Aside0.mk (blk_below (g := gb349) (o := .cells #[.int .u64 a2_0, .int .u64 a2_1] 28 (0, 0)) (by exact bF BK349.out) hb); have n2_ := Aside0.mk (blk_below (g := gb350) (o := .cells #[.int .u64 0, .int .u64 0] 28 (0, 0)) (by exact bF BK350.out) hb); have n3_ := Aside0.mk (below_step (by repeat (first | (with_reducible first | exact HB.out | apply bA | apply bN | apply bD | refine bS ?_ GE348.out | refine bS ?_ GE349.out | refine bS ?_ GE350.out) | exact HB.out)) hb); clear BK348; clear BK349; clear BK350; clear HB; have BK348 := n0_; have BK349 := n1_; have BK350 := n2_; have HB := n3_; clear n0_ n1_ n2_ n3_; (try clear hb); (try clear hb2); (try clear hk); (try clear hi); have hnb15 := NB349_350.out; have hnc15 := NB350_349.out; have hcz16_0 : w14.cell? ⟨gb349, 0, none⟩ = some (.int .u64 a2_0) := (blk_cell BK349.out 0).trans rfl; have hcz16_1 : w14.cell? ⟨gb349, 1, none⟩ = some (.int .u64 a2_1) := (blk_cell BK349.out 1).trans rfl; have hfz16_0 := blk_frozen BK349.out 0; have hfz16_1 := blk_frozen BK349.out 1) | (go_at_call 81; (with_reducible refine (octet_Of.calls a0 a2_0 a2_1 t352 _ A10.out).mono ?_); rintro e w17 ⟨rfl, hb⟩; have n0_ := Aside0.mk (blk_below (g := gb348) (o := .cells #[.int .u64 a1_0, .int .u64 a1_1] 28 (0, 0)) (by exact bF BK348.out) hb); have n1_ := Aside0.mk (blk_below (g := gb349) (o := .cells #[.int .u64 a2_0, .int .u64 a2_1] 28 (0, 0)) (by exact bF BK349.out) hb); have n2_ := Aside0.mk (blk_below (g := gb350) (o := .cells #[.int .u64 0, .int .u64 0] 28 (0, 0)) (by exact bF BK350.out) hb); have n3_ := Aside0.mk (below_step (by repeat (first | (with_reducible first | exact HB.out | apply bA | apply bN | apply bD | refine bS ?_ GE348.out | refine bS ?_ GE349.out | refine bS ?_ GE350.out) | exact HB.out)) hb); clear BK348; clear BK349; clear BK350; clear HB; have BK348 := n0_; have BK349 := n1_; have BK350 := n2_; have HB := n3_; clear n0_ n1_ n2_ n3_; (try clear hb); (try clear hb2); (try clear hk); (try clear hi))))
   go_meet
   case rel => exact ⟨_, (!t352), (by first | rfl | (simp; done) | (simp [*]; done)), H', ⟨by first | omega | exact Nat.le_refl _⟩, ⟨by exact bF BK348.out⟩, ⟨by exact bF BK349.out⟩, ⟨by exact bF BK350.out⟩, ⟨by repeat (first | (with_reducible first | exact HB.out | apply bA | apply bN | apply bD | refine bS ?_ GE348.out | refine bS ?_ GE349.out | refine bS ?_ GE350.out) | exact HB.out)⟩⟩
  ·replace c9 := Bool.eq_false_iff.mpr c9
   subst c9
   have H1 : (tower_Mul.j0 k a0 true a1_0 a1_1 a2_0 a2_1) = some (r1, r2) := by rw [if_neg (show ¬ (false = true) by decide)] at H; exact H
   clear H
   have H := H1
   clear H1
   have H' := Aside0.mk H
   clear H
   have hnb18 := NB348_349.out
   have hnc18 := NB349_348.out
   have hnb19 := NB348_350.out
   have hnc19 := NB350_348.out
   have hcz20_0 : w7.cell? ⟨gb348, 0, none⟩ = some (.int .u64 a1_0) := (blk_cell BK348.out 0).trans rfl
   have hcz20_1 : w7.cell? ⟨gb348, 1, none⟩ = some (.int .u64 a1_1) := (blk_cell BK348.out 1).trans rfl
   have hfz20_0 := blk_frozen BK348.out 0
   have hfz20_1 := blk_frozen BK348.out 1
   go_wp2_with (first | (go_at_call 81; (with_reducible refine (octet_Of.calls a0 a1_0 a1_1 false _ A8.out).mono ?_); rintro e w21 ⟨rfl, hb⟩; have n0_ := Aside0.mk (blk_below (g := gb348) (o := .cells #[.int .u64 a1_0, .int .u64 a1_1] 28 (0, 0)) (by exact bF BK348.out) hb); have n1_ := Aside0.mk (blk_below (g := gb349) (o := .cells #[.int .u64 a2_0, .int .u64 a2_1] 28 (0, 0)) (by exact bF BK349.out) hb); have n2_ := Aside0.mk (blk_below (g := gb350) (o := .cells #[.int .u64 0, .int .u64 0] 28 (0, 0)) (by exact bF BK350.out) hb); have n3_ := Aside0.mk (below_step (by repeat (first | (with_reducible first | exact HB.out | apply bA | apply bN | apply bD | refine bS ?_ GE348.out | refine bS ?_ GE349.out | refine bS ?_ GE350.out) | exact HB.out)) hb); clear BK348; clear BK349; clear BK350; clear HB; have BK348 := n0_; have BK349 := n1_; have BK350 := n2_; have HB := n3_; clear n0_ n1_ n2_ n3_; (try clear hb); (try clear hb2); (try clear hk); (try clear hi)))
   repeat (go_quiet (first | (go_at_call 81; (with_reducible refine (octet_Of.calls a0 a1_0 a1_1 false _ A8.out).mono ?_); rintro e w21 ⟨rfl, hb⟩; have n0_ := Aside0.mk (blk_below (g := gb348) (o := .cells #[.int .u64 a1_0, .int .u64 a1_1] 28 (0, 0)) (by exact bF BK348.out) hb); have n1_ := Aside0.mk (blk_below (g := gb349) (o := .cells #[.int .u64 a2_0, .int .u64 a2_1] 28 (0, 0)) (by exact bF BK349.out) hb); have n2_ := Aside0.mk (blk_below (g := gb350) (o := .cells #[.int .u64 0, .int .u64 0] 28 (0, 0)) (by exact bF BK350.out) hb); have n3_ := Aside0.mk (below_step (by repeat (first | (with_reducible first | exact HB.out | apply bA | apply bN | apply bD | refine bS ?_ GE348.out | refine bS ?_ GE349.out | refine bS ?_ GE350.out) | exact HB.out)) hb); clear BK348; clear BK349; clear BK350; clear HB; have BK348 := n0_; have BK349 := n1_; have BK350 := n2_; have HB := n3_; clear n0_ n1_ n2_ n3_; (try clear hb); (try clear hb2); (try clear hk); (try clear hi))); try go_wp2_with (first | (go_at_call 81; (with_reducible refine (octet_Of.calls a0 a1_0 a1_1 false _ A8.out).mono ?_); rintro e w21 ⟨rfl, hb⟩; have n0_ := Aside0.mk (blk_below (g := gb348) (o := .cells #[.int .u64 a1_0, .int .u64 a1_1] 28 (0, 0)) (by exact bF BK348.out) hb); have n1_ := Aside0.mk (blk_below (g := gb349) (o := .cells #[.int .u64 a2_0, .int .u64 a2_1] 28 (0, 0)) (by exact bF BK349.out) hb); have n2_ := Aside0.mk (blk_below (g := gb350) (o := .cells #[.int .u64 0, .int .u64 0] 28 (0, 0)) (by exact bF BK350.out) hb); have n3_ := Aside0.mk (below_step (by repeat (first | (with_reducible first | exact HB.out | apply bA | apply bN | apply bD | refine bS ?_ GE348.out | refine bS ?_ GE349.out | refine bS ?_ GE350.out) | exact HB.out)) hb); clear BK348; clear BK349; clear BK350; clear HB; have BK348 := n0_; have BK349 := n1_; have BK350 := n2_; have HB := n3_; clear n0_ n1_ n2_ n3_; (try clear hb); (try clear hb2); (try clear hk); (try clear hi))))
   go_meet
   case rel => exact ⟨_, (true), (by first | rfl | (simp; done) | (simp [*]; done)), H', ⟨by first | omega | exact Nat.le_refl _⟩, ⟨by exact bF BK348.out⟩, ⟨by exact bF BK349.out⟩, ⟨by exact bF BK350.out⟩, ⟨by repeat (first | (with_reducible first | exact HB.out | apply bA | apply bN | apply bD | refine bS ?_ GE348.out | refine bS ?_ GE349.out | refine bS ?_ GE350.out) | exact HB.out)⟩⟩
 case rest =>
  clear HC4
  try clear c1
  try clear p2
  try clear c9
  try clear c11
  try clear c12
  try clear c15
  try clear c18
  try clear c19
  try clear hcz13_0
  try clear hcz13_1
  try clear hcz16_0
  try clear hcz16_1
  try clear hcz20_0
  try clear hcz20_1
  try clear hfz13_0
  try clear hfz13_1
  try clear hfz16_0
  try clear hfz16_1
  try clear hfz20_0
  try clear hfz20_1
  obtain ⟨kq, x10_3, rfl, HA, HJ3, BK348, BK349, BK350, HB⟩ := hcut
  cases kq with
  | zero => exact absurd HA.out (by simp [tower_Mul.j0])
  | succ kj3 =>
   have H := HA.out
   clear HA
   simp only [tower_Mul.j0] at H
   by_cases c22 : x10_3 = true
   ·subst c22
    have H1 : (some (0, 0)) = some (r1, r2) := by rw [if_pos rfl] at H; exact H
    clear H
    have H := H1
    clear H1
    simp only [Option.some.injEq, Prod.mk.injEq] at H
    obtain ⟨rfl, rfl⟩ := H
    have hnb23 := NB350_348.out
    have hnc23 := NB348_350.out
    have hnb24 := NB350_349.out
    have hnc24 := NB349_350.out
    have hcz25_0 : wc.cell? ⟨gb350, 0, none⟩ = some (.int .u64 0) := (blk_cell BK350.out 0).trans rfl
    have hcz25_1 : wc.cell? ⟨gb350, 1, none⟩ = some (.int .u64 0) := (blk_cell BK350.out 1).trans rfl
    have hfz25_0 := blk_frozen BK350.out 0
    have hfz25_1 := blk_frozen BK350.out 1
    go_wp2
    repeat (go_quiet (fail); try go_wp2)
    refine bodyPost_ret (results_cell_row rfl _ _ gb350 28 #[.int .u64 0, .int .u64 0] (0, 0) _ rfl (by (with_reducible repeat (first | refine blk_drewN ?_ _ | refine blk_drew ?_ | refine blk_alloc ?_ _)); refine blk_put (cs := #[.int .u64 0, .int .u64 0]) ?_ 1 _ rfl; (with_reducible repeat (first | refine blk_drewN ?_ _ | refine blk_drew ?_ | refine blk_alloc ?_ _)); refine blk_put (cs := #[.int .u64 0, .int .u64 0]) ?_ 0 _ rfl; exact bF BK350.out) Try.underlying28 rfl (by kernel_rfl)) rfl ?_
    exact ⟨by first | rfl | (simp [errW_none, errW_some] <;> rfl) | (simp [*, errW_none, errW_some] <;> rfl), by repeat (first | (with_reducible first | exact HB.out | apply bA | apply bN | apply bD | refine bS ?_ GE348.out | refine bS ?_ GE349.out | refine bS ?_ GE350.out) | exact HB.out)⟩
   ·replace c22 := Bool.eq_false_iff.mpr c22
    subst c22
    have H1 : (if a0 ≤ 6 then ((tower_mul.f kj3 a0 a1_1 a2_1).bind fun t353 => (some (0, t353))) else ((tower_mul.f kj3 6 a1_0 a2_0).bind fun t354 => ((tower_mul.f kj3 6 a1_1 a2_1).bind fun t355 => ((tower_mul.f kj3 6 (Go.bits .xor .u64 a1_0 a1_1) (Go.bits .xor .u64 a2_0 a2_1)).bind fun t356 => ((tower_mulX.f kj3 6 t354).bind fun t357 => (some (Go.bits .xor .u64 (Go.bits .xor .u64 (Go.bits .xor .u64 t356 t354) t355) t357, Go.bits .xor .u64 t355 t354))))))) = some (r1, r2) := by rw [if_neg (show ¬ (false = true) by decide)] at H; exact H
    clear H
    have H := H1
    clear H1
    by_cases c26 : a0 ≤ 6
    ·rw [if_pos c26] at H
     have c26b0 : decide (a0 ≤ 6) = true := decide_eq_true c26
     clear c26
     replace H := Option.bind_eq_some_iff.mp H
     obtain ⟨t353, A270, H⟩ := H
     replace H : (some (0, t353)) = some (r1, r2) := H
     have A27 := Aside0.mk A270
     clear A270
     simp only [Option.some.injEq, Prod.mk.injEq] at H
     obtain ⟨rfl, rfl⟩ := H
     have hnb28 := NB348_349.out
     have hnc28 := NB349_348.out
     have hnb29 := NB348_350.out
     have hnc29 := NB350_348.out
     have hcz30_0 : wc.cell? ⟨gb348, 0, none⟩ = some (.int .u64 a1_0) := (blk_cell BK348.out 0).trans rfl
     have hcz30_1 : wc.cell? ⟨gb348, 1, none⟩ = some (.int .u64 a1_1) := (blk_cell BK348.out 1).trans rfl
     have hfz30_0 := blk_frozen BK348.out 0
     have hfz30_1 := blk_frozen BK348.out 1
     have hnb31 := NB349_350.out
     have hnc31 := NB350_349.out
     have hcz32_0 : wc.cell? ⟨gb349, 0, none⟩ = some (.int .u64 a2_0) := (blk_cell BK349.out 0).trans rfl
     have hcz32_1 : wc.cell? ⟨gb349, 1, none⟩ = some (.int .u64 a2_1) := (blk_cell BK349.out 1).trans rfl
     have hfz32_0 := blk_frozen BK349.out 0
     have hfz32_1 := blk_frozen BK349.out 1
     go_wp2_with (first | (go_at_call 149; (with_reducible refine (tower_mul.calls kj3 a0 a1_1 a2_1 t353 _ A27.out).mono ?_); rintro e w' ⟨rfl, ⟨nd, rfl⟩⟩; (try first | exact ⟨rfl, _, World.drewN_drewN _ _ _⟩ | exact ⟨rfl, _, Eq.trans (World.drewN_drewN _ _ _) (congrArg (World.drewN _) (Nat.add_assoc _ _ _))⟩); have hcz33_0 : wc.cell? ⟨gb350, 0, none⟩ = some (.int .u64 0) := (blk_cell BK350.out 0).trans rfl; have hcz33_1 : wc.cell? ⟨gb350, 1, none⟩ = some (.int .u64 0) := (blk_cell BK350.out 1).trans rfl; have hfz33_0 := blk_frozen BK350.out 0; have hfz33_1 := blk_frozen BK350.out 1))
     repeat (go_quiet (first | (go_at_call 149; (with_reducible refine (tower_mul.calls kj3 a0 a1_1 a2_1 t353 _ A27.out).mono ?_); rintro e w' ⟨rfl, ⟨nd, rfl⟩⟩; (try first | exact ⟨rfl, _, World.drewN_drewN _ _ _⟩ | exact ⟨rfl, _, Eq.trans (World.drewN_drewN _ _ _) (congrArg (World.drewN _) (Nat.add_assoc _ _ _))⟩); have hcz33_0 : wc.cell? ⟨gb350, 0, none⟩ = some (.int .u64 0) := (blk_cell BK350.out 0).trans rfl; have hcz33_1 : wc.cell? ⟨gb350, 1, none⟩ = some (.int .u64 0) := (blk_cell BK350.out 1).trans rfl; have hfz33_0 := blk_frozen BK350.out 0; have hfz33_1 := blk_frozen BK350.out 1)); try go_wp2_with (first | (go_at_call 149; (with_reducible refine (tower_mul.calls kj3 a0 a1_1 a2_1 t353 _ A27.out).mono ?_); rintro e w' ⟨rfl, ⟨nd, rfl⟩⟩; (try first | exact ⟨rfl, _, World.drewN_drewN _ _ _⟩ | exact ⟨rfl, _, Eq.trans (World.drewN_drewN _ _ _) (congrArg (World.drewN _) (Nat.add_assoc _ _ _))⟩); have hcz33_0 : wc.cell? ⟨gb350, 0, none⟩ = some (.int .u64 0) := (blk_cell BK350.out 0).trans rfl; have hcz33_1 : wc.cell? ⟨gb350, 1, none⟩ = some (.int .u64 0) := (blk_cell BK350.out 1).trans rfl; have hfz33_0 := blk_frozen BK350.out 0; have hfz33_1 := blk_frozen BK350.out 1)))
     refine bodyPost_ret (results_cell_row rfl _ _ gb350 28 #[.int .u64 0, .int .u64 t353] (0, 0) _ rfl (by (with_reducible repeat (first | refine blk_drewN ?_ _ | refine blk_drew ?_ | refine blk_alloc ?_ _)); refine blk_put (cs := #[.int .u64 0, .int .u64 0]) ?_ 1 _ rfl; (with_reducible repeat (first | refine blk_drewN ?_ _ | refine blk_drew ?_ | refine blk_alloc ?_ _)); refine blk_put (cs := #[.int .u64 0, .int .u64 0]) ?_ 0 _ rfl; exact bF BK350.out) Try.underlying28 rfl (by kernel_rfl)) rfl ?_
     exact ⟨by first | rfl | (simp [errW_none, errW_some] <;> rfl) | (simp [*, errW_none, errW_some] <;> rfl), by repeat (first | (with_reducible first | exact HB.out | apply bA | apply bN | apply bD | refine bS ?_ GE348.out | refine bS ?_ GE349.out | refine bS ?_ GE350.out) | exact HB.out)⟩
    ·rw [if_neg c26] at H
     have c26b0 : decide (a0 ≤ 6) = false := decide_eq_false c26
     clear c26
     replace H := Option.bind_eq_some_iff.mp H
     obtain ⟨t354, A340, H⟩ := H
     replace H : ((tower_mul.f kj3 6 a1_1 a2_1).bind fun t355 => ((tower_mul.f kj3 6 (Go.bits .xor .u64 a1_0 a1_1) (Go.bits .xor .u64 a2_0 a2_1)).bind fun t356 => ((tower_mulX.f kj3 6 t354).bind fun t357 => (some (Go.bits .xor .u64 (Go.bits .xor .u64 (Go.bits .xor .u64 t356 t354) t355) t357, Go.bits .xor .u64 t355 t354))))) = some (r1, r2) := H
     have A34 := Aside0.mk A340
     clear A340
     replace H := Option.bind_eq_some_iff.mp H
     obtain ⟨t355, A350, H⟩ := H
     replace H : ((tower_mul.f kj3 6 (Go.bits .xor .u64 a1_0 a1_1) (Go.bits .xor .u64 a2_0 a2_1)).bind fun t356 => ((tower_mulX.f kj3 6 t354).bind fun t357 => (some (Go.bits .xor .u64 (Go.bits .xor .u64 (Go.bits .xor .u64 t356 t354) t355) t357, Go.bits .xor .u64 t355 t354)))) = some (r1, r2) := H
     have A35 := Aside0.mk A350
     clear A350
     replace H := Option.bind_eq_some_iff.mp H
     obtain ⟨t356, A360, H⟩ := H
     replace H : ((tower_mulX.f kj3 6 t354).bind fun t357 => (some (Go.bits .xor .u64 (Go.bits .xor .u64 (Go.bits .xor .u64 t356 t354) t355) t357, Go.bits .xor .u64 t355 t354))) = some (r1, r2) := H
     have A36 := Aside0.mk A360
     clear A360
     replace H := Option.bind_eq_some_iff.mp H
     obtain ⟨t357, A370, H⟩ := H
     replace H : (some (Go.bits .xor .u64 (Go.bits .xor .u64 (Go.bits .xor .u64 t356 t354) t355) t357, Go.bits .xor .u64 t355 t354)) = some (r1, r2) := H
     have A37 := Aside0.mk A370
     clear A370
     simp only [Option.some.injEq, Prod.mk.injEq] at H
     obtain ⟨rfl, rfl⟩ := H
     have hnb38 := NB348_349.out
     have hnc38 := NB349_348.out
     have hnb39 := NB348_350.out
     have hnc39 := NB350_348.out
     have hcz40_0 : wc.cell? ⟨gb348, 0, none⟩ = some (.int .u64 a1_0) := (blk_cell BK348.out 0).trans rfl
     have hcz40_1 : wc.cell? ⟨gb348, 1, none⟩ = some (.int .u64 a1_1) := (blk_cell BK348.out 1).trans rfl
     have hfz40_0 := blk_frozen BK348.out 0
     have hfz40_1 := blk_frozen BK348.out 1
     have hnb41 := NB349_350.out
     have hnc41 := NB350_349.out
     have hcz42_0 : wc.cell? ⟨gb349, 0, none⟩ = some (.int .u64 a2_0) := (blk_cell BK349.out 0).trans rfl
     have hcz42_1 : wc.cell? ⟨gb349, 1, none⟩ = some (.int .u64 a2_1) := (blk_cell BK349.out 1).trans rfl
     have hfz42_0 := blk_frozen BK349.out 0
     have hfz42_1 := blk_frozen BK349.out 1
     go_wp2_with (first | (go_at_call 149; (with_reducible refine (tower_mul.calls kj3 6 a1_0 a2_0 t354 _ A34.out).mono ?_); rintro e w' ⟨rfl, ⟨nd, rfl⟩⟩; (try first | exact ⟨rfl, _, World.drewN_drewN _ _ _⟩ | exact ⟨rfl, _, Eq.trans (World.drewN_drewN _ _ _) (congrArg (World.drewN _) (Nat.add_assoc _ _ _))⟩)) | (go_at_call 149; (with_reducible refine (tower_mul.calls kj3 6 a1_1 a2_1 t355 _ A35.out).mono ?_); rintro e w' ⟨rfl, ⟨nd, rfl⟩⟩; (try first | exact ⟨rfl, _, World.drewN_drewN _ _ _⟩ | exact ⟨rfl, _, Eq.trans (World.drewN_drewN _ _ _) (congrArg (World.drewN _) (Nat.add_assoc _ _ _))⟩)) | (go_at_call 149; (with_reducible refine (tower_mul.calls kj3 6 (Go.bits .xor .u64 a1_0 a1_1) (Go.bits .xor .u64 a2_0 a2_1) t356 _ A36.out).mono ?_); rintro e w' ⟨rfl, ⟨nd, rfl⟩⟩; (try first | exact ⟨rfl, _, World.drewN_drewN _ _ _⟩ | exact ⟨rfl, _, Eq.trans (World.drewN_drewN _ _ _) (congrArg (World.drewN _) (Nat.add_assoc _ _ _))⟩)) | (go_at_call 150; (with_reducible refine (tower_mulX.calls kj3 6 t354 t357 _ A37.out).mono ?_); rintro e w' ⟨rfl, ⟨nd, rfl⟩⟩; (try first | exact ⟨rfl, _, World.drewN_drewN _ _ _⟩ | exact ⟨rfl, _, Eq.trans (World.drewN_drewN _ _ _) (congrArg (World.drewN _) (Nat.add_assoc _ _ _))⟩); have hcz43_0 : wc.cell? ⟨gb350, 0, none⟩ = some (.int .u64 0) := (blk_cell BK350.out 0).trans rfl; have hcz43_1 : wc.cell? ⟨gb350, 1, none⟩ = some (.int .u64 0) := (blk_cell BK350.out 1).trans rfl; have hfz43_0 := blk_frozen BK350.out 0; have hfz43_1 := blk_frozen BK350.out 1))
     repeat (go_quiet (first | (go_at_call 149; (with_reducible refine (tower_mul.calls kj3 6 a1_0 a2_0 t354 _ A34.out).mono ?_); rintro e w' ⟨rfl, ⟨nd, rfl⟩⟩; (try first | exact ⟨rfl, _, World.drewN_drewN _ _ _⟩ | exact ⟨rfl, _, Eq.trans (World.drewN_drewN _ _ _) (congrArg (World.drewN _) (Nat.add_assoc _ _ _))⟩)) | (go_at_call 149; (with_reducible refine (tower_mul.calls kj3 6 a1_1 a2_1 t355 _ A35.out).mono ?_); rintro e w' ⟨rfl, ⟨nd, rfl⟩⟩; (try first | exact ⟨rfl, _, World.drewN_drewN _ _ _⟩ | exact ⟨rfl, _, Eq.trans (World.drewN_drewN _ _ _) (congrArg (World.drewN _) (Nat.add_assoc _ _ _))⟩)) | (go_at_call 149; (with_reducible refine (tower_mul.calls kj3 6 (Go.bits .xor .u64 a1_0 a1_1) (Go.bits .xor .u64 a2_0 a2_1) t356 _ A36.out).mono ?_); rintro e w' ⟨rfl, ⟨nd, rfl⟩⟩; (try first | exact ⟨rfl, _, World.drewN_drewN _ _ _⟩ | exact ⟨rfl, _, Eq.trans (World.drewN_drewN _ _ _) (congrArg (World.drewN _) (Nat.add_assoc _ _ _))⟩)) | (go_at_call 150; (with_reducible refine (tower_mulX.calls kj3 6 t354 t357 _ A37.out).mono ?_); rintro e w' ⟨rfl, ⟨nd, rfl⟩⟩; (try first | exact ⟨rfl, _, World.drewN_drewN _ _ _⟩ | exact ⟨rfl, _, Eq.trans (World.drewN_drewN _ _ _) (congrArg (World.drewN _) (Nat.add_assoc _ _ _))⟩); have hcz43_0 : wc.cell? ⟨gb350, 0, none⟩ = some (.int .u64 0) := (blk_cell BK350.out 0).trans rfl; have hcz43_1 : wc.cell? ⟨gb350, 1, none⟩ = some (.int .u64 0) := (blk_cell BK350.out 1).trans rfl; have hfz43_0 := blk_frozen BK350.out 0; have hfz43_1 := blk_frozen BK350.out 1)); try go_wp2_with (first | (go_at_call 149; (with_reducible refine (tower_mul.calls kj3 6 a1_0 a2_0 t354 _ A34.out).mono ?_); rintro e w' ⟨rfl, ⟨nd, rfl⟩⟩; (try first | exact ⟨rfl, _, World.drewN_drewN _ _ _⟩ | exact ⟨rfl, _, Eq.trans (World.drewN_drewN _ _ _) (congrArg (World.drewN _) (Nat.add_assoc _ _ _))⟩)) | (go_at_call 149; (with_reducible refine (tower_mul.calls kj3 6 a1_1 a2_1 t355 _ A35.out).mono ?_); rintro e w' ⟨rfl, ⟨nd, rfl⟩⟩; (try first | exact ⟨rfl, _, World.drewN_drewN _ _ _⟩ | exact ⟨rfl, _, Eq.trans (World.drewN_drewN _ _ _) (congrArg (World.drewN _) (Nat.add_assoc _ _ _))⟩)) | (go_at_call 149; (with_reducible refine (tower_mul.calls kj3 6 (Go.bits .xor .u64 a1_0 a1_1) (Go.bits .xor .u64 a2_0 a2_1) t356 _ A36.out).mono ?_); rintro e w' ⟨rfl, ⟨nd, rfl⟩⟩; (try first | exact ⟨rfl, _, World.drewN_drewN _ _ _⟩ | exact ⟨rfl, _, Eq.trans (World.drewN_drewN _ _ _) (congrArg (World.drewN _) (Nat.add_assoc _ _ _))⟩)) | (go_at_call 150; (with_reducible refine (tower_mulX.calls kj3 6 t354 t357 _ A37.out).mono ?_); rintro e w' ⟨rfl, ⟨nd, rfl⟩⟩; (try first | exact ⟨rfl, _, World.drewN_drewN _ _ _⟩ | exact ⟨rfl, _, Eq.trans (World.drewN_drewN _ _ _) (congrArg (World.drewN _) (Nat.add_assoc _ _ _))⟩); have hcz43_0 : wc.cell? ⟨gb350, 0, none⟩ = some (.int .u64 0) := (blk_cell BK350.out 0).trans rfl; have hcz43_1 : wc.cell? ⟨gb350, 1, none⟩ = some (.int .u64 0) := (blk_cell BK350.out 1).trans rfl; have hfz43_0 := blk_frozen BK350.out 0; have hfz43_1 := blk_frozen BK350.out 1)))
     refine bodyPost_ret (results_cell_row rfl _ _ gb350 28 #[.int .u64 (Go.bits .xor .u64 (Go.bits .xor .u64 (Go.bits .xor .u64 t356 t354) t355) t357), .int .u64 (Go.bits .xor .u64 t355 t354)] (0, 0) _ rfl (by (with_reducible repeat (first | refine blk_drewN ?_ _ | refine blk_drew ?_ | refine blk_alloc ?_ _)); refine blk_put (cs := #[.int .u64 (Go.bits .xor .u64 (Go.bits .xor .u64 (Go.bits .xor .u64 t356 t354) t355) t357), .int .u64 0]) ?_ 1 _ rfl; (with_reducible repeat (first | refine blk_drewN ?_ _ | refine blk_drew ?_ | refine blk_alloc ?_ _)); refine blk_put (cs := #[.int .u64 0, .int .u64 0]) ?_ 0 _ rfl; exact bF BK350.out) Try.underlying28 rfl (by kernel_rfl)) rfl ?_
     exact ⟨by first | rfl | (simp [errW_none, errW_some] <;> rfl) | (simp [*, errW_none, errW_some] <;> rfl), by repeat (first | (with_reducible first | exact HB.out | apply bA | apply bN | apply bD | refine bS ?_ GE348.out | refine bS ?_ GE349.out | refine bS ?_ GE350.out) | exact HB.out)⟩
end Go.Proofs.Ytoaepfgfbfgcdaa.Q
