/- ZeroCorners: whatever the input, the law returns true, and the input reads as it did. No conditions. -/
import Derived.Test.YtoaepfgfbfgcdaaZkf
import Derived.Test.YtoaepfgfbfgcdaaRows
import Derived.ProofKit
import Derived.OpenShut
import Derived.ShutString
import Derived.SizedLaws
import Derived.Carry
namespace Go.Proofs.Ytoaepfgfbfgcdaa.Q
open Go.RowKit Go.Proofs.YtoaepfgfbfgcdaaW.PrintWords Go.Proofs.YtoaepfgfbfgcdaaW.PrintLast Go.Proofs.YtoaepfgfbfgcdaaW.PrintMore
def degreeS (l : List S149) : Int := mx (if (degS 7 9223372036854775807 l).2 = 0 then rd (degS 7 9223372036854775807 l).1 ((l.length - 1 : Nat) : Int) else -1) 1
theorem degree_ev (l : List S149) : Ev (fun k => sumcheck_degree.f k l) (degreeS l) := by
 simp only [sumcheck_degree.f, expr_Degree.f]
 unfold degreeS
 refine Ev.bind (a := if (degS 7 9223372036854775807 l).2 = 0 then rd (degS 7 9223372036854775807 l).1 ((l.length - 1 : Nat) : Int) else -1) ?_ (Ev.pure _)
 refine Ev.bind (degs_ev 7 9223372036854775807 l) ?_
 by_cases h : (degS 7 9223372036854775807 l).2 = 0
 ·refine Ev.congr (Ev.pos h ?_) (by rw [if_pos h])
  obtain ⟨_, _, _, h1, h2, _⟩ := chk_ok h
  have hl : (degS 7 9223372036854775807 l).1.length = l.length := by
   have h' := h
   unfold degS at h' ⊢
   have e1 : ¬ (wideS 7 = 0 ∨ (9223372036854775807 : Int) < 0) := by decide +kernel
   rw [if_neg e1, if_neg (by omega), if_neg (by omega)] at h' ⊢
   have := (degsL_ok l [] h').2
   simpa using this
  have e : wrap64 (((degS 7 9223372036854775807 l).1.length : Int) - 1) = ((l.length - 1 : Nat) : Int) := by rw [hl, w64_id (by omega) (by omega)]; omega
  rw [e]
  exact Ev.pos (by omega) (Ev.pos (by omega) (Ev.pure _))
 ·exact Ev.congr (Ev.neg h (Ev.pure _)) (by rw [if_neg h])
def fitsS (level d : Int) : Bool := if wideS level = 0 then false else if 0 ≤ d then (if d ≤ 8 then ofB level 0 (IntKind.u64.wrap d) else false) else false
theorem fits_ev (level d : Int) : Ev (fun k => line_Fits.f k level d) (fitsS level d) := by
 simp only [line_Fits.f, line_place.f, octet_Of.f, Option.bind_some]
 refine Ev.bind (wide_ev level) ?_
 unfold fitsS
 exact Ev.ite (fun _ => Ev.pure _) (fun _ => Ev.ite (fun _ => Ev.ite (fun _ => Ev.pure _) (fun _ => Ev.pure _)) (fun _ => Ev.pure _))
def logL : Nat → Nat → Int → Int
 | 0, _, _ => -1
 | f + 1, i, n => if n = shl .i64 1 (i : Int) then (i : Int) else logL f (i + 1) n
def logS (n : Int) : Int := logL 17 0 n
theorem log_l0 (n : Int) : ∀ (f i : Nat), f + i = 17 → Ev (fun k => cube_Log.l0 k n (i : Int)) (logL f i n)
 | 0, i, h => by
  refine Ev.succ ?_
  simp only [cube_Log.l0]
  exact Ev.neg (by omega) (Ev.pure _)
 | f + 1, i, h => by
  have IH := log_l0 n f (i + 1) (by omega)
  refine Ev.succ ?_
  simp only [cube_Log.l0]
  refine Ev.pos (by omega) (Ev.pos (by omega) ?_)
  rw [logL, w64_succ (by omega)]
  exact Ev.ite (fun _ => Ev.pure _) (fun _ => IH)
theorem log_ev (n : Int) : Ev (fun k => cube_Log.f k n) (logS n) := by
 simp only [cube_Log.f]
 exact log_l0 n 17 0 rfl
theorem shl_pow (i : Nat) (h : i < 63) : shl .i64 1 (i : Int) = ((2 ^ i : Nat) : Int) := by
 unfold shl
 have e : min (i : Int).toNat (IntKind.i64).bits = i := by
  have : (IntKind.i64).bits = 64 := rfl
  rw [this]; simp; omega
 rw [e, Int.one_mul]
 have h2 : (2 : Int) ^ i = ((2 ^ i : Nat) : Int) := by simp
 rw [h2]
 have h3 : 2 ^ i < 2 ^ 63 := Nat.pow_lt_pow_right (by decide) h
 rw [i64_w]
 obtain ⟨m, hm⟩ : ∃ m, 2 ^ i = m := ⟨_, rfl⟩
 rw [hm] at h3 ⊢
 exact w64_id (by omega) (by omega)
theorem logL_some (n : Int) : ∀ (f i : Nat), f + i = 17 → 0 ≤ logL f i n → ∃ j : Nat, logL f i n = (j : Int) ∧ j < 17 ∧ n = ((2 ^ j : Nat) : Int)
 | 0, i, h, h0 => by simp [logL] at h0
 | f + 1, i, h, h0 => by
  rw [logL] at h0 ⊢
  by_cases h1 : n = shl .i64 1 (i : Int)
  ·rw [if_pos h1]
   exact ⟨i, rfl, by omega, by rw [h1, shl_pow i (by omega)]⟩
  ·rw [if_neg h1] at h0 ⊢
   exact logL_some n f (i + 1) (by omega) h0
theorem logS_some {n : Int} (h : 0 ≤ logS n) : ∃ j : Nat, logS n = (j : Int) ∧ j < 17 ∧ n = ((2 ^ j : Nat) : Int) := logL_some n 17 0 rfl h
def CheckS (level : Int) (l : List S149) (ts : List (List S28)) : Int :=
 if chkS level (ts.length : Int) l = 0 then (if (ts.length : Int) = 0 then 6 else if fitsS level (degreeS l) = true then (if logS ((rdR ts 0).length : Int) < 0 then 6 else if 12 < logS ((rdR ts 0).length : Int) then 6 else if ts.any (fun t => (t.length : Int) != shl .i64 1 (logS ((rdR ts 0).length : Int))) then 6 else if ts.any (fun t => t.any fun y => !ofB level y.f0 y.f1) then 5 else 0) else 6) else chkS level (ts.length : Int) l
theorem Check_ev (level : Int) (l : List S149) (ts : List (List S28)) : Ev (fun k => sumcheck_Check.f k level l ts) (CheckS level l ts) := by
 simp only [sumcheck_Check.f]
 refine Ev.bind (chk_ev level _ l) ?_
 unfold CheckS
 refine Ev.ite (fun _ => Ev.ite (fun _ => Ev.pure _) (fun _ => ?_)) (fun _ => Ev.pure _)
 refine Ev.bind (degree_ev l) (Ev.bind (fits_ev level _) ?_)
 refine Ev.ite (fun _ => ?_) (fun _ => Ev.pure _)
 refine Ev.bind (log_ev _) ?_
 exact Ev.ite (fun _ => Ev.pure _) (fun _ => Ev.ite (fun _ => Ev.pure _) (fun _ => Ev.pure _))
def TablesOK (level : Int) (N : Nat) (ts : List (List S28)) : Prop := ts ≠ [] ∧ ∀ t ∈ ts, t.length = N ∧ t.all (ofE level) = true
theorem Check_ok {level : Int} {l : List S149} {ts : List (List S28)} (h : CheckS level l ts = 0) : chkS level (ts.length : Int) l = 0 ∧ ∃ n : Nat, n ≤ 12 ∧ (rdR ts 0).length = 2 ^ n ∧ logS ((rdR ts 0).length : Int) = (n : Int) ∧ TablesOK level (2 ^ n) ts := by
 unfold CheckS at h
 by_cases h1 : chkS level (ts.length : Int) l = 0
 ·rw [if_pos h1] at h
  refine ⟨h1, ?_⟩
  by_cases h2 : (ts.length : Int) = 0
  ·rw [if_pos h2] at h; simp at h
  rw [if_neg h2] at h
  by_cases h3 : fitsS level (degreeS l) = true
  ·rw [if_pos h3] at h
   by_cases h4 : logS ((rdR ts 0).length : Int) < 0
   ·rw [if_pos h4] at h; simp at h
   rw [if_neg h4] at h
   by_cases h5 : 12 < logS ((rdR ts 0).length : Int)
   ·rw [if_pos h5] at h; simp at h
   rw [if_neg h5] at h
   obtain ⟨n, e1, _, e2⟩ := logS_some (show 0 ≤ logS ((rdR ts 0).length : Int) by omega)
   rw [e1, shl_pow n (by omega)] at h
   cases h6 : ts.any (fun t => (t.length : Int) != ((2 ^ n : Nat) : Int)) with
   | true => rw [h6] at h; simp at h
   | false =>
    cases h7 : ts.any (fun t => t.any fun y => !ofB level y.f0 y.f1) with
    | true => rw [h6, h7] at h; simp at h
    | false =>
     refine ⟨n, by omega, by exact_mod_cast e2, e1, fun e => by rw [e] at h2; simp at h2, fun t ht => ?_⟩
     rw [List.any_eq_false] at h6 h7
     refine ⟨?_, ?_⟩
     ·have := h6 t ht
      simp only [bne_iff_ne, ne_eq, Decidable.not_not] at this
      exact_mod_cast this
     ·have := h7 t ht
      rw [List.all_eq_true]
      intro y hy
      have h8 : ¬ (t.any fun y => !ofB level y.f0 y.f1) = true := this
      rw [List.any_eq_true] at h8
      cases hb : ofE level y with
      | true => rfl
      | false => exact absurd ⟨y, hy, by simpa [ofE] using hb⟩ h8
  ·rw [if_neg h3] at h; simp at h
 ·rw [if_neg h1] at h
  exact absurd h h1
def colS (ts : List (List S28)) (i : Int) : List S28 := ts.map fun t => rd_T28 t i
def sumL (level : Int) (l : List S149) (ts : List (List S28)) : Nat → Nat → S28 → S28
 | 0, _, acc => acc
 | f + 1, i, acc => sumL level l ts f (i + 1) (xorE acc (EvalS level l (colS ts i)).1)
theorem set_part {α : Type} (a : List α) (z x : α) (n : Nat) : (a ++ List.replicate (n + 1) z).set a.length x = (a ++ [x]) ++ List.replicate n z := by
 rw [List.set_append_right _ _ (Nat.le_refl _), Nat.sub_self, List.replicate_succ, List.set_cons_zero]
 simp
theorem sum_l1 (level : Int) (l : List S149) (ts : List (List S28)) (N i : Nat) (acc : S28) (r : Int × Int) (hts : ∀ t ∈ ts, t.length = N) (hi : i < N) (hb : ts.length ≤ 1000)
  (hr : Ev (fun k => sumcheck_sum.l0 k level l ts (N : Int) (wrap64 ((i : Int) + 1)) (xorE acc (EvalS level l (colS ts i)).1).f0 (xorE acc (EvalS level l (colS ts i)).1).f1) r) :
  ∀ (s pre : List (List S28)), ts = pre ++ s → Ev (fun k => sumcheck_sum.l1 k level l ts (i : Int) (colS pre i ++ List.replicate s.length z28) (N : Int) (i : Int) ts (ts.length : Int) (pre.length : Int) acc.f0 acc.f1) r
 | [], pre, hp => by
  refine Ev.succ ?_
  simp only [sumcheck_sum.l1]
  refine Ev.neg (by rw [hp]; exact ge_part pre) ?_
  have e : colS pre i ++ List.replicate ([] : List (List S28)).length z28 = colS ts i := by rw [hp]; simp
  rw [e]
  refine Ev.bind (Eval_ev level l (colS ts i) (by simp [colS]; omega)) ?_
  simp only [tower_Add.f, Option.bind_some]
  exact hr
 | t :: s, pre, hp => by
  have IH := sum_l1 level l ts N i acc r hts hi hb hr s (pre ++ [t]) (by simpa using hp)
  refine Ev.succ ?_
  simp only [sumcheck_sum.l1]
  have lt : (pre.length : Int) < (ts.length : Int) := by rw [hp]; exact lt_part pre t s
  have et : rd_L11 ts (pre.length : Int) = t := by rw [hp]; exact getD_part pre t _ s
  have ht : t.length = N := hts t (by rw [hp]; simp)
  have hc : (colS pre (i : Int)).length = pre.length := by simp [colS]
  refine Ev.pos lt (Ev.pos (by omega) (Ev.pos lt (Ev.pos (by omega) ?_)))
  rw [et]
  refine Ev.pos (by omega) (Ev.pos ?_ ?_)
  ·simp [hc]; omega
  ·rw [w64_succ (by omega)]
   have e1 : ((pre.length : Int)).toNat = (colS pre (i : Int)).length := by rw [hc]; simp
   rw [e1, List.length_cons, set_part]
   rw [show colS (pre ++ [t]) (i : Int) = colS pre (i : Int) ++ [rd_T28 t (i : Int)] by simp [colS], show (pre ++ [t]).length = pre.length + 1 by simp] at IH
   exact IH
theorem sum_l0 (level : Int) (l : List S149) (ts : List (List S28)) (N : Nat) (hts : ∀ t ∈ ts, t.length = N) (hN : N ≤ 1000000) (hb : ts.length ≤ 1000) : ∀ (f i : Nat) (acc : S28), f + i = N →
  Ev (fun k => sumcheck_sum.l0 k level l ts (N : Int) (i : Int) acc.f0 acc.f1) ((sumL level l ts f i acc).f0, (sumL level l ts f i acc).f1)
 | 0, i, acc, h => by
  refine Ev.succ ?_
  simp only [sumcheck_sum.l0]
  exact Ev.neg (by omega) (Ev.pure _)
 | f + 1, i, acc, h => by
  have IH := sum_l0 level l ts N hts hN hb f (i + 1) (xorE acc (EvalS level l (colS ts i)).1) (by omega)
  refine Ev.succ ?_
  simp only [sumcheck_sum.l0]
  refine Ev.pos (by omega) (Ev.pos (by omega) (Ev.pos (by omega) ?_))
  have := sum_l1 level l ts N i acc _ hts (by omega) hb (by rw [w64_succ (by omega)]; exact IH) ts [] rfl
  rw [sumL]
  simpa [colS] using this
def sumS (level : Int) (l : List S149) (ts : List (List S28)) : S28 := sumL level l ts (rdR ts 0).length 0 ⟨0, 0⟩
theorem sum_ev (level : Int) (l : List S149) (ts : List (List S28)) (N : Nat) (h0 : 0 < ts.length) (hts : ∀ t ∈ ts, t.length = N) (hN : N ≤ 1000000) (hb : ts.length ≤ 1000) : Ev (fun k => sumcheck_sum.f k level l ts) ((sumS level l ts).f0, (sumS level l ts).f1) := by
 simp only [sumcheck_sum.f]
 refine Ev.pos (by omega) ?_
 have e : (rdR ts 0).length = N := hts _ (by
  unfold rdR
  rw [List.getD_eq_getElem?_getD, List.getElem?_eq_getElem (by exact h0)]
  exact List.getElem_mem _)
 have e2 : (rd_L11 ts 0).length = N := e
 unfold sumS
 rw [e, e2]
 exact sum_l0 level l ts N hts hN hb N 0 ⟨0, 0⟩ rfl
def SumS (level : Int) (l : List S149) (ts : List (List S28)) : S28 × Int := if CheckS level l ts = 0 then (sumS level l ts, 0) else (⟨0, 0⟩, CheckS level l ts)
theorem Sum_ev (level : Int) (l : List S149) (ts : List (List S28)) (hb : ts.length ≤ 1000) : Ev (fun k => sumcheck_Sum.f k level l ts) ((SumS level l ts).1.f0, (SumS level l ts).1.f1, (SumS level l ts).2) := by
 simp only [sumcheck_Sum.f]
 refine Ev.bind (Check_ev level l ts) ?_
 unfold SumS
 by_cases h : CheckS level l ts = 0
 ·rw [if_pos h]
  obtain ⟨_, n, hn, _, _, hne, hall⟩ := Check_ok h
  have hp : 2 ^ n ≤ 2 ^ 12 := Nat.pow_le_pow_right (by decide) hn
  exact Ev.pos h (Ev.bind (sum_ev level l ts (2 ^ n) (List.length_pos_iff.2 hne) (fun t ht => (hall t ht).1) (by omega) hb) (Ev.pure _))
 ·rw [if_neg h]
  exact Ev.neg h (Ev.pure _)
def manyS (n : Nat) : Int := if n = 0 then 1 else if 40 < n then 2 else 0
theorem many_eq (l : List (List S149)) : zero_many.f l = some (manyS l.length) := by
 unfold zero_many.f manyS
 by_cases h : l.length = 0
 ·rw [if_pos (by omega), if_pos h]
 ·rw [if_neg (by omega), if_neg h]
  by_cases h2 : 40 < l.length
  ·rw [if_pos (by omega), if_pos h2]
  ·rw [if_neg (by omega), if_neg h2]
theorem many_ok {n : Nat} (h : manyS n = 0) : 0 < n ∧ n ≤ 40 := by
 unfold manyS at h
 by_cases h1 : n = 0
 ·rw [if_pos h1] at h; simp at h
 ·rw [if_neg h1] at h
  by_cases h2 : 40 < n
  ·rw [if_pos h2] at h; simp at h
  ·omega
def firstE {α : Type} (f : α → Int) : List α → Int
 | [] => 0
 | x :: r => if f x = 0 then firstE f r else f x
theorem firstE_ok {α : Type} {f : α → Int} : ∀ {l : List α}, firstE f l = 0 → ∀ x ∈ l, f x = 0
 | [], _, x, hx => by cases hx
 | y :: r, h, x, hx => by
  rw [firstE] at h
  by_cases hy : f y = 0
  ·rw [if_pos hy] at h
   rcases List.mem_cons.1 hx with rfl | hx
   ·exact hy
   ·exact firstE_ok h x hx
  ·rw [if_neg hy] at h
   exact absurd h hy
def askS (level : Int) (conds : List (List S149)) (ts : List (List S28)) : Int := if manyS conds.length = 0 then firstE (fun c => CheckS level c ts) conds else manyS conds.length
theorem ask_l0 (level : Int) (ts : List (List S28)) : ∀ (r pre : List (List S149)), (pre ++ r).length ≤ 100 → Ev (fun k => zero_ask.l0 k level ts (pre ++ r) ((pre ++ r).length : Int) (pre.length : Int)) (firstE (fun c => CheckS level c ts) r)
 | [], pre, hl => by
  refine Ev.succ ?_
  simp only [zero_ask.l0]
  exact Ev.neg (ge_part pre) (Ev.pure _)
 | c :: r, pre, hl => by
  have IH := ask_l0 level ts r (pre ++ [c]) (by simpa using hl)
  refine Ev.succ ?_
  simp only [zero_ask.l0]
  have hlen : pre.length < 100 := by simp at hl; omega
  refine Ev.pos (lt_part pre c r) (Ev.pos (by omega) (Ev.pos (lt_part pre c r) ?_))
  have e : rd_L13 (pre ++ c :: r) (pre.length : Int) = c := getD_part pre c _ r
  rw [e]
  refine Ev.bind (Check_ev level c ts) ?_
  rw [firstE, w64_succ (by omega)]
  rw [show (pre ++ [c]) ++ r = pre ++ c :: r by simp, show (pre ++ [c]).length = pre.length + 1 by simp] at IH
  exact Ev.ite (fun _ => IH) (fun _ => Ev.pure _)
theorem ask_ev (level : Int) (conds : List (List S149)) (ts : List (List S28)) : Ev (fun k => zero_ask.f k level conds ts) (askS level conds ts) := by
 simp only [zero_ask.f, many_eq, Option.bind_some]
 unfold askS
 by_cases h : manyS conds.length = 0
 ·exact Ev.congr (Ev.pos h (ask_l0 level ts conds [] (by have := many_ok h; simp; omega))) (by rw [if_pos h])
 ·exact Ev.congr (Ev.neg h (Ev.pure _)) (by rw [if_neg h])
theorem ask_ok {level : Int} {conds : List (List S149)} {ts : List (List S28)} (h : askS level conds ts = 0) : 0 < conds.length ∧ conds.length ≤ 40 ∧ ∀ c ∈ conds, CheckS level c ts = 0 := by
 unfold askS at h
 by_cases h1 : manyS conds.length = 0
 ·rw [if_pos h1] at h
  have := many_ok h1
  exact ⟨this.1, this.2, firstE_ok h⟩
 ·rw [if_neg h1] at h
  exact absurd h h1
def isZ (x : S28) : Bool := x.f0 == 0 && x.f1 == 0
theorem isZ_iff {x : S28} : isZ x = true ↔ x = ⟨0, 0⟩ := by
 cases x
 simp [isZ]
def holdsL (level : Int) (conds : List (List S149)) (ts : List (List S28)) : Nat → Nat → Bool
 | 0, _ => true
 | f + 1, i => (conds.all fun c => isZ (EvalS level c (colS ts i)).1) && holdsL level conds ts f (i + 1)
theorem holds_l2 (level : Int) (conds : List (List S149)) (ts : List (List S28)) (N i : Nat) (v : List S28) (hc : conds.length ≤ 100) (hv : v.length ≤ 1000) (t : Bool)
  (hr : Ev (fun k => zero_Holds.l0 k level conds ts (N : Int) (wrap64 ((i : Int) + 1))) (t, 0)) :
  ∀ (s pre : List (List S149)), conds = pre ++ s → Ev (fun k => zero_Holds.l2 k level conds ts v (N : Int) (i : Int) conds (conds.length : Int) (pre.length : Int)) ((s.all fun c => isZ (EvalS level c v).1) && t, 0)
 | [], pre, hp => by
  refine Ev.succ ?_
  simp only [zero_Holds.l2]
  refine Ev.neg (by rw [hp]; exact ge_part pre) ?_
  simpa using hr
 | c :: s, pre, hp => by
  have IH := holds_l2 level conds ts N i v hc hv t hr s (pre ++ [c]) (by simpa using hp)
  refine Ev.succ ?_
  simp only [zero_Holds.l2]
  have lt : (pre.length : Int) < (conds.length : Int) := by rw [hp]; exact lt_part pre c s
  have e : rd_L13 conds (pre.length : Int) = c := by rw [hp]; exact getD_part pre c _ s
  refine Ev.pos lt (Ev.pos (by omega) (Ev.pos lt ?_))
  rw [e]
  refine Ev.bind (Eval_ev level c v (by omega)) ?_
  rw [List.all_cons]
  cases hz : isZ (EvalS level c v).1 with
  | true =>
   have e2 := isZ_iff.1 hz
   refine Ev.neg (by rw [e2]; simp) ?_
   rw [w64_succ (by omega), Bool.true_and]
   rw [show (pre ++ [c]).length = pre.length + 1 by simp] at IH
   exact IH
  | false =>
   refine Ev.congr (Ev.pos ?_ (Ev.pure _)) (by simp)
   unfold isZ at hz
   simp only [Bool.and_eq_false_iff] at hz
   rcases hz with h | h <;> simp [h]
theorem holds_l1 (level : Int) (conds : List (List S149)) (ts : List (List S28)) (N i : Nat) (hc : conds.length ≤ 100) (hts : ∀ t ∈ ts, t.length = N) (hi : i < N) (hb : ts.length ≤ 1000) (t : Bool)
  (hr : Ev (fun k => zero_Holds.l0 k level conds ts (N : Int) (wrap64 ((i : Int) + 1))) (t, 0)) :
  ∀ (s pre : List (List S28)), ts = pre ++ s → Ev (fun k => zero_Holds.l1 k level conds ts (i : Int) (colS pre i ++ List.replicate s.length z28) (N : Int) (i : Int) ts (ts.length : Int) (pre.length : Int)) ((conds.all fun c => isZ (EvalS level c (colS ts i)).1) && t, 0)
 | [], pre, hp => by
  refine Ev.succ ?_
  simp only [zero_Holds.l1]
  refine Ev.neg (by rw [hp]; exact ge_part pre) ?_
  have e : colS pre i ++ List.replicate ([] : List (List S28)).length z28 = colS ts i := by rw [hp]; simp
  rw [e]
  exact holds_l2 level conds ts N i (colS ts i) hc (by simpa [colS] using hb) t hr conds [] rfl
 | x :: s, pre, hp => by
  have IH := holds_l1 level conds ts N i hc hts hi hb t hr s (pre ++ [x]) (by simpa using hp)
  refine Ev.succ ?_
  simp only [zero_Holds.l1]
  have lt : (pre.length : Int) < (ts.length : Int) := by rw [hp]; exact lt_part pre x s
  have et : rd_L11 ts (pre.length : Int) = x := by rw [hp]; exact getD_part pre x _ s
  have ht : x.length = N := hts x (by rw [hp]; simp)
  have hcl : (colS pre (i : Int)).length = pre.length := by simp [colS]
  refine Ev.pos lt (Ev.pos (by omega) (Ev.pos lt (Ev.pos (by omega) ?_)))
  rw [et]
  refine Ev.pos (by omega) (Ev.pos ?_ ?_)
  ·simp [hcl]; omega
  ·rw [w64_succ (by omega)]
   have e1 : ((pre.length : Int)).toNat = (colS pre (i : Int)).length := by rw [hcl]; simp
   rw [e1, List.length_cons, set_part]
   rw [show colS (pre ++ [x]) (i : Int) = colS pre (i : Int) ++ [rd_T28 x (i : Int)] by simp [colS], show (pre ++ [x]).length = pre.length + 1 by simp] at IH
   exact IH
theorem holds_l0 (level : Int) (conds : List (List S149)) (ts : List (List S28)) (N : Nat) (hc : conds.length ≤ 100) (hts : ∀ t ∈ ts, t.length = N) (hN : N ≤ 1000000) (hb : ts.length ≤ 1000) : ∀ (f i : Nat), f + i = N →
  Ev (fun k => zero_Holds.l0 k level conds ts (N : Int) (i : Int)) (holdsL level conds ts f i, 0)
 | 0, i, h => by
  refine Ev.succ ?_
  simp only [zero_Holds.l0]
  exact Ev.neg (by omega) (Ev.pure _)
 | f + 1, i, h => by
  have IH := holds_l0 level conds ts N hc hts hN hb f (i + 1) (by omega)
  refine Ev.succ ?_
  simp only [zero_Holds.l0]
  refine Ev.pos (by omega) (Ev.pos (by omega) (Ev.pos (by omega) ?_))
  have := holds_l1 level conds ts N i hc hts (by omega) hb _ (by rw [w64_succ (by omega)]; exact IH) ts [] rfl
  rw [holdsL]
  simpa [colS] using this
def HoldsS (level : Int) (conds : List (List S149)) (ts : List (List S28)) : Bool × Int := if askS level conds ts = 0 then (holdsL level conds ts (rdR ts 0).length 0, 0) else (false, askS level conds ts)
theorem ask_tables {level : Int} {conds : List (List S149)} {ts : List (List S28)} (h : askS level conds ts = 0) : ∃ n : Nat, n ≤ 12 ∧ (rdR ts 0).length = 2 ^ n ∧ logS ((rdR ts 0).length : Int) = (n : Int) ∧ TablesOK level (2 ^ n) ts := by
 obtain ⟨h1, h2, h3⟩ := ask_ok h
 obtain ⟨c, r, rfl⟩ := List.exists_cons_of_length_pos h1
 exact (Check_ok (h3 c List.mem_cons_self)).2
theorem Holds_ev (level : Int) (conds : List (List S149)) (ts : List (List S28)) (hb : ts.length ≤ 1000) : Ev (fun k => zero_Holds.f k level conds ts) (HoldsS level conds ts) := by
 simp only [zero_Holds.f]
 refine Ev.bind (ask_ev level conds ts) ?_
 unfold HoldsS
 by_cases h : askS level conds ts = 0
 ·rw [if_pos h]
  obtain ⟨h1, h2, h3⟩ := ask_ok h
  obtain ⟨n, hn, e, _, hne, hall⟩ := ask_tables h
  have hp : 2 ^ n ≤ 2 ^ 12 := Nat.pow_le_pow_right (by decide) hn
  have hl := List.length_pos_iff.2 hne
  refine Ev.pos h (Ev.pos (by omega) ?_)
  have e2 : (rd_L11 ts 0).length = 2 ^ n := e
  rw [e, e2]
  exact holds_l0 level conds ts (2 ^ n) (by omega) (fun t ht => (hall t ht).1) (by omega) hb (2 ^ n) 0 rfl
 ·rw [if_neg h]
  exact Ev.neg h (Ev.pure _)
def shiftS (n : Nat) (o : S149) : S149 := if o.f0 = 3 ∨ o.f0 = 4 then ⟨o.f0, wrap64 (o.f1 + (n : Int)), wrap64 (o.f2 + (n : Int)), o.f3⟩ else o
theorem set_at {α : Type} (pre : List α) (x y : α) (r : List α) : (pre ++ x :: r).set ((pre.length : Int)).toNat y = pre ++ y :: r := by
 rw [show ((pre.length : Int)).toNat = pre.length by simp, List.set_append_right _ _ (Nat.le_refl _), Nat.sub_self, List.set_cons_zero]
theorem behind_l0 (n : Nat) : ∀ (r pre : List S149), (pre ++ r).length ≤ 200 → Ev (fun k => zero_behind.l0 k (n : Int) (pre ++ r) ((pre ++ r).length : Int) (pre.length : Int)) (pre ++ r.map (shiftS n))
 | [], pre, hl => by
  refine Ev.succ ?_
  simp only [zero_behind.l0]
  exact Ev.neg (ge_part pre) (Ev.congr (Ev.pure _) (by simp))
 | o :: r, pre, hl => by
  have IH := behind_l0 n r (pre ++ [shiftS n o]) (by simpa using hl)
  have hlen : pre.length < 200 := by simp at hl; omega
  rw [show (pre ++ [shiftS n o]) ++ r = pre ++ shiftS n o :: r by simp, show (pre ++ [shiftS n o]).length = pre.length + 1 by simp, show pre ++ [shiftS n o] ++ List.map (shiftS n) r = pre ++ List.map (shiftS n) (o :: r) by simp, ← w64_succ (n := pre.length) (by omega)] at IH
  refine Ev.succ ?_
  simp only [zero_behind.l0, Option.bind_some]
  refine Ev.pos (lt_part pre o r) (Ev.pos (by omega) (Ev.pos (lt_part pre o r) ?_))
  have e : ∀ x : S149, rd_T149 (pre ++ x :: r) (pre.length : Int) = x := fun x => getD_part pre x z149 r
  simp only [e, set_at]
  have el : ∀ x y : S149, (pre ++ x :: r).length = (pre ++ y :: r).length := fun x y => by simp
  unfold shiftS at IH
  by_cases h3 : o.f0 = 3
  ·refine Ev.pos h3 ?_
   rw [if_pos (.inl h3)] at IH
   rw [el o _]
   exact IH
  ·refine Ev.neg h3 ?_
   by_cases h4 : o.f0 = 4
   ·refine Ev.pos h4 ?_
    rw [if_pos (.inr h4)] at IH
    rw [el o _]
    exact IH
   ·refine Ev.neg h4 ?_
    rw [if_neg (by omega)] at IH
    exact IH
theorem behind_ev (n : Nat) (l : List S149) (h : l.length ≤ 200) : Ev (fun k => zero_behind.f k (n : Int) l) (l.map (shiftS n)) := by
 simp only [zero_behind.f, api_Op.f]
 rw [if_pos (by omega)]
 simp only [Option.bind_some]
 exact behind_l0 n l [] h
def mixT (level vars : Int) (a : S28) : Bool → List (List S149) → Nat → Int → S28 → List S149
 | _, [], n, sum, _ => [⟨2, vars, 0, ⟨0, 0⟩⟩, ⟨4, (n : Int), sum, ⟨0, 0⟩⟩]
 | true, c :: r, n, _, b => c.map (shiftS n) ++ mixT level vars a false r (n + c.length) (((n + c.length : Nat) : Int) - 1) b
 | false, c :: r, n, sum, b => c.map (shiftS n) ++ ([⟨1, 0, 0, MulS level b a⟩, ⟨4, ((n + c.length : Nat) : Int), ((n + c.length : Nat) : Int) - 1, ⟨0, 0⟩⟩, ⟨3, sum, ((n + c.length : Nat) : Int) + 1, ⟨0, 0⟩⟩] ++ mixT level vars a false r (n + c.length + 3) (((n + c.length : Nat) : Int) + 2) (MulS level b a))
theorem mix_l0 (level vars : Int) (a : S28) (conds : List (List S149)) (hc : conds.length ≤ 40) (hl : ∀ c ∈ conds, 0 < c.length ∧ c.length ≤ 200) : ∀ (r pre : List (List S149)) (out : List S149) (sum : Int) (b : S28), conds = pre ++ r → out.length ≤ 203 * pre.length →
  Ev (fun k => zero_mix.l0 k level vars out sum conds (conds.length : Int) (pre.length : Int) a.f0 a.f1 b.f0 b.f1) (out ++ mixT level vars a (decide (pre.length = 0)) r out.length sum b)
 | [], pre, out, sum, b, hp, ho => by
  have hpl : pre.length ≤ 40 := by rw [hp] at hc; simpa using hc
  refine Ev.succ ?_
  simp only [zero_mix.l0, Option.bind_some]
  refine Ev.neg (by rw [hp]; exact ge_part pre) (Ev.pos ?_ ?_)
  ·simp; omega
  ·exact Ev.pure _
 | c :: r, pre, out, sum, b, hp, ho => by
  have hpl : pre.length < 40 := by rw [hp] at hc; simp at hc; omega
  obtain ⟨hc0, hc2⟩ := hl c (by rw [hp]; simp)
  have lt : (pre.length : Int) < (conds.length : Int) := by rw [hp]; exact lt_part pre c r
  have e : rd_L13 conds (pre.length : Int) = c := by rw [hp]; exact getD_part pre c _ r
  refine Ev.succ ?_
  simp only [zero_mix.l0, Option.bind_some]
  refine Ev.pos lt (Ev.pos (by omega) (Ev.pos lt ?_))
  rw [e]
  refine Ev.bind (behind_ev out.length c hc2) ?_
  refine Ev.pos (by simp; omega) ?_
  have el : (out ++ c.map (shiftS out.length)).length = out.length + c.length := by simp
  have e1 : wrap64 (((out.length + c.length : Nat) : Int) - 1) = ((out.length + c.length : Nat) : Int) - 1 := w64_id (by omega) (by omega)
  have e2 : wrap64 (((out.length + c.length : Nat) : Int) - 1 + 1) = ((out.length + c.length : Nat) : Int) := by rw [w64_id (by omega) (by omega)]; omega
  have e3 : wrap64 (((out.length + c.length : Nat) : Int) - 1 + 2) = ((out.length + c.length : Nat) : Int) + 1 := by rw [w64_id (by omega) (by omega)]; omega
  have e4 : wrap64 (((out.length + c.length : Nat) : Int) - 1 + 3) = ((out.length + c.length : Nat) : Int) + 2 := by rw [w64_id (by omega) (by omega)]; omega
  rw [el, e1, e2, e3, e4, w64_succ (by omega)]
  by_cases h0 : pre.length = 0
  ·refine Ev.pos (by omega) ?_
   have IH := mix_l0 level vars a conds hc hl r (pre ++ [c]) (out ++ c.map (shiftS out.length)) (((out.length + c.length : Nat) : Int) - 1) b (by simpa using hp) (by rw [el]; simp; omega)
   rw [el, show (pre ++ [c]).length = pre.length + 1 by simp, show decide (pre.length + 1 = 0) = false by simp] at IH
   rw [show decide (pre.length = 0) = true by simp [h0]]
   refine Ev.congr IH ?_
   rw [mixT, List.append_assoc]
  ·refine Ev.neg (by omega) ?_
   refine Ev.bind (Mul_ev level b a) (Ev.pos (by simp; omega) ?_)
   have IH := mix_l0 level vars a conds hc hl r (pre ++ [c]) (out ++ c.map (shiftS out.length) ++ [⟨1, 0, 0, MulS level b a⟩, ⟨4, ((out.length + c.length : Nat) : Int), ((out.length + c.length : Nat) : Int) - 1, ⟨0, 0⟩⟩, ⟨3, sum, ((out.length + c.length : Nat) : Int) + 1, ⟨0, 0⟩⟩]) (((out.length + c.length : Nat) : Int) + 2) (MulS level b a) (by simpa using hp) (by simp; omega)
   rw [show (pre ++ [c]).length = pre.length + 1 by simp, show decide (pre.length + 1 = 0) = false by simp] at IH
   rw [show decide (pre.length = 0) = false by simp [h0]]
   refine Ev.congr IH ?_
   rw [mixT, show (out ++ c.map (shiftS out.length) ++ [(⟨1, 0, 0, MulS level b a⟩ : S149), ⟨4, ((out.length + c.length : Nat) : Int), ((out.length + c.length : Nat) : Int) - 1, ⟨0, 0⟩⟩, ⟨3, sum, ((out.length + c.length : Nat) : Int) + 1, ⟨0, 0⟩⟩]).length = out.length + c.length + 3 by simp; omega]
   simp only [List.append_assoc]
def mixS (level vars : Int) (conds : List (List S149)) (a : S28) : List S149 := mixT level vars a true conds 0 0 ⟨0, 1⟩
theorem mix_ev (level vars : Int) (conds : List (List S149)) (a : S28) (hc : conds.length ≤ 40) (hl : ∀ c ∈ conds, 0 < c.length ∧ c.length ≤ 200) : Ev (fun k => zero_mix.f k level vars conds a.f0 a.f1) (mixS level vars conds a) := by
 simp only [zero_mix.f, tower_One.f, Option.bind_some]
 exact mix_l0 level vars a conds hc hl conds [] [] 0 ⟨0, 1⟩ rfl (by simp)
def MixS (level vars : Int) (conds : List (List S149)) (a : S28) : List S149 × Int :=
 if manyS conds.length = 0 then (if firstE (chkS level vars) conds = 0 then (if ofE level a = true then (if chkS level (wrap64 (vars + 1)) (mixS level vars conds a) = 0 then (mixS level vars conds a, 0) else ([], chkS level (wrap64 (vars + 1)) (mixS level vars conds a))) else ([], 5)) else ([], firstE (chkS level vars) conds)) else ([], manyS conds.length)
theorem Mix_l0 (level vars : Int) (conds : List (List S149)) (a : S28) (hc : conds.length ≤ 40) (r : List S149 × Int) (hr : (∀ c ∈ conds, chkS level vars c = 0) → Ev (fun k => (octet_Of.f level a.f0 a.f1).bind fun t461 => (if t461 = true then ((zero_mix.f k level vars conds a.f0 a.f1).bind fun t462 => ((expr_Check.f k level (wrap64 (vars + 1)) t462).bind fun t465 => (if t465 = 0 then (some (t462, 0)) else (some (([] : List (S149)), t465))))) else (some (([] : List (S149)), 5)))) r) :
  ∀ (s pre : List (List S149)), conds = pre ++ s → (∀ c ∈ pre, chkS level vars c = 0) → Ev (fun k => zero_Mix.l0 k level vars conds conds (conds.length : Int) (pre.length : Int) a.f0 a.f1) (if firstE (chkS level vars) s = 0 then r else ([], firstE (chkS level vars) s))
 | [], pre, hp, hpre => by
  refine Ev.succ ?_
  simp only [zero_Mix.l0]
  refine Ev.neg (by rw [hp]; exact ge_part pre) (Ev.congr (hr (by rw [hp]; simpa using hpre)) ?_)
  simp [firstE]
 | c :: s, pre, hp, hpre => by
  have hpl : pre.length < 40 := by rw [hp] at hc; simp at hc; omega
  have lt : (pre.length : Int) < (conds.length : Int) := by rw [hp]; exact lt_part pre c s
  have e : rd_L13 conds (pre.length : Int) = c := by rw [hp]; exact getD_part pre c _ s
  refine Ev.succ ?_
  simp only [zero_Mix.l0]
  refine Ev.pos lt (Ev.pos (by omega) (Ev.pos lt ?_))
  rw [e]
  refine Ev.bind (chk_ev level vars c) ?_
  rw [firstE]
  by_cases h : chkS level vars c = 0
  ·have IH := Mix_l0 level vars conds a hc r hr s (pre ++ [c]) (by simpa using hp) (by
    intro x hx
    rcases List.mem_append.1 hx with hx | hx
    ·exact hpre x hx
    ·rw [List.mem_singleton.1 hx]; exact h)
   rw [show (pre ++ [c]).length = pre.length + 1 by simp] at IH
   refine Ev.pos h ?_
   rw [if_pos h, w64_succ (by omega)]
   exact IH
  ·refine Ev.neg h (Ev.congr (Ev.pure _) ?_)
   rw [if_neg h, if_neg h]
theorem Mix_ev (level vars : Int) (conds : List (List S149)) (a : S28) : Ev (fun k => zero_Mix.f k level vars conds a.f0 a.f1) (MixS level vars conds a) := by
 simp only [zero_Mix.f, many_eq, Option.bind_some]
 unfold MixS
 by_cases h : manyS conds.length = 0
 ·refine Ev.pos h ?_
  rw [if_pos h]
  have hm := many_ok h
  refine Mix_l0 level vars conds a hm.2 _ ?_ conds [] rfl (fun _ h => absurd h List.not_mem_nil)
  intro hall
  simp only [octet_Of.f, Option.bind_some]
  unfold ofE
  refine Ev.ite (fun _ => ?_) (fun _ => Ev.pure _)
  refine Ev.bind (mix_ev level vars conds a hm.2 (fun c hc => by
   obtain ⟨_, _, _, h1, h2, _⟩ := chk_ok (hall c hc)
   exact ⟨h1, h2⟩)) ?_
  refine Ev.bind (chk_ev _ _ _) ?_
  exact Ev.ite (fun _ => Ev.pure _) (fun _ => Ev.pure _)
 ·exact Ev.congr (Ev.neg h (Ev.pure _)) (by rw [if_neg h])
def rowS (level : Int) (x : S28) (l : List S28) : List S28 := l.map fun w => MulS level w x
theorem row_ev (level : Int) (x : S28) : ∀ l : List S28, Ev (fun k => wrow k level x.f0 x.f1 l) (rowS level x l)
 | [] => Ev.pure _
 | w :: r => by
  simp only [wrow]
  exact Ev.bind (Mul_ev level w x) (Ev.bind (row_ev level x r) (Ev.pure _))
def wtsS (level : Int) : List S28 → List S28 → List S28
 | [], out => out
 | x :: r, out => wtsS level r (List.zipWith xorE out (rowS level x out) ++ rowS level x out)
theorem wts_ev (level : Int) : ∀ (p out : List S28), Ev (fun k => wts k level p out) (wtsS level p out)
 | [], out => Ev.pure _
 | x :: r, out => by
  simp only [wts]
  exact Ev.bind (row_ev level x out) (wts_ev level r _)
def WeightsS (level : Int) (p : List S28) : List S28 := if wideS level = 0 then [] else if 16 < (p.length : Int) then [] else if (p.any fun x => !ofB level x.f0 x.f1) = true then [] else wtsS level p [⟨0, 1⟩]
theorem Weights_ev (level : Int) (p : List S28) : Ev (fun k => cube_Weights.f k level p) (WeightsS level p) := by
 simp only [cube_Weights.f]
 refine Ev.bind (wide_ev level) ?_
 unfold WeightsS
 exact Ev.ite (fun _ => Ev.pure _) (fun _ => Ev.ite (fun _ => Ev.pure _) (fun _ => Ev.ite (fun _ => Ev.pure _) (fun _ => wts_ev level p _)))
def SumZ (level : Int) (conds : List (List S149)) (ts : List (List S28)) (a : S28) (p : List S28) : S28 × Int :=
 if askS level conds ts = 0 then (if (MixS level (ts.length : Int) conds a).2 = 0 then (if (p.length : Int) = logS ((rdR ts 0).length : Int) then (if (p.any fun x => !ofB level x.f0 x.f1) = true then (⟨0, 0⟩, 5) else SumS level (MixS level (ts.length : Int) conds a).1 (ts ++ [WeightsS level p])) else (⟨0, 0⟩, 6)) else (⟨0, 0⟩, (MixS level (ts.length : Int) conds a).2)) else (⟨0, 0⟩, askS level conds ts)
theorem SumZ_ev (level : Int) (conds : List (List S149)) (ts : List (List S28)) (a : S28) (p : List S28) (hb : ts.length ≤ 900) : Ev (fun k => zero_Sum.f k level conds ts a.f0 a.f1 p) ((SumZ level conds ts a p).1.f0, (SumZ level conds ts a p).1.f1, (SumZ level conds ts a p).2) := by
 simp only [zero_Sum.f]
 refine Ev.bind (ask_ev level conds ts) ?_
 unfold SumZ
 by_cases h : askS level conds ts = 0
 ·rw [if_pos h]
  refine Ev.pos h (Ev.bind (Mix_ev level _ conds a) ?_)
  by_cases h2 : (MixS level (ts.length : Int) conds a).2 = 0
  ·rw [if_pos h2]
   obtain ⟨n, hn, e, _, hne, hall⟩ := ask_tables h
   refine Ev.pos h2 (Ev.pos (List.length_pos_iff.2 hne) (Ev.bind (log_ev _) ?_))
   by_cases h3 : (p.length : Int) = logS ((rdR ts 0).length : Int)
   ·rw [if_pos h3]
    refine Ev.pos h3 ?_
    by_cases h4 : (p.any fun x => !ofB level x.f0 x.f1) = true
    ·rw [if_pos h4]; exact Ev.congr (Ev.pos h4 (Ev.pure _)) rfl
    ·rw [if_neg h4]
     refine Ev.neg h4 (Ev.bind (Weights_ev level p) (Ev.pos (by omega) ?_))
     exact Sum_ev level _ _ (by simp; omega)
   ·rw [if_neg h3]; exact Ev.congr (Ev.neg h3 (Ev.pure _)) rfl
  ·rw [if_neg h2]; exact Ev.congr (Ev.neg h2 (Ev.pure _)) rfl
 ·rw [if_neg h]; exact Ev.congr (Ev.neg h (Ev.pure _)) rfl
theorem evs_append (level : Int) (v : List S28) : ∀ (a b : List S149) (acc : List S28), evs level v (a ++ b) acc = evs level v b (evs level v a acc)
 | [], b, acc => rfl
 | o :: r, b, acc => by rw [List.cons_append, evs, evs, evs_append level v r]
theorem rd_app_left {l r : List S28} {i : Int} (h0 : 0 ≤ i) (h : i < l.length) : rd_T28 (l ++ r) i = rd_T28 l i := by
 unfold rd_T28
 rw [List.getD_eq_getElem?_getD, List.getD_eq_getElem?_getD, List.getElem?_append_left (by omega)]
theorem rd_app_right {l r : List S28} {i : Int} (h0 : 0 ≤ i) : rd_T28 (l ++ r) (i + (l.length : Int)) = rd_T28 r i := by
 unfold rd_T28
 rw [List.getD_eq_getElem?_getD, List.getD_eq_getElem?_getD, List.getElem?_append_right (by omega)]
 congr 2
 omega
theorem step_shift {level : Int} {v : List S28} {w : S28} {P acc : List S28} {o : S149} (h : StepOK level v.length acc.length o) (hP : P.length + acc.length ≤ 100000) : stepV level (v ++ [w]) (shiftS P.length o) (P ++ acc) = stepV level v o acc := by
 rcases h with ⟨k1, _, _, _⟩ | ⟨k1, _, _, a1, a2⟩ | ⟨k, _, a1, a2, a3, a4⟩
 ·have e : shiftS P.length o = o := by unfold shiftS; rw [if_neg (by omega)]
  rw [e]; unfold stepV; rw [if_pos k1, if_pos k1]
 ·have e : shiftS P.length o = o := by unfold shiftS; rw [if_neg (by omega)]
  rw [e]; unfold stepV; rw [if_neg (by omega), if_pos k1, if_neg (by omega), if_pos k1]
  exact rd_app_left a1 a2
 ·have e : shiftS P.length o = ⟨o.f0, o.f1 + (P.length : Int), o.f2 + (P.length : Int), o.f3⟩ := by
   unfold shiftS
   rw [if_pos k, w64_id (by omega) (by omega), w64_id (by omega) (by omega)]
  rw [e]
  unfold stepV
  simp only [rd_app_right a1, rd_app_right a3]
  rcases k with k | k
  ·simp [k]
  ·simp [k]
theorem evs_shift {level : Int} {v : List S28} {w : S28} {P : List S28} : ∀ (l : List S149) (acc : List S28), StepsOK level v.length acc.length l → P.length + acc.length + l.length ≤ 100000 → evs level (v ++ [w]) (l.map (shiftS P.length)) (P ++ acc) = P ++ evs level v l acc
 | [], acc, h, hl => rfl
 | o :: r, acc, h, hl => by
  rw [List.map_cons, evs, evs, step_shift h.1 (by omega), List.append_assoc]
  have := evs_shift (w := w) (P := P) r (acc ++ [stepV level v o acc]) (by simpa using h.2) (by simp at hl ⊢; omega)
  exact this
theorem stepV1 (level : Int) (v acc : List S28) (x : S28) : stepV level v ⟨1, 0, 0, x⟩ acc = x := by simp [stepV]
theorem stepV2 (level : Int) (v acc : List S28) (i : Int) : stepV level v ⟨2, i, 0, ⟨0, 0⟩⟩ acc = rd_T28 v i := by simp [stepV]
theorem stepV3 (level : Int) (v acc : List S28) (i j : Int) : stepV level v ⟨3, i, j, ⟨0, 0⟩⟩ acc = xorE (rd_T28 acc i) (rd_T28 acc j) := by simp [stepV]
theorem stepV4 (level : Int) (v acc : List S28) (i j : Int) : stepV level v ⟨4, i, j, ⟨0, 0⟩⟩ acc = MulS level (rd_T28 acc i) (rd_T28 acc j) := by simp [stepV]
theorem lastE_snoc (l : List S28) (x : S28) : lastE (l ++ [x]) = x := by
 unfold lastE
 simp
theorem rd_last {P l : List S28} (h : 0 < l.length) : rd_T28 (P ++ l) (((P.length + l.length : Nat) : Int) - 1) = lastE l := by
 rw [show ((P.length + l.length : Nat) : Int) - 1 = ((l.length - 1 : Nat) : Int) + (P.length : Int) by omega, rd_app_right (by omega)]
 unfold rd_T28 lastE
 simp
def mixV (level : Int) (a : S28) : List S28 → S28 → S28 → S28
 | [], _, S => S
 | x :: r, b, S => mixV level a r (MulS level b a) (xorE S (MulS level (MulS level b a) x))
def mixV0 (level : Int) (a : S28) : List S28 → S28
 | [] => ⟨0, 0⟩
 | x :: r => mixV level a r ⟨0, 1⟩ x
theorem rd_end (l : List S28) (x : S28) : rd_T28 (l ++ [x]) (l.length : Int) = x := by
 have := rd_app_right (l := l) (r := [x]) (i := 0) (by omega)
 rw [Int.zero_add] at this
 rw [this]
 rfl
theorem evs_mixF {level : Int} {v : List S28} {w a : S28} : ∀ (r : List (List S149)) (acc : List S28) (sum : Int) (b S : S28), (∀ c ∈ r, 0 < c.length ∧ c.length ≤ 200 ∧ StepsOK level v.length 0 c) → acc.length + 300 * r.length ≤ 90000 → 0 ≤ sum → sum < acc.length → rd_T28 acc sum = S →
  lastE (evs level (v ++ [w]) (mixT level v.length a false r acc.length sum b) acc) = MulS level w (mixV level a (r.map fun c => evalS level c v) b S)
 | [], acc, sum, b, S, hr, hl, h0, h1, hS => by
  rw [mixT, evs, evs, evs, lastE_snoc]
  have e1 : stepV level (v ++ [w]) ⟨2, (v.length : Int), 0, ⟨0, 0⟩⟩ acc = w := by
   rw [stepV2]
   exact rd_end v w
  rw [e1, stepV4, rd_end, rd_app_left h0 h1, hS]
  rfl
 | c :: r, acc, sum, b, S, hr, hl, h0, h1, hS => by
  obtain ⟨c0, c1, c2⟩ := hr c List.mem_cons_self
  simp only [List.length_cons] at hl
  rw [mixT, evs_append, evs_append]
  have e0 : evs level (v ++ [w]) (c.map (shiftS acc.length)) acc = acc ++ evs level v c [] := by
   have := evs_shift (w := w) (P := acc) c [] c2 (by simp; omega)
   simpa using this
  rw [e0]
  have hcl : (evs level v c []).length = c.length := by rw [evs_len]; simp
  have hel : (acc ++ evs level v c []).length = acc.length + c.length := by rw [List.length_append, hcl]
  have hlast : rd_T28 (acc ++ evs level v c []) (((acc.length + c.length : Nat) : Int) - 1) = evalS level c v := by
   have := rd_last (P := acc) (l := evs level v c []) (by omega)
   rw [hcl] at this
   exact this
  obtain ⟨A, hA⟩ : ∃ A, A = acc ++ evs level v c [] := ⟨_, rfl⟩
  rw [← hA] at hlast hel ⊢
  have hS2 : rd_T28 A sum = S := by rw [hA, rd_app_left h0 h1, hS]
  rw [evs, evs, evs, evs]
  obtain ⟨b', hb'⟩ : ∃ b', b' = MulS level b a := ⟨_, rfl⟩
  rw [← hb']
  have e1 : stepV level (v ++ [w]) ⟨1, 0, 0, b'⟩ A = b' := stepV1 _ _ _ _
  rw [e1]
  have e2 : stepV level (v ++ [w]) ⟨4, ((acc.length + c.length : Nat) : Int), ((acc.length + c.length : Nat) : Int) - 1, ⟨0, 0⟩⟩ (A ++ [b']) = MulS level b' (evalS level c v) := by
   rw [stepV4, ← hel, rd_end, rd_app_left (by omega) (by omega), hel, hlast]
  rw [e2]
  obtain ⟨m, hm⟩ : ∃ m, m = MulS level b' (evalS level c v) := ⟨_, rfl⟩
  rw [← hm]
  have e3 : stepV level (v ++ [w]) ⟨3, sum, ((acc.length + c.length : Nat) : Int) + 1, ⟨0, 0⟩⟩ (A ++ [b'] ++ [m]) = xorE S m := by
   rw [stepV3]
   have hl2 : (A ++ [b']).length = acc.length + c.length + 1 := by simp [hel]
   rw [rd_app_left h0 (by rw [hl2]; omega), rd_app_left h0 (by rw [hel]; omega), hS2]
   have := rd_end (A ++ [b']) m
   rw [hl2] at this
   rw [show ((acc.length + c.length : Nat) : Int) + 1 = ((acc.length + c.length + 1 : Nat) : Int) by omega, this]
  rw [e3]
  obtain ⟨B, hB⟩ : ∃ B, B = A ++ [b'] ++ [m] := ⟨_, rfl⟩
  rw [← hB]
  have hBl : B.length = acc.length + c.length + 2 := by rw [hB]; simp [hel]
  have IH := evs_mixF (v := v) (w := w) (a := a) r (B ++ [xorE S m]) (((acc.length + c.length : Nat) : Int) + 2) b' (xorE S m) (fun x hx => hr x (List.mem_cons_of_mem _ hx)) (by simp [hBl]; omega) (by omega) (by simp [hBl]; omega) (by
   have := rd_end B (xorE S m)
   rw [hBl] at this
   rw [show ((acc.length + c.length : Nat) : Int) + 2 = ((acc.length + c.length + 2 : Nat) : Int) by omega, this])
  rw [show (B ++ [xorE S m]).length = acc.length + c.length + 3 by simp [hBl]] at IH
  rw [List.map_cons, mixV, ← hb', ← hm]
  exact IH
theorem eval_mix {level : Int} {v : List S28} {w a : S28} (conds : List (List S149)) (hc : conds.length ≤ 40) (h0 : 0 < conds.length) (h : ∀ c ∈ conds, chkS level v.length c = 0) :
  evalS level (mixS level v.length conds a) (v ++ [w]) = MulS level w (mixV0 level a (conds.map fun c => evalS level c v)) := by
 obtain ⟨c, r, rfl⟩ := List.exists_cons_of_length_pos h0
 obtain ⟨_, _, _, c0, c1, c2⟩ := chk_ok (h c List.mem_cons_self)
 unfold evalS mixS
 rw [mixT, evs_append]
 have e0 : evs level (v ++ [w]) (c.map (shiftS 0)) [] = evs level v c [] := by
  have := evs_shift (w := w) (P := []) c [] c2 (by simp; omega)
  simpa using this
 rw [e0]
 have hcl : (evs level v c []).length = c.length := by rw [evs_len]; simp
 have hlast : rd_T28 (evs level v c []) (((0 + c.length : Nat) : Int) - 1) = evalS level c v := by
  have := rd_last (P := []) (l := evs level v c []) (by omega)
  rw [hcl] at this
  exact this
 have := evs_mixF (v := v) (w := w) (a := a) r (evs level v c []) (((0 + c.length : Nat) : Int) - 1) ⟨0, 1⟩ (evalS level c v) (fun x hx => by
  obtain ⟨_, _, _, x0, x1, x2⟩ := chk_ok (h x (List.mem_cons_of_mem _ hx))
  exact ⟨x0, x1, x2⟩) (by simp at hc; rw [hcl]; omega) (by omega) (by rw [hcl]; omega) hlast
 rw [hcl] at this
 rw [Nat.zero_add] at this ⊢
 exact this
theorem awake21_ev : Ev steeplelaw21_awake.f true := by
 show Ev (fun k => steeplelaw21_awake.f k) true
 simp only [steeplelaw21_awake.f, Option.bind_some]
 refine Ev.bind (Holds_ev 1 _ _ (by decide)) (Ev.bind (Holds_ev 1 _ _ (by decide)) (Ev.bind (SumZ_ev 1 _ _ ⟨0, 0⟩ _ (by decide)) (Ev.const ?_)))
 decide +kernel
theorem few09_l0 (m : Int) : ∀ (r pre : List (List S28)), (pre ++ r).length ≤ 1000 → Ev (fun k => steeplelaw09_Few.l0 k (pre ++ r) m (pre.length : Int)) (r.all fun t => decide ((t.length : Int) ≤ m))
 | [], pre, hl => by
  refine Ev.succ ?_
  simp only [steeplelaw09_Few.l0]
  exact Ev.neg (ge_part pre) (Ev.pure _)
 | t :: r, pre, hl => by
  have IH := few09_l0 m r (pre ++ [t]) (by simpa using hl)
  have hlen : pre.length < 1000 := by simp at hl; omega
  rw [show (pre ++ [t]) ++ r = pre ++ t :: r by simp, show (pre ++ [t]).length = pre.length + 1 by simp] at IH
  refine Ev.succ ?_
  simp only [steeplelaw09_Few.l0]
  refine Ev.pos (lt_part pre t r) (Ev.pos (by omega) ?_)
  have e : rd_L11 (pre ++ t :: r) (pre.length : Int) = t := getD_part pre t _ r
  rw [e, w64_succ (by omega), List.all_cons]
  by_cases h : (t.length : Int) ≤ m
  ·exact Ev.neg (by omega) (Ev.congr IH (by simp [h]))
  ·exact Ev.pos (by omega) (Ev.congr (Ev.pure _) (by simp [h]))
def few09 (ts : List (List S28)) (a m : Int) : Bool := if (ts.length : Int) > a then false else ts.all fun t => decide ((t.length : Int) ≤ m)
theorem few09_ev (ts : List (List S28)) (a m : Int) (ha : a ≤ 1000) : Ev (fun k => steeplelaw09_Few.f k ts a m) (few09 ts a m) := by
 simp only [steeplelaw09_Few.f]
 unfold few09
 by_cases h : (ts.length : Int) > a
 ·exact Ev.congr (Ev.pos h (Ev.pure _)) (by rw [if_pos h])
 ·exact Ev.congr (Ev.neg h (few09_l0 m ts [] (by simp; omega))) (by rw [if_neg h])
theorem few21_l0 (conds : List (List S149)) (ts : List (List S28)) (hc : conds.length ≤ 50) : ∀ (r pre : List (List S149)), conds = pre ++ r → Ev (fun k => steeplelaw21_Few.l0 k (pre.length : Int) conds ts) ((r.all fun t => decide ((t.length : Int) ≤ 12)) && (decide (conds.length ≤ 6) || decide (40 < conds.length)))
 | [], pre, hp => by
  refine Ev.succ ?_
  simp only [steeplelaw21_Few.l0]
  refine Ev.neg (by rw [hp]; exact ge_part pre) ?_
  by_cases h : (conds.length : Int) ≤ 6
  ·exact Ev.congr (Ev.pos h (Ev.pure _)) (by simp; omega)
  ·refine Ev.congr (Ev.neg h (Ev.pure _)) ?_
   rw [List.all_nil, Bool.true_and, show decide (conds.length ≤ 6) = false from decide_eq_false (by omega), Bool.false_or]
   exact decide_eq_decide.2 (by omega)
 | t :: r, pre, hp => by
  have IH := few21_l0 conds ts hc r (pre ++ [t]) (by simpa using hp)
  have lt : (pre.length : Int) < (conds.length : Int) := by rw [hp]; exact lt_part pre t r
  have e : rd_L13 conds (pre.length : Int) = t := by rw [hp]; exact getD_part pre t _ r
  rw [show (pre ++ [t]).length = pre.length + 1 by simp] at IH
  refine Ev.succ ?_
  simp only [steeplelaw21_Few.l0]
  refine Ev.pos lt (Ev.pos (by omega) ?_)
  rw [e, w64_succ (by omega), List.all_cons]
  by_cases h : (t.length : Int) ≤ 12
  ·exact Ev.neg (by omega) (Ev.congr IH (by simp [h]))
  ·exact Ev.pos (by omega) (Ev.congr (Ev.pure _) (by simp [h]))
def few21 (conds : List (List S149)) (ts : List (List S28)) : Bool := if (conds.length : Int) > 50 then false else few09 ts 5 16 && ((conds.all fun t => decide ((t.length : Int) ≤ 12)) && (decide (conds.length ≤ 6) || decide (40 < conds.length)))
theorem few21_ev (conds : List (List S149)) (ts : List (List S28)) : Ev (fun k => steeplelaw21_Few.f k conds ts) (few21 conds ts) := by
 simp only [steeplelaw21_Few.f]
 unfold few21
 by_cases h : (conds.length : Int) > 50
 ·refine Ev.congr (Ev.pos h (Ev.succ ?_)) (by rw [if_pos h])
  simp only [steeplelaw21_Few.j0]
  exact Ev.pos trivial (Ev.pure _)
 ·rw [if_neg h]
  refine Ev.neg h (Ev.bind (few09_ev ts 5 16 (by omega)) (Ev.succ ?_))
  simp only [steeplelaw21_Few.j0]
  cases hf : few09 ts 5 16 with
  | true =>
   refine Ev.neg (by simp) ?_
   have := few21_l0 conds ts (by omega) conds [] rfl
   rw [Bool.true_and]
   exact this
  | false => exact Ev.congr (Ev.pos rfl (Ev.pure _)) (by simp)
theorem few21_ok {conds : List (List S149)} {ts : List (List S28)} (h : few21 conds ts = true) : ts.length ≤ 5 := by
 unfold few21 at h
 by_cases h1 : (conds.length : Int) > 50
 ·rw [if_pos h1] at h; cases h
 ·rw [if_neg h1] at h
  simp only [Bool.and_eq_true] at h
  have h2 := h.1
  unfold few09 at h2
  by_cases h3 : (ts.length : Int) > 5
  ·rw [if_pos h3] at h2; cases h2
  ·omega
theorem xor00 : xorE ⟨0, 0⟩ ⟨0, 0⟩ = ⟨0, 0⟩ := by
 unfold xorE
 rw [show Go.bits .xor .u64 0 0 = 0 from by decide +kernel]
theorem mixV_zero (level : Int) (a : S28) : ∀ (l : List S28) (b : S28), (∀ x ∈ l, x = ⟨0, 0⟩) → mixV level a l b ⟨0, 0⟩ = ⟨0, 0⟩
 | [], b, h => rfl
 | x :: r, b, h => by
  rw [mixV, h x List.mem_cons_self, MulS_zero_r]
  rw [xor00]
  exact mixV_zero level a r _ (fun y hy => h y (List.mem_cons_of_mem _ hy))
theorem colS_snoc (ts : List (List S28)) (ws : List S28) (i : Int) : colS (ts ++ [ws]) i = colS ts i ++ [rd_T28 ws i] := by simp [colS]
theorem col_all {level : Int} {N : Nat} {ts : List (List S28)} (h : TablesOK level N ts) {i : Nat} (hi : i < N) : (colS ts (i : Int)).all (ofE level) = true := by
 rw [List.all_eq_true]
 intro x hx
 obtain ⟨t, ht, rfl⟩ := List.mem_map.1 hx
 obtain ⟨h1, h2⟩ := h.2 t ht
 rw [List.all_eq_true] at h2
 refine h2 _ ?_
 unfold rd_T28
 rw [List.getD_eq_getElem?_getD, List.getElem?_eq_getElem (by simp; omega)]
 exact List.getElem_mem _
end Go.Proofs.Ytoaepfgfbfgcdaa.Q
set_option linter.unusedVariables false
set_option linter.unusedSimpArgs false
namespace Go.Proofs.Ytoaepfgfbfgcdaa.Q
open Go.RowKit Go.Proofs.YtoaepfgfbfgcdaaW.PrintWords Go.Proofs.YtoaepfgfbfgcdaaW.PrintLast Go.Proofs.YtoaepfgfbfgcdaaW.PrintMore
open Go.Proofs.Ytoaepfgfbfgcdaa.Steeple
theorem Mix_ok {level vars : Int} {conds : List (List S149)} {a : S28} (h : (MixS level vars conds a).2 = 0) : manyS conds.length = 0 ∧ (∀ c ∈ conds, chkS level vars c = 0) ∧ ofE level a = true ∧ chkS level (wrap64 (vars + 1)) (mixS level vars conds a) = 0 ∧ (MixS level vars conds a).1 = mixS level vars conds a := by
 unfold MixS at h ⊢
 by_cases g1 : manyS conds.length = 0
 ·rw [if_pos g1] at h ⊢
  by_cases g2 : firstE (chkS level vars) conds = 0
  ·rw [if_pos g2] at h ⊢
   by_cases g3 : ofE level a = true
   ·rw [if_pos g3] at h ⊢
    by_cases g4 : chkS level (wrap64 (vars + 1)) (mixS level vars conds a) = 0
    ·rw [if_pos g4]; exact ⟨g1, firstE_ok g2, g3, g4, rfl⟩
    ·rw [if_neg g4] at h; exact absurd h g4
   ·rw [if_neg g3] at h; simp at h
  ·rw [if_neg g2] at h; exact absurd h g2
 ·rw [if_neg g1] at h; exact absurd h g1
theorem SumZ_ok {level : Int} {conds : List (List S149)} {ts : List (List S28)} {a : S28} {p : List S28} (h : (SumZ level conds ts a p).2 = 0) : askS level conds ts = 0 ∧ (MixS level (ts.length : Int) conds a).2 = 0 ∧ (p.length : Int) = logS ((rdR ts 0).length : Int) ∧ p.all (ofE level) = true ∧ CheckS level (mixS level (ts.length : Int) conds a) (ts ++ [WeightsS level p]) = 0 ∧ (SumZ level conds ts a p).1 = sumS level (mixS level (ts.length : Int) conds a) (ts ++ [WeightsS level p]) := by
 unfold SumZ at h ⊢
 by_cases h1 : askS level conds ts = 0
 ·rw [if_pos h1] at h ⊢
  by_cases h2 : (MixS level (ts.length : Int) conds a).2 = 0
  ·rw [if_pos h2] at h ⊢
   by_cases h3 : (p.length : Int) = logS ((rdR ts 0).length : Int)
   ·rw [if_pos h3] at h ⊢
    by_cases h4 : (p.any fun x => !ofB level x.f0 x.f1) = true
    ·rw [if_pos h4] at h; simp at h
    ·rw [if_neg h4] at h ⊢
     rw [(Mix_ok h2).2.2.2.2] at h ⊢
     unfold SumS at h ⊢
     by_cases h5 : CheckS level (mixS level (ts.length : Int) conds a) (ts ++ [WeightsS level p]) = 0
     ·rw [if_pos h5]
      refine ⟨h1, h2, h3, ?_, h5, rfl⟩
      rw [List.all_eq_true]
      intro x hx
      cases hb : ofE level x with
      | true => rfl
      | false => exact absurd (List.any_eq_true.2 ⟨x, hx, by simpa [ofE] using hb⟩) h4
     ·rw [if_neg h5] at h; exact absurd h h5
   ·rw [if_neg h3] at h; simp at h
  ·rw [if_neg h2] at h; exact absurd h h2
 ·rw [if_neg h1] at h; exact absurd h h1
def Good (level : Int) (x : S28) : Prop := Q28 x ∧ ofE level x = true
theorem Good.zero {level : Int} (h0 : 0 ≤ level) (h7 : level ≤ 7) : Good level ⟨0, 0⟩ := ⟨q_zero, of_nought h0 h7⟩
theorem Good.one {level : Int} (h0 : 0 ≤ level) (h7 : level ≤ 7) : Good level ⟨0, 1⟩ := ⟨q_one, of_one h0 h7⟩
theorem Good.mul {level : Int} {a b : S28} (ha : Good level a) (hb : Good level b) : Good level (MulS level a b) := ⟨(E_mul ha.1 hb.1 ha.2 hb.2).2.1, (E_mul ha.1 hb.1 ha.2 hb.2).2.2⟩
theorem Good.add {level : Int} {a b : S28} (ha : Good level a) (hb : Good level b) : Good level (xorE a b) := ⟨(E_add ha.1 hb.1).2, of_add ha.1 hb.1 ha.2 hb.2⟩
theorem Good.E_mul {level : Int} {a b : S28} (ha : Good level a) (hb : Good level b) : E (MulS level a b) = E a * E b := (Q.E_mul ha.1 hb.1 ha.2 hb.2).1
theorem Good.E_add {level : Int} {a b : S28} (ha : Good level a) (hb : Good level b) : E (xorE a b) = E a + E b := (Q.E_add ha.1 hb.1).1
theorem evs_good {level : Int} {v : List S28} (hv : ∀ x ∈ v, Good level x) (h0 : 0 ≤ level) (h7 : level ≤ 7) : ∀ (l : List S149) (acc : List S28), StepsOK level v.length acc.length l → (∀ o ∈ l, Q149 o) → (∀ x ∈ acc, Good level x) → ∀ x ∈ evs level v l acc, Good level x
 | [], acc, h, hq, ha => ha
 | o :: r, acc, h, hq, ha => by
  rw [evs]
  refine evs_good hv h0 h7 r _ (by simpa using h.2) (fun o ho => hq o (List.mem_cons_of_mem _ ho)) ?_
  intro x hx
  rcases List.mem_append.1 hx with hx | hx
  ·exact ha x hx
  ·rw [List.mem_singleton.1 hx]
   have rdg : ∀ (l : List S28) (i : Int), (∀ x ∈ l, Good level x) → 0 ≤ i → i < l.length → Good level (rd_T28 l i) := by
    intro l i hl i0 i1
    refine hl _ ?_
    unfold rd_T28
    rw [List.getD_eq_getElem?_getD, List.getElem?_eq_getElem (by omega)]
    exact List.getElem_mem _
   rcases h.1 with ⟨k1, _, _, k4⟩ | ⟨k1, _, _, a1, a2⟩ | ⟨k1 | k1, _, a1, a2, a3, a4⟩
   ·unfold stepV; rw [if_pos k1]
    exact ⟨(hq o List.mem_cons_self).2.2.2, k4⟩
   ·unfold stepV; rw [if_neg (by omega), if_pos k1]
    exact rdg v _ hv a1 a2
   ·unfold stepV; rw [if_neg (by omega), if_neg (by omega), if_pos k1]
    exact Good.add (rdg acc _ ha a1 a2) (rdg acc _ ha a3 a4)
   ·unfold stepV; rw [if_neg (by omega), if_neg (by omega), if_neg (by omega), if_pos k1]
    exact Good.mul (rdg acc _ ha a1 a2) (rdg acc _ ha a3 a4)
theorem eval_good {level : Int} {v : List S28} {l : List S149} (hv : ∀ x ∈ v, Good level x) (h : chkS level v.length l = 0) (hq : ∀ o ∈ l, Q149 o) : Good level (evalS level l v) := by
 obtain ⟨h0, h7, _, hl, _, hs⟩ := chk_ok h
 have hall := evs_good hv h0 h7 l [] hs hq (fun _ h => absurd h List.not_mem_nil)
 have hlen := evs_len level v l []
 refine hall _ ?_
 unfold evalS lastE
 rw [List.getD_eq_getElem?_getD, List.getElem?_eq_getElem (by simp at hlen; omega)]
 exact List.getElem_mem _
theorem mixV_good {level : Int} {a : S28} (ha : Good level a) : ∀ (l : List S28) (b S : S28), (∀ x ∈ l, Good level x) → Good level b → Good level S → Good level (mixV level a l b S)
 | [], b, S, hl, hb, hS => hS
 | x :: r, b, S, hl, hb, hS => mixV_good ha r _ _ (fun y hy => hl y (List.mem_cons_of_mem _ hy)) (hb.mul ha) (hS.add ((hb.mul ha).mul (hl x List.mem_cons_self)))
theorem mixV0_good {level : Int} {a : S28} (ha : Good level a) (l : List S28) (hl : ∀ x ∈ l, Good level x) : Good level (mixV0 level a l) := by
 have hL := of_level ha.2
 cases l with
 | nil => exact Good.zero hL.1 hL.2
 | cons x r => exact mixV_good ha r _ _ (fun y hy => hl y (List.mem_cons_of_mem _ hy)) (Good.one hL.1 hL.2) (hl x List.mem_cons_self)
theorem col_good {level : Int} {N : Nat} {ts : List (List S28)} (hT : TablesOK level N ts) (hq : ∀ t ∈ ts, ∀ x ∈ t, Q28 x) {i : Nat} (hi : i < N) : ∀ x ∈ colS ts (i : Int), Good level x := by
 intro x hx
 obtain ⟨t, ht, rfl⟩ := List.mem_map.1 hx
 obtain ⟨h1, h2⟩ := hT.2 t ht
 rw [List.all_eq_true] at h2
 have hm : rd_T28 t (i : Int) ∈ t := by
  unfold rd_T28
  rw [List.getD_eq_getElem?_getD, List.getElem?_eq_getElem (by simp; omega)]
  exact List.getElem_mem _
 exact ⟨hq t ht _ hm, h2 _ hm⟩
def atS (level : Int) (conds : List (List S149)) (ts : List (List S28)) (a : S28) (j : Nat) : S28 := mixV0 level a (conds.map fun c => evalS level c (colS ts (j : Int)))
theorem at_good {level : Int} {conds : List (List S149)} {ts : List (List S28)} {a : S28} {N : Nat} (ha : Good level a) (hT : TablesOK level N ts) (hq : ∀ t ∈ ts, ∀ x ∈ t, Q28 x) (hc : ∀ c ∈ conds, ∀ o ∈ c, Q149 o) (hk : ∀ c ∈ conds, chkS level (ts.length : Int) c = 0) {j : Nat} (hj : j < N) : Good level (atS level conds ts a j) := by
 refine mixV0_good ha _ ?_
 intro x hx
 obtain ⟨c, hcc, rfl⟩ := List.mem_map.1 hx
 refine eval_good (col_good hT hq hj) ?_ (hc c hcc)
 rw [show (colS ts (j : Int)).length = ts.length by simp [colS]]
 exact hk c hcc
def wsum (level : Int) (conds : List (List S149)) (ts : List (List S28)) (a : S28) (ws : List S28) : Nat → Nat → S28 → S28
 | 0, _, acc => acc
 | f + 1, j, acc => wsum level conds ts a ws f (j + 1) (xorE acc (MulS level (rd_T28 ws (j : Int)) (atS level conds ts a j)))
theorem sumL_wsum {level : Int} {conds : List (List S149)} {ts : List (List S28)} {a : S28} {ws : List S28} {N : Nat} (hT : TablesOK level N (ts ++ [ws])) (hn : manyS conds.length = 0) (hk : ∀ c ∈ conds, chkS level (ts.length : Int) c = 0) (hm : chkS level ((ts.length : Int) + 1) (mixS level (ts.length : Int) conds a) = 0) : ∀ (f j : Nat) (acc : S28), f + j = N →
  sumL level (mixS level (ts.length : Int) conds a) (ts ++ [ws]) f j acc = wsum level conds ts a ws f j acc
 | 0, j, acc, h => rfl
 | f + 1, j, acc, h => by
  have hcl : (colS ts (j : Int)).length = ts.length := by simp [colS]
  have e : (EvalS level (mixS level (ts.length : Int) conds a) (colS (ts ++ [ws]) (j : Int))).1 = MulS level (rd_T28 ws (j : Int)) (atS level conds ts a j) := by
   unfold EvalS
   have hcl2 : ((colS (ts ++ [ws]) (j : Int)).length : Int) = (ts.length : Int) + 1 := by simp [colS]
   rw [hcl2, if_pos hm, if_pos (col_all hT (by omega)), colS_snoc]
   have := eval_mix (level := level) (v := colS ts (j : Int)) (w := rd_T28 ws (j : Int)) (a := a) conds (many_ok hn).2 (many_ok hn).1 (by rw [hcl]; exact hk)
   rw [hcl] at this
   exact this
  rw [sumL, wsum, e]
  exact sumL_wsum hT hn hk hm f (j + 1) _ (by omega)
theorem SumZ_wsum {level : Int} {conds : List (List S149)} {ts : List (List S28)} {a : S28} {p : List S28} (h : (SumZ level conds ts a p).2 = 0) : ∃ n : Nat, n ≤ 12 ∧ p.length = n ∧ (rdR ts 0).length = 2 ^ n ∧ TablesOK level (2 ^ n) ts ∧ TablesOK level (2 ^ n) (ts ++ [WeightsS level p]) ∧ ofE level a = true ∧ manyS conds.length = 0 ∧ (∀ c ∈ conds, chkS level (ts.length : Int) c = 0) ∧ chkS level ((ts.length : Int) + 1) (mixS level (ts.length : Int) conds a) = 0 ∧
  (SumZ level conds ts a p).1 = wsum level conds ts a (WeightsS level p) (2 ^ n) 0 ⟨0, 0⟩ := by
 obtain ⟨h1, h2, h3, h4, h5, h6⟩ := SumZ_ok h
 obtain ⟨m1, m2, m3, m4, m5⟩ := Mix_ok h2
 obtain ⟨n, hn, e1, e2, hT⟩ := ask_tables h1
 obtain ⟨c1, n', hn', e1', e2', hT'⟩ := Check_ok h5
 have er : rdR (ts ++ [WeightsS level p]) 0 = rdR ts 0 := by
  unfold rdR
  have := List.length_pos_iff.2 hT.1
  rw [List.getD_eq_getElem?_getD, List.getD_eq_getElem?_getD, List.getElem?_append_left (by simpa using this)]
 rw [er, e1] at e1'
 have en : n = n' := (Nat.pow_right_inj (by decide)).1 e1'
 subst en
 have hlen : (((ts ++ [WeightsS level p]).length : Nat) : Int) = (ts.length : Int) + 1 := by simp
 rw [hlen] at c1
 refine ⟨n, hn, by rw [e2] at h3; omega, e1, hT, hT', m3, m1, m2, c1, ?_⟩
 rw [h6]
 unfold sumS
 rw [er, e1]
 exact sumL_wsum hT' m1 m2 c1 (2 ^ n) 0 _ rfl
def delta (N i : Nat) : List S28 := (List.range N).map fun j => if j = i then ⟨0, 1⟩ else ⟨0, 0⟩
def bitsL : Nat → Nat → List S28
 | _, 0 => []
 | i, n + 1 => ⟨0, ((i % 2 : Nat) : Int)⟩ :: bitsL (i / 2) n
theorem range_add_map {α : Type} (f : Nat → α) (m n : Nat) : (List.range (m + n)).map f = (List.range m).map f ++ (List.range n).map fun j => f (m + j) := by
 rw [List.range_add, List.map_append, List.map_map]
 rfl
theorem delta_low (N i : Nat) (h : i < N) : delta (N + N) i = delta N i ++ List.replicate N ⟨0, 0⟩ := by
 unfold delta
 rw [range_add_map]
 congr 1
 rw [List.eq_replicate_iff]
 refine ⟨by simp, fun x hx => ?_⟩
 obtain ⟨j, _, rfl⟩ := List.mem_map.1 hx
 rw [if_neg (by omega)]
theorem delta_high (N i : Nat) (h : i < N) : delta (N + N) (N + i) = List.replicate N ⟨0, 0⟩ ++ delta N i := by
 unfold delta
 rw [range_add_map]
 congr 1
 ·rw [List.eq_replicate_iff]
  refine ⟨by simp, fun x hx => ?_⟩
  obtain ⟨j, hj, rfl⟩ := List.mem_map.1 hx
  have := List.mem_range.1 hj
  rw [if_neg (by omega)]
 ·refine List.map_congr_left fun j _ => ?_
  by_cases hji : j = i
  ·rw [if_pos (by omega), if_pos hji]
  ·rw [if_neg (by omega), if_neg hji]
theorem delta_good {level : Int} (h0 : 0 ≤ level) (h7 : level ≤ 7) (N i : Nat) : ∀ x ∈ delta N i, Good level x := by
 intro x hx
 obtain ⟨j, _, rfl⟩ := List.mem_map.1 hx
 by_cases h : j = i
 ·rw [if_pos h]; exact Good.one h0 h7
 ·rw [if_neg h]; exact Good.zero h0 h7
theorem row_zero (level : Int) (l : List S28) : rowS level ⟨0, 0⟩ l = List.replicate l.length ⟨0, 0⟩ := by
 unfold rowS
 rw [List.eq_replicate_iff]
 refine ⟨by simp, fun x hx => ?_⟩
 obtain ⟨w, _, rfl⟩ := List.mem_map.1 hx
 exact MulS_zero_r _ _
theorem row_one {level : Int} {l : List S28} (h : ∀ x ∈ l, Good level x) : rowS level ⟨0, 1⟩ l = l := by
 unfold rowS
 conv => rhs; rw [← List.map_id l]
 exact List.map_congr_left fun x hx => MulS_one_r (h x hx).1 (h x hx).2
theorem zip_zero {level : Int} : ∀ {l : List S28}, (∀ x ∈ l, Good level x) → List.zipWith xorE l (List.replicate l.length ⟨0, 0⟩) = l
 | [], _ => rfl
 | x :: r, h => by
  rw [List.length_cons, List.replicate_succ, List.zipWith_cons_cons, xorE_zero (h x List.mem_cons_self).1, zip_zero (fun y hy => h y (List.mem_cons_of_mem _ hy))]
theorem zip_self {level : Int} : ∀ {l : List S28}, (∀ x ∈ l, Good level x) → List.zipWith xorE l l = List.replicate l.length ⟨0, 0⟩
 | [], _ => rfl
 | x :: r, h => by
  rw [List.zipWith_cons_cons, xorE_self (h x List.mem_cons_self).1, zip_self (fun y hy => h y (List.mem_cons_of_mem _ hy)), List.length_cons, List.replicate_succ]
theorem delta_len (N i : Nat) : (delta N i).length = N := by simp [delta]
theorem wts_bits {level : Int} (h0 : 0 ≤ level) (h7 : level ≤ 7) : ∀ (n i M c : Nat), c < M → wtsS level (bitsL i n) (delta M c) = delta (M * 2 ^ n) (c + M * (i % 2 ^ n))
 | 0, i, M, c, hc => by
  rw [bitsL, wtsS, Nat.pow_zero, Nat.mul_one, Nat.mod_one, Nat.mul_zero, Nat.add_zero]
 | n + 1, i, M, c, hc => by
  have hd := delta_good h0 h7 M c
  have hmod : i % 2 ^ (n + 1) = i % 2 + 2 * (i / 2 % 2 ^ n) := by
   rw [Nat.pow_succ', Nat.mod_mul]
  rw [bitsL, wtsS, hmod]
  rcases Nat.mod_two_eq_zero_or_one i with h | h
  ·rw [h]
   have e : wtsS level (bitsL (i / 2) n) (List.zipWith xorE (delta M c) (rowS level ⟨0, ((0 : Nat) : Int)⟩ (delta M c)) ++ rowS level ⟨0, ((0 : Nat) : Int)⟩ (delta M c)) = wtsS level (bitsL (i / 2) n) (delta (M + M) c) := by
    have e0 : rowS level ⟨0, ((0 : Nat) : Int)⟩ (delta M c) = List.replicate (delta M c).length ⟨0, 0⟩ := row_zero level _
    rw [e0, zip_zero hd, delta_len, delta_low M c hc]
   rw [e, wts_bits h0 h7 n (i / 2) (M + M) c (by omega), Nat.pow_succ]
   congr 1
   ·rw [← Nat.mul_two, Nat.mul_assoc, Nat.mul_comm 2]
   ·rw [Nat.zero_add, ← Nat.mul_two, Nat.mul_assoc]
  ·rw [h]
   have e : wtsS level (bitsL (i / 2) n) (List.zipWith xorE (delta M c) (rowS level ⟨0, ((1 : Nat) : Int)⟩ (delta M c)) ++ rowS level ⟨0, ((1 : Nat) : Int)⟩ (delta M c)) = wtsS level (bitsL (i / 2) n) (delta (M + M) (M + c)) := by
    have e0 : rowS level ⟨0, ((1 : Nat) : Int)⟩ (delta M c) = delta M c := row_one hd
    rw [e0, zip_self hd, delta_len, delta_high M c hc]
   rw [e, wts_bits h0 h7 n (i / 2) (M + M) (M + c) (by omega), Nat.pow_succ]
   congr 1
   ·rw [← Nat.mul_two, Nat.mul_assoc, Nat.mul_comm 2]
   ·rw [← Nat.mul_two, Nat.mul_add, Nat.mul_one, Nat.mul_assoc]; omega
theorem bits_all {level : Int} (h0 : 0 ≤ level) (h7 : level ≤ 7) : ∀ (n i : Nat), ∀ x ∈ bitsL i n, Good level x
 | 0, i, x, hx => by cases hx
 | n + 1, i, x, hx => by
  rw [bitsL] at hx
  rcases List.mem_cons.1 hx with rfl | hx
  ·rcases Nat.mod_two_eq_zero_or_one i with h | h <;> rw [h]
   ·exact Good.zero h0 h7
   ·exact Good.one h0 h7
  ·exact bits_all h0 h7 n _ x hx
theorem Weights_bits {level : Int} (h0 : 0 ≤ level) (h7 : level ≤ 7) {n i : Nat} (hn : n ≤ 12) (hl : (bitsL i n).length = n) (hi : i < 2 ^ n) : WeightsS level (bitsL i n) = delta (2 ^ n) i := by
 unfold WeightsS
 have hw : ¬ wideS level = 0 := fun h => by have := (wide_zero level).1 h; omega
 rw [if_neg hw, if_neg (by omega)]
 have ha : ¬ ((bitsL i n).any fun x => !ofB level x.f0 x.f1) = true := by
  intro h
  obtain ⟨x, hx, hb⟩ := List.any_eq_true.1 h
  have := (bits_all h0 h7 n i x hx).2
  unfold ofE at this
  rw [this] at hb
  cases hb
 rw [if_neg ha]
 have := wts_bits h0 h7 n i 1 0 (by omega)
 rw [Nat.one_mul, Nat.one_mul, Nat.zero_add, Nat.mod_eq_of_lt hi] at this
 exact this
theorem rd_delta (N i j : Nat) (h : j < N) : rd_T28 (delta N i) (j : Int) = if j = i then ⟨0, 1⟩ else ⟨0, 0⟩ := by
 unfold rd_T28 delta
 rw [List.getD_eq_getElem?_getD, List.getElem?_map, List.getElem?_range (by simpa using h)]
 rfl
theorem wsum_delta {level : Int} {conds : List (List S149)} {ts : List (List S28)} {a : S28} {N i : Nat} (hg : ∀ j, j < N → Good level (atS level conds ts a j)) : ∀ (f j : Nat), f + j = N →
  (j ≤ i → i < N → wsum level conds ts a (delta N i) f j ⟨0, 0⟩ = atS level conds ts a i) ∧ (∀ acc, Q28 acc → i < j → wsum level conds ts a (delta N i) f j acc = acc)
 | 0, j, h => ⟨fun h1 h2 => absurd h2 (by omega), fun acc _ _ => rfl⟩
 | f + 1, j, h => by
  obtain ⟨r1, r2⟩ := wsum_delta (i := i) hg f (j + 1) (by omega)
  have hj := hg j (by omega)
  refine ⟨fun h1 h2 => ?_, fun acc ha h1 => ?_⟩
  ·rw [wsum, rd_delta N i j (by omega)]
   by_cases hji : j = i
   ·subst hji
    rw [if_pos rfl, MulS_one_l hj.1 hj.2, zero_xorE hj.1]
    exact r2 _ hj.1 (by omega)
   ·rw [if_neg hji, MulS_zero_l, xor00]
    exact r1 (by omega) h2
  ·rw [wsum, rd_delta N i j (by omega), if_neg (by omega), MulS_zero_l, xorE_zero ha]
   exact r2 acc ha (by omega)
def ValueS (level : Int) (conds : List (List S149)) (v : List S28) (a w : S28) : S28 × Int := if (MixS level (v.length : Int) conds a).2 = 0 then EvalS level (MixS level (v.length : Int) conds a).1 (v ++ [w]) else (⟨0, 0⟩, (MixS level (v.length : Int) conds a).2)
theorem Value_ev (level : Int) (conds : List (List S149)) (v : List S28) (a w : S28) (hv : v.length ≤ 100000) : Ev (fun k => zero_Value.f k level conds v a.f0 a.f1 w.f0 w.f1) ((ValueS level conds v a w).1.f0, (ValueS level conds v a w).1.f1, (ValueS level conds v a w).2) := by
 simp only [zero_Value.f]
 refine Ev.bind (Mix_ev level _ conds a) ?_
 unfold ValueS
 by_cases h : (MixS level (v.length : Int) conds a).2 = 0
 ·rw [if_pos h]
  refine Ev.pos h ?_
  simp only [api_Elem_93.f]
  rw [if_pos (by omega)]
  simp only [Option.bind_some]
  refine Ev.pos (by simp; omega) ?_
  exact Ev.bind (Eval_ev level _ _ (by simp; omega)) (Ev.pure _)
 ·rw [if_neg h]
  exact Ev.neg h (Ev.pure _)
theorem corner_value {level : Int} {conds : List (List S149)} {ts : List (List S28)} {a : S28} {i m : Nat} (hq : ∀ t ∈ ts, ∀ x ∈ t, Q28 x) (hc : ∀ c ∈ conds, ∀ o ∈ c, Q149 o) (ha : Q28 a) (hi : i < (rdR ts 0).length) (hm : (bitsL i m).length = m) (h : (SumZ level conds ts a (bitsL i m)).2 = 0) :
  (∀ t ∈ ts, i < t.length) ∧ ValueS level conds (colS ts (i : Int)) a ⟨0, 1⟩ = ((SumZ level conds ts a (bitsL i m)).1, 0) := by
 obtain ⟨n, hn, hp, e1, hT, hT', hoa, hmn, hk, hmx, hs⟩ := SumZ_wsum h
 rw [hm] at hp
 subst hp
 rw [e1] at hi
 have hL := of_level hoa
 have hcl : (colS ts (i : Int)).length = ts.length := by simp [colS]
 have hg : ∀ j, j < 2 ^ m → Good level (atS level conds ts a j) := fun j hj => at_good ⟨ha, hoa⟩ hT hq hc hk hj
 rw [Weights_bits hL.1 hL.2 hn hm hi] at hs
 rw [(wsum_delta hg (2 ^ m) 0 rfl).1 (Nat.zero_le _) hi] at hs
 refine ⟨fun t ht => by rw [(hT.2 t ht).1]; exact hi, ?_⟩
 have h2 : (MixS level (ts.length : Int) conds a).2 = 0 := (SumZ_ok h).2.1
 unfold ValueS
 rw [hcl, if_pos h2, (Mix_ok h2).2.2.2.2, hs]
 unfold EvalS
 have hl2 : (((colS ts (i : Int) ++ [(⟨0, 1⟩ : S28)]).length : Nat) : Int) = (ts.length : Int) + 1 := by simp [colS]
 have hall : (colS ts (i : Int) ++ [(⟨0, 1⟩ : S28)]).all (ofE level) = true := by
  rw [List.all_append, col_all hT hi, Bool.true_and]
  simp [of_one hL.1 hL.2]
 rw [hl2, if_pos hmx, if_pos hall]
 have := eval_mix (level := level) (v := colS ts (i : Int)) (w := ⟨0, 1⟩) (a := a) conds (many_ok hmn).2 (many_ok hmn).1 (by rw [hcl]; exact hk)
 rw [hcl] at this
 rw [this]
 show (MulS level ⟨0, 1⟩ (atS level conds ts a i), (0 : Int)) = _
 rw [MulS_one_l (hg i hi).1 (hg i hi).2]
theorem bits_len : ∀ (n i : Nat), (bitsL i n).length = n
 | 0, i => rfl
 | n + 1, i => by rw [bitsL, List.length_cons, bits_len n]
section
variable (level : Int) (conds : List (List S149)) (ts : List (List S28)) (a : S28) (p : List S28) (w : S28)
theorem corner_l1 (i : Nat) (s : S28) (hts : ts.length ≤ 5) (hi : ∀ t ∈ ts, i < t.length) (hv : ValueS level conds (colS ts (i : Int)) a ⟨0, 1⟩ = (s, 0)) : ∀ (r pre : List (List S28)), ts = pre ++ r →
  Ev (fun k => steeplelaw21_ZeroCorners.l1 k level (i : Int) (colS pre (i : Int)) (pre.length : Int) conds ts a.f0 a.f1 p w.f0 w.f1 s.f0 s.f1) true
 | [], pre, hp => by
  refine Ev.succ ?_
  simp only [steeplelaw21_ZeroCorners.l1]
  refine Ev.neg (by rw [hp]; exact ge_part pre) ?_
  have e : colS pre (i : Int) = colS ts (i : Int) := by rw [hp]; simp
  rw [e]
  refine Ev.bind (Value_ev level conds (colS ts (i : Int)) a ⟨0, 1⟩ (by simp [colS]; omega)) ?_
  refine Ev.bind awake21_ev (Ev.pos rfl ?_)
  rw [hv]
  exact Ev.pos rfl (Ev.const (by simp))
 | t :: r, pre, hp => by
  have IH := corner_l1 i s hts hi hv r (pre ++ [t]) (by simpa using hp)
  have hpl : pre.length < 5 := by rw [hp] at hts; simp at hts; omega
  have lt : (pre.length : Int) < (ts.length : Int) := by rw [hp]; exact lt_part pre t r
  have e : rd_L11 ts (pre.length : Int) = t := by rw [hp]; exact getD_part pre t _ r
  have ht := hi t (by rw [hp]; simp)
  have hcl : (colS pre (i : Int)).length = pre.length := by simp [colS]
  refine Ev.succ ?_
  simp only [steeplelaw21_ZeroCorners.l1]
  refine Ev.pos lt (Ev.pos (by omega) (Ev.pos (by omega) ?_))
  rw [e, w64_succ (by omega)]
  rw [show colS (pre ++ [t]) (i : Int) = colS pre (i : Int) ++ [rd_T28 t (i : Int)] by simp [colS], show (pre ++ [t]).length = pre.length + 1 by simp] at IH
  exact Ev.pos (by omega) (Ev.pos (by omega) IH)
theorem corner_j2 (i m : Nat) (hts : ts.length ≤ 5) (hq : ∀ t ∈ ts, ∀ x ∈ t, Q28 x) (hc : ∀ c ∈ conds, ∀ o ∈ c, Q149 o) (ha : Q28 a) (hi : i < (rdR ts 0).length) :
  Ev (fun k => steeplelaw21_ZeroCorners.j2 k level (i : Int) (bitsL i m) ([] : List S28) conds ts a.f0 a.f1 p w.f0 w.f1) true := by
 refine Ev.succ ?_
 simp only [steeplelaw21_ZeroCorners.j2]
 refine Ev.bind (SumZ_ev level conds ts a (bitsL i m) (by omega)) ?_
 by_cases h : (SumZ level conds ts a (bitsL i m)).2 = 0
 ·obtain ⟨h1, h2⟩ := corner_value hq hc ha hi (bits_len m i) h
  exact Ev.pos h (corner_l1 level conds ts a p w i _ hts h1 h2 ts [] rfl)
 ·exact Ev.neg h (Ev.bind awake21_ev (Ev.pure _))
theorem corner_l0 (i N : Nat) (hN : (rd_L11 ts 0).length = N) (h0 : 0 < ts.length) (H : ∀ m, Ev (fun k => steeplelaw21_ZeroCorners.j2 k level (i : Int) (bitsL i m) ([] : List S28) conds ts a.f0 a.f1 p w.f0 w.f1) true) : ∀ (f : Nat) (q : List S28) (x : Nat), f + q.length = 5 → x < 1000000 → (∀ m, ∃ m', q ++ bitsL x m = bitsL i m') →
  Ev (fun k => steeplelaw21_ZeroCorners.l0 k level (i : Int) q (x : Int) conds ts a.f0 a.f1 p w.f0 w.f1) true := by
 intro f
 induction f with
 | zero =>
  intro q x hf hx hb
  refine Ev.succ ?_
  simp only [steeplelaw21_ZeroCorners.l0]
  have eu : IntKind.u64.wrap (q.length : Int) = (q.length : Int) := u64_wrap (by omega)
  obtain ⟨m', hm'⟩ := hb 0
  rw [bitsL, List.append_nil] at hm'
  have J := H m'
  rw [← hm'] at J
  rw [eu]
  refine Ev.pos (by omega) (Ev.pos (by omega) ?_)
  by_cases hc : ((rd_L11 ts 0).length : Int) > shl .i64 1 (q.length : Int)
  ·exact Ev.pos hc (Ev.neg (by omega) J)
  ·exact Ev.neg hc J
 | succ f ih =>
  intro q x hf hx hb
  refine Ev.succ ?_
  simp only [steeplelaw21_ZeroCorners.l0]
  have eu : IntKind.u64.wrap (q.length : Int) = (q.length : Int) := u64_wrap (by omega)
  obtain ⟨m', hm'⟩ := hb 0
  rw [bitsL, List.append_nil] at hm'
  have J := H m'
  rw [← hm'] at J
  rw [eu]
  refine Ev.pos (by omega) (Ev.pos (by omega) ?_)
  by_cases hc : ((rd_L11 ts 0).length : Int) > shl .i64 1 (q.length : Int)
  ·refine Ev.pos hc (Ev.pos (by omega) (Ev.pos (by omega) ?_))
   have e1 : IntKind.u64.wrap (Int.tmod (x : Int) 2) = ((x % 2 : Nat) : Int) := u64_wrap (n := x % 2) (by omega)
   have e2 : wrap64 (Int.tdiv (x : Int) 2) = ((x / 2 : Nat) : Int) := w64_id (n := ((x / 2 : Nat) : Int)) (by omega) (by omega)
   rw [e1, e2]
   refine ih (q ++ [⟨0, ((x % 2 : Nat) : Int)⟩]) (x / 2) (by simp; omega) (Nat.lt_of_le_of_lt (Nat.div_le_self x 2) hx) ?_
   intro m
   obtain ⟨m2, h2⟩ := hb (m + 1)
   refine ⟨m2, ?_⟩
   rw [← h2, bitsL]
   simp
  ·exact Ev.neg hc J
end
theorem few21_more {conds : List (List S149)} {ts : List (List S28)} (h : few21 conds ts = true) : ts.length ≤ 5 ∧ ∀ t ∈ ts, t.length ≤ 16 := by
 unfold few21 at h
 by_cases h1 : (conds.length : Int) > 50
 ·rw [if_pos h1] at h; cases h
 ·rw [if_neg h1] at h
  simp only [Bool.and_eq_true] at h
  have h2 := h.1
  unfold few09 at h2
  by_cases h3 : (ts.length : Int) > 5
  ·rw [if_pos h3] at h2; cases h2
  ·rw [if_neg h3, List.all_eq_true] at h2
   exact ⟨by omega, fun t ht => by have := of_decide_eq_true (h2 t ht); omega⟩
theorem zeroCorners_pure : ∀ (a0 : Int) (x1_0 : (List (List S149))) (x1_1 : (List (List S28))) (x2_0 : S28) (x2_1 : (List S28)) (x2_2 : S28), InK .i64 a0 → (QL (QL Q149)) x1_0 → (QL (QL Q28)) x1_1 → Q28 x2_0 → (QL Q28) x2_1 → Q28 x2_2 → ∃ k, steeplelaw21_ZeroCorners.f k a0 x1_0 x1_1 (x2_0.f0) (x2_0.f1) x2_1 (x2_2.f0) (x2_2.f1) = some true := by
 intro level conds ts a p w _ qc qt qa _ qw
 refine Ev.get ?_
 have J : ∀ b : Bool, (b = false → ts.length ≤ 5 ∧ (∀ t ∈ ts, t.length ≤ 16) ∧ 0 < ts.length ∧ 0 < (rd_L11 ts 0).length) → Ev (fun k => steeplelaw21_ZeroCorners.j0 k level b conds ts a.f0 a.f1 p w.f0 w.f1) true := by
  intro b hb
  refine Ev.succ ?_
  simp only [steeplelaw21_ZeroCorners.j0]
  cases b with
  | true => exact Ev.pos rfl (Ev.bind awake21_ev (Ev.pure _))
  | false =>
   obtain ⟨hts, hlen, h0, hpos⟩ := hb rfl
   have hN : (rd_L11 ts 0).length ≤ 16 := hlen _ (by
    unfold rd_L11
    rw [List.getD_eq_getElem?_getD, List.getElem?_eq_getElem (by exact h0)]
    exact List.getElem_mem _)
   obtain ⟨N, hNe⟩ : ∃ N, (rd_L11 ts 0).length = N := ⟨_, rfl⟩
   have eN : IntKind.u64.wrap ((rd_L11 ts 0).length : Int) = (N : Int) := by rw [hNe]; exact u64_wrap (by omega)
   obtain ⟨wh, wl, w1, w2, rfl⟩ := q28.1 qw
   refine Ev.neg (by simp) (Ev.pos (by omega) ?_)
   rw [eN]
   refine Ev.neg (by omega) ?_
   have hlt : wl % N < N := Nat.mod_lt _ (by omega)
   have e1 : wrap64 (Int.tmod (wl : Int) (N : Int)) = ((wl % N : Nat) : Int) := w64_id (n := ((wl % N : Nat) : Int)) (by omega) (by omega)
   show Ev (fun k => steeplelaw21_ZeroCorners.l0 k level (wrap64 (Int.tmod (wl : Int) (N : Int))) [] (wrap64 (Int.tmod (wl : Int) (N : Int))) conds ts a.f0 a.f1 p (wh : Int) (wl : Int)) true
   rw [e1]
   have hi : wl % N < (rdR ts 0).length := by
    have : (rdR ts 0).length = N := hNe
    omega
   exact corner_l0 level conds ts a p ⟨(wh : Int), (wl : Int)⟩ (wl % N) N hNe h0 (fun m => corner_j2 level conds ts a p ⟨(wh : Int), (wl : Int)⟩ (wl % N) m hts (fun t ht => (qt.2 t ht).2) (fun c hc => (qc.2 c hc).2) qa hi) 5 [] (wl % N) rfl (by omega) (fun m => ⟨m, rfl⟩)
 simp only [steeplelaw21_ZeroCorners.f]
 refine Ev.bind (few21_ev conds ts) ?_
 by_cases h : few21 conds ts = true
 ·refine Ev.pos h ?_
  by_cases h0 : (ts.length : Int) = 0
  ·exact Ev.pos h0 (J _ (fun h => by cases h))
  ·refine Ev.neg h0 (Ev.pos (by omega) (J _ (fun hb => ?_)))
   have hb' : ¬ ((rd_L11 ts 0).length : Int) = 0 := by simpa using hb
   exact ⟨(few21_more h).1, (few21_more h).2, by omega, by omega⟩
 ·exact Ev.neg h (J _ (fun h => by cases h))
end Go.Proofs.Ytoaepfgfbfgcdaa.Q
namespace Go.Proofs.Ytoaepfgfbfgcdaa.zeroCorners
open Go.RowKit Go.ChangeShapes Go.WideShapes Go.ChangeAt Go.Proofs.Ytoaepfgfbfgcdaa.Q Go.Proofs.YtoaepfgfbfgcdaaW.PrintWords Go.Proofs.YtoaepfgfbfgcdaaW.PrintLast Go.Proofs.YtoaepfgfbfgcdaaW.PrintMore
set_option linter.unusedVariables false
set_option linter.unusedSimpArgs false
theorem own : ownKnob Try.prog.godebug = none := by kernel_rfl
theorem laidOut : laidOutB Try.prog = true := by kernel_rfl
set_option maxRecDepth 100000 in
theorem lifted (os : Os) (started : os.Started) (H : Type) (enc : TypeId × Value → H) :
  ReturnsInHanded {} Try.checked os 8 .any (Rows.zeroCornersSpec.pre6 enc Try.prog Try.f8 Rows.zeroCornersRow.domain false) (Rows.zeroCornersSpec.post enc Try.prog Try.f8 false true false false) := by
 refine returnsInHanded_of_change_sized (C := Try.checked) own started (by kernel_rfl) Try.func8
  (ChangeSpec.witness6 (enc := enc) (C := Try.checked) false ⟨#[], #[.int .i64 0, .agg #[.slice none 0 0, .slice none 0 0], .agg #[.int .u64 0, .int .u64 0, .slice none 0 0, .int .u64 0, .int .u64 0]], []⟩ 8 (by kernel_rfl) (by kernel_rfl) (by kernel_rfl) (by kernel_rfl)) ?_
 intro W base args ds gs before hval0 hW hcnd hsz0 _
 have hval : ∀ (j : Nat) t v, Try.f8.params[j]? = some t → args[j]? = some v → Value.okWide Try.prog W .any base t v := hval0
 have hW' := hW
 obtain ⟨p, q, hA0, hV, rfl, hfz, hnd⟩ := hW
 have hA : DataW.TrodAll enc Try.prog W 0 (fun _ => true) true Try.f8.params.toList args.toList ds p := hA0
 rw [Try.params8] at hA hval
 obtain ⟨v0, vs0, d0, ds0, p0, q0, hargs, rfl, rfl, h0, r0⟩ := trodAll_cons hA
 obtain ⟨v1, vs1, d1, ds1, p1, q1, rfl, rfl, rfl, h1, r1⟩ := trodAll_cons r0
 obtain ⟨v2, vs2, d2, ds2, p2, q2, rfl, rfl, rfl, h2, r2⟩ := trodAll_cons r1
 obtain ⟨rfl, rfl, rfl⟩ := trodAll_nil r2
 obtain rfl : args = #[v0, v1, v2] := by cases args; simp_all
 obtain ⟨rfl, rfl⟩ := trodVars_none hV
 obtain ⟨a0, rfl⟩ := okWide_int Try.underlying3 (hval 0 3 v0 rfl rfl)
 have Q0_0 : InK .i64 a0 := by
  obtain ⟨m, hm⟩ := h0
  obtain ⟨n', hq, e2⟩ := opens_int Try.underlying3 hm
  obtain rfl : a0 = n' := by simpa [Value.cells, Kd.int, Kd.scalar] using e2
  exact hq
 obtain ⟨cs1, rfl, _⟩ := okWide_struct Try.underlying59 (hval 1 59 v1 rfl rfl)
 obtain ⟨m1, hm1⟩ := id h1
 obtain ⟨x1_0, x1_1, A1_0, d1_0, A1_1, d1_1, Q1_0, Q1_1, e1, hc1_0, hr1_0, hc1_1, hr1_1⟩ := opens59 hm1
 obtain rfl : cs1 = #[.slice A1_0 x1_0.length d1_0, .slice A1_1 x1_1.length d1_1] := by rw [← Array.toList_inj]; exact e1
 obtain ⟨cs2, rfl, _⟩ := okWide_struct Try.underlying61 (hval 2 61 v2 rfl rfl)
 obtain ⟨m2, hm2⟩ := id h2
 obtain ⟨x2_0, x2_1, x2_2, A2_1, d2_1, Q2_0, Q2_1, Q2_2, e2, hc2_1, hr2_1⟩ := opens61 hm2
 obtain rfl : cs2 = #[.int .u64 x2_0.f0, .int .u64 x2_0.f1, .slice A2_1 x2_1.length d2_1, .int .u64 x2_2.f0, .int .u64 x2_2.f1] := by rw [← Array.toList_inj]; exact e2
 clear hA0 hval0 hsz0
 obtain ⟨k, hk⟩ := zeroCorners_pure a0 x1_0 x1_1 x2_0 x2_1 x2_2 Q0_0 Q1_0 Q1_1 Q2_0 Q2_1 Q2_2
 refine (steeplelaw21_ZeroCorners.calls k a0 A1_0 d1_0 x1_0 A1_1 d1_1 x1_1 (x2_0.f0) (x2_0.f1) A2_1 d2_1 x2_1 (x2_2.f0) (x2_2.f1) true W hr1_0 hc1_0 hr1_1 hc1_1 hr2_1 hc2_1 hk).mono fun e W' ⟨he, bel⟩ => ?_
 subst he
 exact ⟨_, rfl, _, _, _, [], _, [], hW', trodAll_mk1 (shut_bool Try.underlying4 _), (trodAll_cons_mk (Below.trod laidOut (by kernel_rfl) (of_decide_eq_true (by kernel_rfl)) h0 bel (by obtain ⟨m, hm⟩ := h0; exact DataW.trod_lt m _ _ _ hm)) (trodAll_cons_mk (Below.trod laidOut (by kernel_rfl) (of_decide_eq_true (by kernel_rfl)) h1 bel (by obtain ⟨m, hm⟩ := h1; exact DataW.trod_lt m _ _ _ hm)) (trodAll_cons_mk (Below.trod laidOut (by kernel_rfl) (of_decide_eq_true (by kernel_rfl)) h2 bel (by obtain ⟨m, hm⟩ := h2; exact DataW.trod_lt m _ _ _ hm)) trodAll_mk0))), rfl, bel.frame _, fun h => by cases h⟩
theorem over : Rows.zeroCornersRow.holds Try.pinned (OpenSpec.ofChange Rows.zeroCornersSpec) :=
 OpenClaim.holds_of_wide 8 Try.f8 rfl rfl rfl rfl rfl rfl rfl ⟨rfl, rfl, rfl, rfl, rfl⟩ rfl rfl rfl rfl rfl (by kernel_rfl) Try.func8 (by kernel_rfl)
  (of_decide_eq_true (by kernel_rfl)) (by unfold Func.isWrapper; first | (rw [if_pos (by decide +kernel)]; kernel_rfl) | (rw [if_neg (by decide +kernel)]; exact ⟨rfl, rfl⟩))
  (fun os started H enc _ => lifted os started H enc)
theorem proved : Rows.ZeroCornersSaid := over
#print axioms proved
end Go.Proofs.Ytoaepfgfbfgcdaa.zeroCorners
namespace Go.Proofs.Ytoaepfgfbfgcdaa
theorem zeroCorners_holds : Rows.ZeroCornersSaid := zeroCorners.proved
end Go.Proofs.Ytoaepfgfbfgcdaa
