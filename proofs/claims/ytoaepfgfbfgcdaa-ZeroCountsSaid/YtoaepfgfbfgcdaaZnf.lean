/- ZeroCounts: whatever the input, the law returns true, and the input reads as it did. No conditions. -/
import Derived.Test.YtoaepfgfbfgcdaaZne
import Derived.Test.YtoaepfgfbfgcdaaRows
import Derived.ProofKit
import Derived.OpenShut
import Derived.ShutString
import Derived.SizedLaws
import Derived.Carry
set_option linter.unusedSimpArgs false
set_option linter.unusedVariables false
namespace Go.Proofs.Ytoaepfgfbfgcdaa.Steeple
class R2 (R : Type) extends Add R, Mul R where
 zero : R
 one : R
 add_assoc : ∀ a b c : R, a + b + c = a + (b + c)
 add_comm : ∀ a b : R, a + b = b + a
 add_zero : ∀ a : R, a + zero = a
 add_self : ∀ a : R, a + a = zero
 mul_assoc : ∀ a b c : R, a * b * c = a * (b * c)
 mul_comm : ∀ a b : R, a * b = b * a
 mul_one : ∀ a : R, a * one = a
 mul_add : ∀ a b c : R, a * (b + c) = a * b + a * c
instance {R : Type} [R2 R] : Zero R := ⟨R2.zero⟩
instance {R : Type} [R2 R] : One R := ⟨R2.one⟩
namespace R2
section
variable {R : Type} [R2 R]
theorem addAssoc (a b c : R) : a + b + c = a + (b + c) := R2.add_assoc a b c
theorem addComm (a b : R) : a + b = b + a := R2.add_comm a b
theorem addLeft (a b c : R) : a + (b + c) = b + (a + c) := by rw [← addAssoc, addComm a b, addAssoc]
theorem addZero (a : R) : a + 0 = a := R2.add_zero a
theorem zeroAdd (a : R) : 0 + a = a := by rw [addComm, addZero]
theorem addSelf (a : R) : a + a = 0 := R2.add_self a
theorem addCancel (a b : R) : a + (a + b) = b := by rw [← addAssoc, addSelf, zeroAdd]
theorem mulAssoc (a b c : R) : a * b * c = a * (b * c) := R2.mul_assoc a b c
theorem mulComm (a b : R) : a * b = b * a := R2.mul_comm a b
theorem mulLeft (a b c : R) : a * (b * c) = b * (a * c) := by rw [← mulAssoc, mulComm a b, mulAssoc]
theorem mulOne (a : R) : a * 1 = a := R2.mul_one a
theorem oneMul (a : R) : 1 * a = a := by rw [mulComm, mulOne]
theorem mulAdd (a b c : R) : a * (b + c) = a * b + a * c := R2.mul_add a b c
theorem addMul (a b c : R) : (a + b) * c = a * c + b * c := by rw [mulComm, mulAdd, mulComm c a, mulComm c b]
theorem mulZero (a : R) : a * 0 = 0 := by
 have h : a * (0 + 0) = a * 0 + a * 0 := mulAdd a 0 0
 rw [addSelf] at h; rw [addSelf] at h; exact h
theorem zeroMul (a : R) : 0 * a = 0 := by rw [mulComm, mulZero]
theorem add_eq_zero {a b : R} (h : a + b = 0) : a = b := by
 have : a + b + b = 0 + b := by rw [h]
 rwa [addAssoc, addSelf, addZero, zeroAdd] at this
theorem add_left_cancel {a b c : R} (h : a + b = a + c) : b = c := by
 have : a + (a + b) = a + (a + c) := by rw [h]
 rwa [addCancel, addCancel] at this
end
end R2
class R2X (R : Type) extends R2 R where
 x : R
structure Ext (R : Type) where
 hi : R
 lo : R
namespace Ext
variable {R : Type}
theorem ext' {a b : Ext R} (h : a.hi = b.hi) (l : a.lo = b.lo) : a = b := by cases a; cases b; simp_all
variable [R2X R]
def add (a b : Ext R) : Ext R := ⟨a.hi + b.hi, a.lo + b.lo⟩
def mul (a b : Ext R) : Ext R := ⟨a.hi * b.lo + a.lo * b.hi + R2X.x * (a.hi * b.hi), a.lo * b.lo + a.hi * b.hi⟩
instance : R2X (Ext R) where
 add := add
 mul := mul
 zero := ⟨0, 0⟩
 one := ⟨0, 1⟩
 x := ⟨1, 0⟩
 add_assoc a b c := ext' (R2.addAssoc ..) (R2.addAssoc ..)
 add_comm a b := ext' (R2.addComm ..) (R2.addComm ..)
 add_zero a := ext' (R2.addZero _) (R2.addZero _)
 add_self a := ext' (R2.addSelf _) (R2.addSelf _)
 mul_assoc a b c := by
  show mul (mul a b) c = mul a (mul b c)
  apply ext' <;> simp only [mul, R2.mulAdd, R2.addMul, R2.mulAssoc, R2.mulComm, R2.mulLeft, R2.addAssoc, R2.addComm, R2.addLeft, R2.addSelf, R2.addCancel, R2.addZero, R2.zeroAdd]
 mul_comm a b := by
  show mul a b = mul b a
  apply ext' <;> simp only [mul, R2.mulAdd, R2.addMul, R2.mulAssoc, R2.mulComm, R2.mulLeft, R2.addAssoc, R2.addComm, R2.addLeft, R2.addSelf, R2.addCancel, R2.addZero, R2.zeroAdd]
 mul_one a := by
  show mul a ⟨0, 1⟩ = a
  apply ext' <;> simp only [mul, R2.mulOne, R2.mulZero, R2.addZero, R2.zeroAdd]
 mul_add a b c := by
  show mul a (add b c) = add (mul a b) (mul a c)
  apply ext' <;> simp only [mul, add, R2.mulAdd, R2.addMul, R2.mulAssoc, R2.mulComm, R2.mulLeft, R2.addAssoc, R2.addComm, R2.addLeft, R2.addSelf, R2.addCancel, R2.addZero, R2.zeroAdd]
end Ext
def Lv : Nat → Type
 | 0 => Bool
 | n + 1 => Ext (Lv n)
@[reducible] def bitRing : R2X Bool where
 add := xor
 mul := and
 zero := false
 one := true
 x := true
 add_assoc := by decide
 add_comm := by decide
 add_zero := by decide
 add_self := by decide
 mul_assoc := by decide
 mul_comm := by decide
 mul_one := by decide
 mul_add := by decide
@[reducible] def lvRing : (n : Nat) → R2X (Lv n)
 | 0 => bitRing
 | n + 1 => @Ext.instR2X (Lv n) (lvRing n)
instance (n : Nat) : R2X (Lv n) := lvRing n
namespace Lv
def hi {n : Nat} (a : Lv (n + 1)) : Lv n := Ext.hi a
def lo {n : Nat} (a : Lv (n + 1)) : Lv n := Ext.lo a
def mk {n : Nat} (h l : Lv n) : Lv (n + 1) := Ext.mk h l
def gen (n : Nat) : Lv n := R2X.x
theorem ext {n : Nat} {a b : Lv (n + 1)} (h : hi a = hi b) (l : lo a = lo b) : a = b := Ext.ext' h l
theorem mk_hi_lo {n : Nat} (a : Lv (n + 1)) : mk (hi a) (lo a) = a := rfl
@[simp] theorem hi_mk {n : Nat} (h l : Lv n) : hi (mk h l) = h := rfl
@[simp] theorem lo_mk {n : Nat} (h l : Lv n) : lo (mk h l) = l := rfl
theorem mk_add {n : Nat} (a b c d : Lv n) : mk a b + mk c d = mk (a + c) (b + d) := rfl
theorem mk_mul {n : Nat} (a b c d : Lv n) : mk a b * mk c d = mk (a * d + b * c + gen n * (a * c)) (b * d + a * c) := rfl
theorem hi_add {n : Nat} (a b : Lv (n + 1)) : hi (a + b) = hi a + hi b := rfl
theorem lo_add {n : Nat} (a b : Lv (n + 1)) : lo (a + b) = lo a + lo b := rfl
theorem hi_mul {n : Nat} (a b : Lv (n + 1)) : hi (a * b) = hi a * lo b + lo a * hi b + gen n * (hi a * hi b) := rfl
theorem lo_mul {n : Nat} (a b : Lv (n + 1)) : lo (a * b) = lo a * lo b + hi a * hi b := rfl
theorem zero_mk (n : Nat) : (0 : Lv (n + 1)) = mk 0 0 := rfl
theorem one_mk (n : Nat) : (1 : Lv (n + 1)) = mk 0 1 := rfl
theorem gen_mk (n : Nat) : gen (n + 1) = mk 1 0 := rfl
theorem hi_zero (n : Nat) : hi (0 : Lv (n + 1)) = 0 := rfl
theorem lo_zero (n : Nat) : lo (0 : Lv (n + 1)) = 0 := rfl
theorem hi_one (n : Nat) : hi (1 : Lv (n + 1)) = 0 := rfl
theorem lo_one (n : Nat) : lo (1 : Lv (n + 1)) = 1 := rfl
theorem gen_zero : gen 0 = 1 := rfl
theorem one_ne_zero : (n : Nat) → (1 : Lv n) ≠ 0
 | 0 => by intro h; exact absurd (show true = false from h) (by decide)
 | n + 1 => fun h => one_ne_zero n (congrArg lo h)
def tr : (n : Nat) → Lv n → Bool
 | 0, b => b
 | n + 1, a => tr n (hi a * gen n)
theorem tr_add : (n : Nat) → (a b : Lv n) → tr n (a + b) = xor (tr n a) (tr n b)
 | 0, _, _ => rfl
 | n + 1, a, b => by
  show tr n ((hi a + hi b) * gen n) = _
  rw [R2.addMul, tr_add n]; rfl
theorem tr_sq : (n : Nat) → (a : Lv n) → tr n (a * a) = tr n a
 | 0, a => by cases (show Bool from a) <;> rfl
 | n + 1, a => by
  show tr n ((hi a * lo a + lo a * hi a + gen n * (hi a * hi a)) * gen n) = tr n (hi a * gen n)
  have : (hi a * lo a + lo a * hi a + gen n * (hi a * hi a)) * gen n = (hi a * gen n) * (hi a * gen n) := by
   simp only [R2.mulAdd, R2.addMul, R2.mulAssoc, R2.mulComm, R2.mulLeft, R2.addAssoc, R2.addComm, R2.addLeft, R2.addSelf, R2.addCancel, R2.addZero, R2.zeroAdd]
  rw [this, tr_sq n]
theorem tr_gen : (n : Nat) → tr n (gen n) = true
 | 0 => rfl
 | n + 1 => by
  show tr n (1 * gen n) = true
  rw [R2.oneMul, tr_gen n]
def ginv : (n : Nat) → Lv n
 | 0 => 1
 | n + 1 => mk 1 (gen n)
theorem gen_mul_ginv : (n : Nat) → gen n * ginv n = 1
 | 0 => rfl
 | n + 1 => by
  show mk 1 0 * mk 1 (gen n) = mk 0 1
  rw [mk_mul]
  simp only [R2.mulOne, R2.zeroMul, R2.oneMul, R2.addZero, R2.zeroAdd, R2.addSelf]
theorem tr_ginv : (n : Nat) → tr n (ginv n) = true
 | 0 => rfl
 | n + 1 => by
  show tr n (1 * gen n) = true
  rw [R2.oneMul, tr_gen n]
theorem tr_zero (n : Nat) : tr n 0 = false := by
 have := tr_add n 0 0
 rw [R2.addZero] at this
 cases h : tr n 0 <;> simp_all
def nrm {n : Nat} (a : Lv (n + 1)) : Lv n := lo a * (lo a + gen n * hi a) + hi a * hi a
def conj {n : Nat} (a : Lv (n + 1)) : Lv (n + 1) := mk (hi a) (lo a + gen n * hi a)
theorem mul_conj {n : Nat} (a : Lv (n + 1)) : a * conj a = mk 0 (nrm a) := by
 apply ext
 ·rw [hi_mul]
  simp only [conj, nrm, hi_mk, lo_mk, R2.mulAdd, R2.addMul, R2.mulAssoc, R2.mulComm, R2.mulLeft, R2.addAssoc, R2.addComm, R2.addLeft, R2.addSelf, R2.addCancel, R2.addZero, R2.zeroAdd]
 ·rw [lo_mul]; rfl
def inv : (n : Nat) → Lv n → Lv n
 | 0, b => b
 | n + 1, a => mk (hi a * inv n (nrm a)) ((lo a + gen n * hi a) * inv n (nrm a))
theorem nrm_ne (n : Nat) (hf : ∀ a : Lv n, a ≠ 0 → a * inv n a = 1) (a : Lv (n + 1)) (h : nrm a = 0) : a = 0 := by
 have key : ∀ x y : Lv n, x * y = 0 → x ≠ 0 → y = 0 := by
  intro x y hxy hx
  have h1 := hf x hx
  calc y = (x * inv n x) * y := by rw [h1, R2.oneMul]
   _ = inv n x * (x * y) := by rw [R2.mulComm x, R2.mulAssoc]
   _ = 0 := by rw [hxy, R2.mulZero]
 by_cases hh : hi a = 0
 ·have hl : lo a * lo a = 0 := by
   have := h; unfold nrm at this; rw [hh] at this
   simpa only [R2.mulZero, R2.addZero] using this
  have : lo a = 0 := by
   by_cases hz : lo a = 0
   ·exact hz
   ·exact key _ _ hl hz
  exact ext (by rw [hh]; rfl) (by rw [this]; rfl)
 ·exfalso
  have hi1 := hf _ hh
  have hg := gen_mul_ginv n
  let t := lo a * (inv n (hi a) * ginv n)
  have e : t * t + t = ginv n * ginv n := by
   have e1 : (lo a * lo a + gen n * (hi a * lo a) + hi a * hi a) = 0 := by
    have := h; unfold nrm at this
    rw [← this]
    simp only [R2.mulAdd, R2.addMul, R2.mulAssoc, R2.mulComm, R2.mulLeft, R2.addAssoc, R2.addComm, R2.addLeft]
   have e2 : (lo a * lo a + gen n * (hi a * lo a) + hi a * hi a) * (inv n (hi a) * inv n (hi a) * (ginv n * ginv n)) = 0 := by rw [e1, R2.zeroMul]
   have e3 : (lo a * lo a + gen n * (hi a * lo a) + hi a * hi a) * (inv n (hi a) * inv n (hi a) * (ginv n * ginv n)) = t * t + (gen n * ginv n) * ((hi a * inv n (hi a)) * t) + (hi a * inv n (hi a)) * (hi a * inv n (hi a)) * (ginv n * ginv n) := by
    simp only [t, R2.mulAdd, R2.addMul, R2.mulAssoc, R2.mulComm, R2.mulLeft, R2.addAssoc, R2.addComm, R2.addLeft]
   rw [e3, hi1, hg] at e2
   simp only [R2.oneMul] at e2
   exact R2.add_eq_zero e2
  have e4 := congrArg (tr n) e
  rw [tr_add, tr_sq, tr_sq, tr_ginv] at e4
  cases h5 : tr n t <;> rw [h5] at e4 <;> simp at e4
theorem mul_inv : (n : Nat) → (a : Lv n) → a ≠ 0 → a * inv n a = 1
 | 0, a, h => by
  have : a = true := by
   have h2 : ∀ b : Bool, b ≠ false → b = true := by decide
   exact h2 a h
  rw [this]; rfl
 | n + 1, a, h => by
  have hn : nrm a ≠ 0 := fun e => h (nrm_ne n (mul_inv n) a e)
  have h1 := mul_inv n _ hn
  have e : inv (n + 1) a = conj a * mk 0 (inv n (nrm a)) := by
   apply ext
   ·rw [hi_mul]; simp only [inv, conj, hi_mk, lo_mk, R2.mulZero, R2.addZero]
   ·rw [lo_mul]; simp only [inv, conj, hi_mk, lo_mk, R2.mulZero, R2.addZero]
  rw [e, ← R2.mulAssoc, mul_conj, mk_mul, h1]
  simp only [R2.mulZero, R2.zeroMul, R2.addZero]
  rfl
theorem mul_eq_zero {n : Nat} {a b : Lv n} (h : a * b = 0) : a = 0 ∨ b = 0 := by
 by_cases ha : a = 0
 ·exact .inl ha
 ·refine .inr ?_
  have h1 := mul_inv n a ha
  have : b = (a * inv n a) * b := by rw [h1, R2.oneMul]
  rw [this, R2.mulComm a, R2.mulAssoc, h, R2.mulZero]
theorem inv_zero : (n : Nat) → inv n 0 = 0
 | 0 => rfl
 | n + 1 => by
  have : nrm (0 : Lv (n + 1)) = 0 := by
   show (0 : Lv n) * _ + 0 * 0 = 0
   rw [R2.zeroMul, R2.zeroMul, R2.addZero]
  show mk (0 * inv n (nrm 0)) ((0 + gen n * 0) * inv n (nrm 0)) = mk 0 0
  rw [this, inv_zero n]
  simp only [R2.mulZero]
end Lv
namespace Lv
def up {n : Nat} (a : Lv n) : Lv (n + 1) := mk 0 a
theorem up_add {n : Nat} (a b : Lv n) : up (a + b) = up a + up b := by
 show mk 0 (a + b) = mk (0 + 0) (a + b)
 rw [R2.addZero]
theorem up_mul {n : Nat} (a b : Lv n) : up (a * b) = up a * up b := by
 unfold up; rw [mk_mul]
 simp only [R2.mulZero, R2.zeroMul, R2.addZero, R2.zeroAdd]
theorem up_zero (n : Nat) : up (0 : Lv n) = 0 := rfl
theorem up_one (n : Nat) : up (1 : Lv n) = 1 := rfl
theorem up_inj {n : Nat} {a b : Lv n} (h : up a = up b) : a = b := congrArg lo h
theorem mk_mul_up {n : Nat} (h l g : Lv n) : mk h l * up g = mk (h * g) (l * g) := by
 unfold up; rw [mk_mul]
 simp only [R2.mulZero, R2.zeroMul, R2.addZero, R2.zeroAdd]
def sqn {n : Nat} : Nat → Lv n → Lv n
 | 0, a => a
 | j + 1, a => sqn j a * sqn j a
theorem sqn_add {n : Nat} (j : Nat) (a b : Lv n) : sqn j (a + b) = sqn j a + sqn j b := by
 induction j with
 | zero => rfl
 | succ j ih =>
  simp only [sqn, ih]
  simp only [R2.mulAdd, R2.addMul, R2.mulAssoc, R2.mulComm, R2.mulLeft, R2.addAssoc, R2.addComm, R2.addLeft, R2.addSelf, R2.addCancel, R2.addZero, R2.zeroAdd]
theorem sqn_mul {n : Nat} (j : Nat) (a b : Lv n) : sqn j (a * b) = sqn j a * sqn j b := by
 induction j with
 | zero => rfl
 | succ j ih =>
  simp only [sqn, ih]
  simp only [R2.mulAssoc, R2.mulComm, R2.mulLeft]
theorem sqn_one {n : Nat} (j : Nat) : sqn j (1 : Lv n) = 1 := by
 induction j with
 | zero => rfl
 | succ j ih => simp only [sqn, ih, R2.mulOne]
theorem sqn_up {n : Nat} (j : Nat) (a : Lv n) : sqn j (up a) = up (sqn j a) := by
 induction j with
 | zero => rfl
 | succ j ih => simp only [sqn, ih, up_mul]
theorem sqn_sqn {n : Nat} (j k : Nat) (a : Lv n) : sqn (j + k) a = sqn j (sqn k a) := by
 induction j with
 | zero => rw [Nat.zero_add]; rfl
 | succ j ih => rw [Nat.succ_add]; simp only [sqn, ih]
theorem sqn_all : (n : Nat) → (a : Lv n) → sqn (2 ^ n) a = a
 | 0, a => by
  have h : ∀ b : Bool, and b b = b := by decide
  exact h a
 | n + 1, a => by
  have ih := sqn_all n
  let X : Lv (n + 1) := mk 1 0
  have ha : ∀ h l : Lv n, mk h l = up h * X + up l := by
   intro h l
   show mk h l = mk 0 h * mk 1 0 + mk 0 l
   rw [mk_mul, mk_add]
   simp only [R2.mulZero, R2.zeroMul, R2.mulOne, R2.addZero, R2.zeroAdd]
  have hX : X * X = up (gen n) * X + 1 := by
   show mk 1 0 * mk 1 0 = mk 0 (gen n) * mk 1 0 + mk 0 1
   rw [mk_mul, mk_mul, mk_add]
   simp only [R2.mulZero, R2.zeroMul, R2.mulOne, R2.addZero, R2.zeroAdd]
  let Y := sqn (2 ^ n) X
  have hY : Y * Y = up (gen n) * Y + 1 := by
   show sqn (2 ^ n) X * sqn (2 ^ n) X = up (gen n) * sqn (2 ^ n) X + 1
   rw [← sqn_mul, hX, sqn_add, sqn_mul, sqn_up, ih, sqn_one]
  have hr : (Y + X) * (Y + X + up (gen n)) = 0 := by
   have e : (Y + X) * (Y + X + up (gen n)) = (Y * Y + up (gen n) * Y + 1) + (X * X + up (gen n) * X + 1) := by
    simp only [R2.mulAdd, R2.addMul, R2.mulAssoc, R2.mulComm, R2.mulLeft, R2.addAssoc, R2.addComm, R2.addLeft, R2.addSelf, R2.addCancel, R2.addZero, R2.zeroAdd]
   rw [e, hY, hX]
   simp only [R2.addAssoc, R2.addComm, R2.addLeft, R2.addSelf, R2.addCancel, R2.addZero, R2.zeroAdd]
  have hYY : sqn (2 ^ n) Y = X := by
   rcases mul_eq_zero hr with h | h
   ·have hYX := R2.add_eq_zero h
    have : sqn (2 ^ n) Y = sqn (2 ^ n) X := by rw [hYX]
    rw [this]; exact hYX
   ·have hYX : Y = X + up (gen n) := R2.add_eq_zero (by rw [← R2.addAssoc]; exact h)
    have : sqn (2 ^ n) Y = sqn (2 ^ n) (X + up (gen n)) := congrArg _ hYX
    rw [this, sqn_add, sqn_up, ih]
    show Y + up (gen n) = X
    rw [hYX, R2.addAssoc, R2.addSelf, R2.addZero]
  have h2 : ∀ b : Lv (n + 1), sqn (2 ^ n) (sqn (2 ^ n) b) = b := by
   intro b
   have hb := ha (hi b) (lo b)
   rw [mk_hi_lo] at hb
   have : sqn (2 ^ n) b = up (hi b) * Y + up (lo b) := by
    have := congrArg (sqn (2 ^ n)) hb
    rw [sqn_add, sqn_mul, sqn_up, sqn_up, ih, ih] at this
    exact this
   rw [this, sqn_add, sqn_mul, sqn_up, sqn_up, ih, ih, hYY]
   exact hb.symm
  have e : 2 ^ (n + 1) = 2 ^ n + 2 ^ n := by rw [Nat.pow_succ]; omega
  rw [e, sqn_sqn]
  exact h2 a
def sqs {n : Nat} (a : Lv n) : Nat → Lv n
 | 0 => 1
 | m + 1 => sqs a m * sqn (m + 1) a
theorem sqs_eq {n : Nat} (a : Lv n) (m : Nat) : (a * sqs a m) * a = sqn (m + 1) a := by
 induction m with
 | zero => simp only [sqs, sqn, R2.mulOne]
 | succ m ih =>
  have : a * sqs a (m + 1) * a = (a * sqs a m * a) * sqn (m + 1) a := by
   simp only [sqs, R2.mulAssoc, R2.mulComm, R2.mulLeft]
  rw [this, ih]; rfl
theorem inv_unique {n : Nat} {a b : Lv n} (h : a * b = 1) : b = inv n a := by
 have ha : a ≠ 0 := by
  intro e; rw [e, R2.zeroMul] at h; exact one_ne_zero n h.symm
 have h1 := mul_inv n a ha
 calc b = (a * inv n a) * b := by rw [h1, R2.oneMul]
  _ = inv n a * (a * b) := by rw [R2.mulComm a, R2.mulAssoc]
  _ = inv n a := by rw [h, R2.mulOne]
theorem sqs_inv {n : Nat} (a : Lv n) (hn : 0 < n) : sqs a (2 ^ n - 1) = inv n a := by
 have hp : 2 ≤ 2 ^ n := by
  have := Nat.pow_le_pow_right (show 0 < 2 by decide) hn
  simpa using this
 by_cases ha : a = 0
 ·subst ha
  rw [inv_zero]
  obtain ⟨m, hm⟩ : ∃ m, 2 ^ n - 1 = m + 1 := ⟨2 ^ n - 2, by omega⟩
  rw [hm]
  have : ∀ j, sqn j (0 : Lv n) = 0 := by
   intro j
   induction j with
   | zero => rfl
   | succ j ih => simp only [sqn, ih, R2.mulZero]
  show sqs 0 m * sqn (m + 1) 0 = 0
  rw [this, R2.mulZero]
 ·apply inv_unique
  have h := sqs_eq a (2 ^ n - 1)
  rw [show 2 ^ n - 1 + 1 = 2 ^ n by omega, sqn_all] at h
  have h1 := mul_inv n a ha
  calc a * sqs a (2 ^ n - 1) = (a * sqs a (2 ^ n - 1) * a) * inv n a := by rw [R2.mulAssoc, h1, R2.mulOne]
   _ = 1 := by rw [h, h1]
theorem inv_up {n : Nat} (a : Lv n) : inv (n + 1) (up a) = up (inv n a) := by
 by_cases ha : a = 0
 ·subst ha; rw [up_zero, inv_zero, inv_zero, up_zero]
 ·exact (inv_unique (by rw [← up_mul, mul_inv n a ha, up_one])).symm
end Lv
end Go.Proofs.Ytoaepfgfbfgcdaa.Steeple
namespace Go.Proofs.Ytoaepfgfbfgcdaa.Q
open Go.RowKit Go.Proofs.YtoaepfgfbfgcdaaW.PrintWords Go.Proofs.YtoaepfgfbfgcdaaW.PrintLast Go.Proofs.YtoaepfgfbfgcdaaW.PrintMore
open Go.Proofs.Ytoaepfgfbfgcdaa.Steeple
theorem u64_wrap {n : Nat} (h : n < 2 ^ 64) : IntKind.u64.wrap (n : Int) = (n : Int) := by
 have : IntKind.u64.wrap (n : Int) = (n : Int) % 18446744073709551616 := by simp [IntKind.wrap, IntKind.bits, IntKind.signed]
 rw [this]; omega
theorem u64_wraps : ∀ n : Int, 0 ≤ n → n < 2 ^ 64 → IntKind.u64.wrap n = n := by
 intro n h0 h1
 have : IntKind.u64.wrap n = n % 18446744073709551616 := by simp [IntKind.wrap, IntKind.bits, IntKind.signed]
 rw [this]; omega
theorem xor_nat {a b : Nat} (ha : a < 2 ^ 64) (hb : b < 2 ^ 64) : Go.bits .xor .u64 (a : Int) (b : Int) = ((a ^^^ b : Nat) : Int) := by
 have hk : (IntKind.u64).bits = 64 := rfl
 have h1 : a % 2 ^ 64 = a := Nat.mod_eq_of_lt ha
 have h2 : b % 2 ^ 64 = b := Nat.mod_eq_of_lt hb
 simp only [Go.bits, BitVec.ofInt_natCast, BitVec.toNat_xor, BitVec.toNat_ofNat, hk, h1, h2]
 exact u64_wrap (Nat.xor_lt_two_pow ha hb)
theorem and_nat {a b : Nat} (ha : a < 2 ^ 64) (hb : b < 2 ^ 64) : Go.bits .and .u64 (a : Int) (b : Int) = ((a &&& b : Nat) : Int) := (bits_nat .u64 64 (Nat.le_refl _) u64_wraps a b ha hb).1
theorem or_nat {a b : Nat} (ha : a < 2 ^ 64) (hb : b < 2 ^ 64) : Go.bits .or .u64 (a : Int) (b : Int) = ((a ||| b : Nat) : Int) := (bits_nat .u64 64 (Nat.le_refl _) u64_wraps a b ha hb).2
def sz (n : Nat) : Nat := 2 ^ 2 ^ n
theorem sz_pos (n : Nat) : 0 < sz n := Nat.two_pow_pos _
theorem sz_succ (n : Nat) : sz (n + 1) = sz n * sz n := by unfold sz; rw [Nat.pow_succ 2 n, Nat.mul_two, Nat.pow_add]
theorem sz_two (n : Nat) : 2 ≤ sz n := by
 unfold sz
 have : 2 ^ 1 ≤ 2 ^ 2 ^ n := Nat.pow_le_pow_right (by decide) (Nat.two_pow_pos n)
 simpa using this
theorem sz_le {n : Nat} (h : n ≤ 6) : sz n ≤ 2 ^ 64 := Nat.pow_le_pow_right (by decide) (show 2 ^ n ≤ 2 ^ 6 from Nat.pow_le_pow_right (by decide) h)
theorem hiW_nat (n a : Nat) (h : n < 6) : hiW n (a : Int) = ((a / sz n : Nat) : Int) := by
 unfold hiW shr sz
 have hk : (IntKind.u64).bits = 64 := rfl
 have h2 : 2 ^ n ≤ 2 ^ 6 := Nat.pow_le_pow_right (by decide) (by omega)
 rw [hk, Int.toNat_natCast, Nat.min_eq_left h2]
 simp
theorem loW_nat (n a : Nat) (h : n < 6) (ha : a < 2 ^ 64) : loW n (a : Int) = ((a % sz n : Nat) : Int) := by
 unfold loW sz
 have h1 : 2 ^ 2 ^ n ≤ 2 ^ 64 := sz_le (by omega)
 have h2 : 0 < 2 ^ 2 ^ n := sz_pos n
 rw [and_nat ha (by omega), Nat.and_two_pow_sub_one_eq_mod]
theorem joinW_nat (n a b : Nat) (h : n < 6) (ha : a < sz n) (hb : b < sz n) : joinW n (a : Int) (b : Int) = ((a * sz n + b : Nat) : Int) := by
 unfold joinW shl
 have hk : (IntKind.u64).bits = 64 := rfl
 have h2 : 2 ^ n ≤ 2 ^ 6 := Nat.pow_le_pow_right (by decide) (by omega)
 have h3 : sz n * sz n ≤ 2 ^ 64 := by rw [← sz_succ]; exact sz_le (by omega)
 have h4 : a * sz n < sz n * sz n := Nat.mul_lt_mul_of_pos_right ha (sz_pos n)
 rw [hk, Int.toNat_natCast, Nat.min_eq_left h2]
 rw [show (a : Int) * 2 ^ 2 ^ n = ((a * sz n : Nat) : Int) by unfold sz; simp, u64_wrap (by omega)]
 have h5 : sz n ≤ 2 ^ 64 := sz_le (by omega)
 rw [or_nat (by omega) (by omega)]
 congr 1
 unfold sz at hb ⊢
 rw [Nat.mul_comm a, ← Nat.two_pow_add_eq_or_of_lt hb]
def emb : (n : Nat) → Nat → Lv n
 | 0, x => decide (x % 2 = 1)
 | n + 1, x => Lv.mk (emb n (x / sz n)) (emb n (x % sz n))
theorem emb_zero : ∀ n, emb n 0 = 0
 | 0 => rfl
 | n + 1 => by rw [emb, Nat.zero_div, Nat.zero_mod, emb_zero n]; rfl
theorem emb_one : ∀ n, emb n 1 = 1
 | 0 => rfl
 | n + 1 => by
  have := sz_two n
  rw [emb, Nat.div_eq_of_lt (by omega), Nat.mod_eq_of_lt (by omega), emb_zero n, emb_one n]; rfl
theorem emb_xor : ∀ (n a b : Nat), emb n (a ^^^ b) = emb n a + emb n b
 | 0, a, b => by
  have : (a ^^^ b) % 2 = (a % 2 ^^^ b % 2) := Nat.xor_mod_two_pow (n := 1)
  show decide ((a ^^^ b) % 2 = 1) = xor (decide (a % 2 = 1)) (decide (b % 2 = 1))
  rw [this]
  rcases Nat.mod_two_eq_zero_or_one a with h1 | h1 <;> rcases Nat.mod_two_eq_zero_or_one b with h2 | h2 <;> rw [h1, h2] <;> decide
 | n + 1, a, b => by
  have h1 : (a ^^^ b) / sz n = a / sz n ^^^ b / sz n := by
   unfold sz
   rw [← Nat.shiftRight_eq_div_pow, ← Nat.shiftRight_eq_div_pow, ← Nat.shiftRight_eq_div_pow, Nat.shiftRight_xor_distrib]
  have h2 : (a ^^^ b) % sz n = a % sz n ^^^ b % sz n := by unfold sz; exact Nat.xor_mod_two_pow
  rw [emb, h1, h2, emb_xor n, emb_xor n]
  rfl
theorem emb_inj : ∀ (n a b : Nat), a < sz n → b < sz n → emb n a = emb n b → a = b
 | 0, a, b, ha, hb, h => by
  have e : sz 0 = 2 := rfl
  rw [e] at ha hb
  have h' : decide (a % 2 = 1) = decide (b % 2 = 1) := h
  rw [decide_eq_decide] at h'
  omega
 | n + 1, a, b, ha, hb, h => by
  rw [sz_succ] at ha hb
  have h1 := emb_inj n (a / sz n) (b / sz n) (Nat.div_lt_of_lt_mul ha) (Nat.div_lt_of_lt_mul hb) (congrArg Lv.hi h)
  have h2 := emb_inj n (a % sz n) (b % sz n) (Nat.mod_lt _ (sz_pos n)) (Nat.mod_lt _ (sz_pos n)) (congrArg Lv.lo h)
  rw [← Nat.div_add_mod a (sz n), ← Nat.div_add_mod b (sz n), h1, h2]
theorem emb_join {n a b : Nat} (hb : b < sz n) : emb (n + 1) (a * sz n + b) = Lv.mk (emb n a) (emb n b) := by
 have hp := sz_pos n
 have e1 : (a * sz n + b) / sz n = a := by rw [Nat.mul_comm a, Nat.mul_add_div hp, Nat.div_eq_of_lt hb, Nat.add_zero]
 have e2 : (a * sz n + b) % sz n = b := by rw [Nat.mul_comm a, Nat.mul_add_mod, Nat.mod_eq_of_lt hb]
 rw [emb, e1, e2]
theorem join_lt {n a b : Nat} (ha : a < sz n) (hb : b < sz n) : a * sz n + b < sz (n + 1) := by
 rw [sz_succ]
 calc a * sz n + b < a * sz n + sz n := by omega
  _ = (a + 1) * sz n := by rw [Nat.add_mul, Nat.one_mul]
  _ ≤ sz n * sz n := Nat.mul_le_mul_right _ ha
theorem xor_lt {n a b : Nat} (ha : a < sz n) (hb : b < sz n) : a ^^^ b < sz n := Nat.xor_lt_two_pow ha hb
theorem mulXS_emb : ∀ (n : Nat), n ≤ 6 → ∀ a : Nat, a < sz n → ∃ c : Nat, c < sz n ∧ mulXS n (a : Int) = (c : Int) ∧ emb n c = Lv.gen n * emb n a
 | 0, _, a, ha => ⟨a, ha, rfl, by rw [Lv.gen_zero, R2.oneMul]⟩
 | n + 1, h, a, ha => by
  have h64 := sz_le (n := n) (by omega)
  have h65 := sz_le h
  rw [sz_succ] at ha
  have hh : a / sz n < sz n := Nat.div_lt_of_lt_mul ha
  have hl : a % sz n < sz n := Nat.mod_lt _ (sz_pos n)
  obtain ⟨c, hc, e1, e2⟩ := mulXS_emb n (by omega) (a / sz n) hh
  rw [mulXS, hiW_nat n a (by omega), loW_nat n a (by omega) (by rw [sz_succ] at h65; omega), e1, xor_nat (by omega) (by omega), joinW_nat n _ _ (by omega) (xor_lt hl hc) hh]
  refine ⟨_, join_lt (xor_lt hl hc) hh, rfl, ?_⟩
  rw [emb_join hh, emb_xor, e2, emb, Lv.gen_mk, Lv.mk_mul]
  simp only [R2.zeroMul, R2.oneMul, R2.addZero, R2.zeroAdd]
theorem mulS_emb : ∀ (n : Nat), n ≤ 6 → ∀ a b : Nat, a < sz n → b < sz n → ∃ c : Nat, c < sz n ∧ mulS n (a : Int) (b : Int) = (c : Int) ∧ emb n c = emb n a * emb n b
 | 0, _, a, b, ha, hb => by
  have e : sz 0 = 2 := rfl
  rw [e] at ha hb
  have h1 : a = 0 ∨ a = 1 := by omega
  have h2 : b = 0 ∨ b = 1 := by omega
  rcases h1 with rfl | rfl <;> rcases h2 with rfl | rfl
  ·exact ⟨0, by decide, by decide +kernel, rfl⟩
  ·exact ⟨0, by decide, by decide +kernel, rfl⟩
  ·exact ⟨0, by decide, by decide +kernel, rfl⟩
  ·exact ⟨1, by decide, by decide +kernel, rfl⟩
 | n + 1, h, a, b, ha, hb => by
  by_cases h0 : (a : Int) = 0 ∨ (b : Int) = 0
  ·refine ⟨0, sz_pos _, ?_, ?_⟩
   ·rcases h0 with h0 | h0 <;> rw [h0]
    ·exact mulS_zero_l _ _
    ·exact mulS_zero_r _ _
   ·rcases h0 with h0 | h0
    ·rw [show a = 0 by omega, emb_zero, R2.zeroMul]
    ·rw [show b = 0 by omega, emb_zero, R2.mulZero]
  ·have h64 := sz_le (n := n) (by omega)
   have h65 := sz_le h
   have ha' := ha
   have hb' := hb
   rw [sz_succ] at ha hb
   have ha1 : a / sz n < sz n := Nat.div_lt_of_lt_mul ha
   have hb1 : b / sz n < sz n := Nat.div_lt_of_lt_mul hb
   have ha0 : a % sz n < sz n := Nat.mod_lt _ (sz_pos n)
   have hb0 : b % sz n < sz n := Nat.mod_lt _ (sz_pos n)
   obtain ⟨u, hu, u1, u2⟩ := mulS_emb n (by omega) _ _ ha1 hb1
   obtain ⟨v, hv, v1, v2⟩ := mulS_emb n (by omega) _ _ ha0 hb0
   obtain ⟨t, ht, t1, t2⟩ := mulS_emb n (by omega) _ _ (xor_lt ha1 ha0) (xor_lt hb1 hb0)
   obtain ⟨g, hg, g1, g2⟩ := mulXS_emb n (by omega) u hu
   rw [mulS, if_neg h0, hiW_nat n a (by omega), loW_nat n a (by omega) (by omega), hiW_nat n b (by omega), loW_nat n b (by omega) (by omega), xor_nat (a := a / sz n) (by omega) (by omega), xor_nat (a := b / sz n) (by omega) (by omega), u1, v1, t1, g1]
   rw [xor_nat (a := t) (b := u) (by omega) (by omega)]
   have hx1 := xor_lt ht hu
   rw [xor_nat (b := v) (by omega) (by omega)]
   have hx2 := xor_lt hx1 hv
   rw [xor_nat (b := g) (by omega) (by omega)]
   have hx3 := xor_lt hx2 hg
   rw [xor_nat (a := v) (b := u) (by omega) (by omega)]
   have hx4 := xor_lt hv hu
   rw [joinW_nat n _ _ (by omega) hx3 hx4]
   refine ⟨_, join_lt hx3 hx4, rfl, ?_⟩
   rw [emb_join hx4, emb_xor, emb_xor, emb_xor, emb_xor, t2, u2, v2, g2, u2, emb_xor, emb_xor]
   rw [emb, emb, Lv.mk_mul]
   congr 1
   simp only [R2.mulAdd, R2.addMul, R2.addAssoc, R2.addComm, R2.addLeft, R2.addCancel, R2.addSelf, R2.addZero]
end Go.Proofs.Ytoaepfgfbfgcdaa.Q
namespace Go.Proofs.Ytoaepfgfbfgcdaa.Q
open Go.RowKit Go.Proofs.YtoaepfgfbfgcdaaW.PrintWords Go.Proofs.YtoaepfgfbfgcdaaW.PrintLast Go.Proofs.YtoaepfgfbfgcdaaW.PrintMore
def val0 (o : S149) : Prop := o.f3.f0 = 0 ∧ o.f3.f1 = 0
instance (o : S149) : Decidable (val0 o) := by unfold val0; infer_instance
def aheadP (o : S149) (n : Int) : Prop := 0 ≤ o.f1 ∧ o.f1 < n ∧ 0 ≤ o.f2 ∧ o.f2 < n
instance (o : S149) (n : Int) : Decidable (aheadP o n) := by unfold aheadP; infer_instance
def stepS (level vars : Int) (o : S149) (ds : List Int) : Int × Int :=
 if o.f0 = 1 ∧ o.f1 = 0 ∧ o.f2 = 0 then (if ofB level o.f3.f0 o.f3.f1 = true then (0, 0) else (0, 5))
 else if o.f0 = 2 ∧ o.f2 = 0 ∧ val0 o then (if o.f1 < 0 then (0, 4) else if o.f1 ≥ vars then (0, 4) else (1, 0))
 else if o.f0 = 3 ∧ val0 o ∧ aheadP o ds.length then (mx (rd ds o.f1) (rd ds o.f2), 0)
 else if o.f0 = 4 ∧ val0 o ∧ aheadP o ds.length then (wrap64 (rd ds o.f1 + rd ds o.f2), 0) else (0, 3)
theorem ahead_eq (o : S149) (n : Int) : expr_ahead.f o.f0 o.f1 o.f2 o.f3.f0 o.f3.f1 n = some (decide (aheadP o n)) := by
 unfold expr_ahead.f aheadP
 by_cases h1 : o.f1 ≥ 0 <;> by_cases h2 : o.f1 < n <;> by_cases h3 : o.f2 ≥ 0 <;> simp [h1, h2, h3] <;> omega
theorem val0_eq (o : S149) : (o.f3.f0 == 0 && (o.f3.f1 == 0)) = decide (val0 o) := by
 unfold val0
 by_cases h1 : o.f3.f0 = 0 <;> by_cases h2 : o.f3.f1 = 0 <;> simp [h1, h2]
theorem Ev.j {α : Type} {f : Nat → Bool → Option α} {r : α} (b : Bool) (h : Ev (fun k => f k b) r) (b' : Bool) (e : b' = b) : Ev (fun k => f k b') r := e ▸ h
theorem step_j2 (ds : List Int) (o : S149) (b : Bool) (hb : b = true → aheadP o ds.length) : Ev (fun k => expr_step.j2 k ds b o.f0 o.f1 o.f2 o.f3.f0 o.f3.f1 0 0) (if b = true then (mx (rd ds o.f1) (rd ds o.f2), 0) else if o.f0 = 4 ∧ val0 o ∧ aheadP o ds.length then (wrap64 (rd ds o.f1 + rd ds o.f2), 0) else (0, 3)) := by
 refine Ev.succ ?_
 simp only [expr_step.j2, ahead_eq, val0_eq, Option.bind_some]
 cases b with
 | true =>
  obtain ⟨h1, h2, h3, h4⟩ := hb rfl
  simp only [h1, h2, h3, h4, if_true]
  exact Ev.pure _
 | false =>
  by_cases h4 : o.f0 = 4
  ·by_cases hv : val0 o
   ·by_cases ha : aheadP o ds.length
    ·obtain ⟨h1, h2, h3, h5⟩ := id ha
     simp [h4, hv, ha, h1, h2, h3, h5]
     exact Ev.pure _
    ·simp [h4, hv, ha]
     exact Ev.pure _
   ·simp [h4, hv]
    exact Ev.pure _
  ·simp [h4]
   exact Ev.pure _
theorem step_j1 (vars : Int) (ds : List Int) (o : S149) (b : Bool) : Ev (fun k => expr_step.j1 k vars ds b o.f0 o.f1 o.f2 o.f3.f0 o.f3.f1 0 0) (if b = true then (if o.f1 < 0 then (0, 4) else if o.f1 ≥ vars then (0, 4) else (1, 0)) else if o.f0 = 3 ∧ val0 o ∧ aheadP o ds.length then (mx (rd ds o.f1) (rd ds o.f2), 0) else if o.f0 = 4 ∧ val0 o ∧ aheadP o ds.length then (wrap64 (rd ds o.f1 + rd ds o.f2), 0) else (0, 3)) := by
 refine Ev.succ ?_
 simp only [expr_step.j1, ahead_eq, val0_eq, Option.bind_some]
 cases b with
 | true =>
  simp only [if_true]
  exact Ev.ite (fun _ => Ev.pure _) (fun _ => Ev.ite (fun _ => Ev.pure _) (fun _ => Ev.pure _))
 | false =>
  have J := fun b hb => step_j2 ds o b hb
  by_cases h3 : o.f0 = 3
  ·by_cases hv : val0 o
   ·by_cases ha : aheadP o ds.length
    ·have := J true (fun _ => ha)
     simpa [h3, hv, ha] using this
    ·have := J false (fun h => by cases h)
     simpa [h3, hv, ha] using this
   ·have := J false (fun h => by cases h)
    simpa [h3, hv] using this
  ·have := J false (fun h => by cases h)
   simpa [h3] using this
theorem step_j0 (level vars : Int) (ds : List Int) (o : S149) (b : Bool) : Ev (fun k => expr_step.j0 k level vars ds b o.f0 o.f1 o.f2 o.f3.f0 o.f3.f1 0 0) (if b = true then (if ofB level o.f3.f0 o.f3.f1 = true then (0, 0) else (0, 5)) else if o.f0 = 2 ∧ o.f2 = 0 ∧ val0 o then (if o.f1 < 0 then (0, 4) else if o.f1 ≥ vars then (0, 4) else (1, 0)) else if o.f0 = 3 ∧ val0 o ∧ aheadP o ds.length then (mx (rd ds o.f1) (rd ds o.f2), 0) else if o.f0 = 4 ∧ val0 o ∧ aheadP o ds.length then (wrap64 (rd ds o.f1 + rd ds o.f2), 0) else (0, 3)) := by
 refine Ev.succ ?_
 simp only [expr_step.j0, octet_Of.f, val0_eq, Option.bind_some]
 cases b with
 | true =>
  simp only [if_true]
  exact Ev.ite (fun _ => Ev.pure _) (fun _ => Ev.pure _)
 | false =>
  have J := fun b => step_j1 vars ds o b
  by_cases h2 : o.f0 = 2
  ·by_cases h0 : o.f2 = 0
   ·by_cases hv : val0 o
    ·simpa [h2, h0, hv] using J true
    ·simpa [h2, h0, hv] using J false
   ·simpa [h2, h0] using J false
  ·simpa [h2] using J false
theorem step_ev (level vars : Int) (o : S149) (ds : List Int) : Ev (fun k => expr_step.f k level vars o.f0 o.f1 o.f2 o.f3.f0 o.f3.f1 ds) (stepS level vars o ds) := by
 simp only [expr_step.f]
 have J := fun b => step_j0 level vars ds o b
 unfold stepS
 by_cases h1 : o.f0 = 1
 ·by_cases h2 : o.f1 = 0
  ·by_cases h3 : o.f2 = 0
   ·simpa [h1, h2, h3] using J true
   ·have e3 : (o.f2 == 0) = false := beq_eq_false_iff_ne.mpr h3
    simpa [h1, h2, h3, e3] using J false
  ·simpa [h1, h2] using J false
 ·simpa [h1] using J false
def degsL (level vars : Int) : List S149 → List Int → List Int × Int
 | [], ds => (ds, 0)
 | o :: r, ds => if (stepS level vars o ds).2 = 0 ∧ 8 < (stepS level vars o ds).1 then ([], 7) else if (stepS level vars o ds).2 = 0 then degsL level vars r (ds ++ [(stepS level vars o ds).1]) else ([], (stepS level vars o ds).2)
theorem degs_l0 (level vars : Int) : ∀ (r pre : List S149) (ds : List Int), (pre ++ r).length ≤ 200 → ds.length = pre.length → Ev (fun k => expr_degrees.l0 k level vars ds (pre ++ r) ((pre ++ r).length : Int) (pre.length : Int)) (degsL level vars r ds)
 | [], pre, ds, hl, hd => by
  refine Ev.succ ?_
  simp only [expr_degrees.l0]
  exact Ev.neg (ge_part pre) (Ev.pure _)
 | o :: r, pre, ds, hl, hd => by
  have IH := degs_l0 level vars r (pre ++ [o]) (ds ++ [(stepS level vars o ds).1]) (by simpa using hl) (by simp [hd])
  refine Ev.succ ?_
  simp only [expr_degrees.l0]
  refine Ev.pos (lt_part pre o r) (Ev.pos (by omega) (Ev.pos (lt_part pre o r) ?_))
  have e : rd_T149 (pre ++ o :: r) (pre.length : Int) = o := getD_part pre o z149 r
  rw [e]
  refine Ev.bind (step_ev level vars o ds) ?_
  obtain ⟨d, hd1⟩ : ∃ d, (stepS level vars o ds).1 = d := ⟨_, rfl⟩
  obtain ⟨c, hc1⟩ : ∃ c, (stepS level vars o ds).2 = c := ⟨_, rfl⟩
  rw [hd1] at IH
  rw [degsL, hd1, hc1]
  have hlen : pre.length < 200 := by simp at hl; omega
  have J : ∀ b : Bool, (b = true ↔ c = 0 ∧ 8 < d) → Ev (fun k => expr_degrees.j2 k level vars ds d c (pre ++ o :: r) ((pre ++ o :: r).length : Int) (pre.length : Int) b) (if c = 0 ∧ 8 < d then ([], 7) else if c = 0 then degsL level vars r (ds ++ [d]) else ([], c)) := by
   intro b hb
   refine Ev.succ ?_
   simp only [expr_degrees.j2]
   by_cases h1 : b = true
   ·rw [if_pos (hb.1 h1)]
    exact Ev.pos h1 (Ev.pure _)
   ·rw [if_neg (fun h => h1 (hb.2 h))]
    refine Ev.neg h1 ?_
    by_cases h0 : c = 0
    ·rw [if_pos h0]
     refine Ev.pos h0 (Ev.pos (by omega) ?_)
     rw [w64_succ (by omega)]
     simpa using IH
    ·rw [if_neg h0]
     exact Ev.neg h0 (Ev.pure _)
  by_cases h0 : c = 0
  ·refine Ev.pos h0 (J _ ?_)
   simp [h0]
  ·refine Ev.neg h0 (J _ ?_)
   simp [h0]
def wideS (level : Int) : Int := if level < 0 ∨ 7 < level then 0 else if level ≤ 3 then 1 else shl .i64 1 (wrap64 (level - 3))
theorem wide_ev (level : Int) : Ev (fun k => octet_Wide.f k level) (wideS level) := by
 have J : ∀ b : Bool, (b = true ↔ level < 0 ∨ 7 < level) → Ev (fun k => octet_Wide.j0 k level b) (wideS level) := by
  intro b hb
  refine Ev.succ ?_
  simp only [octet_Wide.j0]
  unfold wideS
  by_cases h : b = true
  ·rw [if_pos (hb.1 h)]; exact Ev.pos h (Ev.pure _)
  ·have h' : ¬ (level < 0 ∨ 7 < level) := fun x => h (hb.2 x)
   rw [if_neg h']
   refine Ev.neg h ?_
   by_cases h3 : level ≤ 3
   ·exact Ev.congr (Ev.pos h3 (Ev.pure _)) (by rw [if_pos h3])
   ·refine Ev.congr (Ev.neg h3 (Ev.pos ?_ (Ev.pure _))) (by rw [if_neg h3])
    rw [w64_id (by omega) (by omega)]
    omega
 simp only [octet_Wide.f]
 by_cases h : level < 0
 ·exact Ev.pos h (J _ (by simp [h]))
 ·exact Ev.neg h (J _ (by simp [h]))
theorem wide_zero (level : Int) : wideS level = 0 ↔ level < 0 ∨ 7 < level := by
 unfold wideS
 by_cases h : level < 0 ∨ 7 < level
 ·simp [h]
 ·rw [if_neg h]
  have hc : level = 0 ∨ level = 1 ∨ level = 2 ∨ level = 3 ∨ level = 4 ∨ level = 5 ∨ level = 6 ∨ level = 7 := by omega
  rcases hc with rfl | rfl | rfl | rfl | rfl | rfl | rfl | rfl <;> decide +kernel
def degS (level vars : Int) (l : List S149) : List Int × Int :=
 if wideS level = 0 ∨ vars < 0 then ([], 1) else if l.length = 0 then ([], 3) else if 200 < l.length then ([], 2) else degsL level vars l []
theorem degs_ev (level vars : Int) (l : List S149) : Ev (fun k => expr_degrees.f k level vars l) (degS level vars l) := by
 have J : ∀ b : Bool, (b = true ↔ wideS level = 0 ∨ vars < 0) → Ev (fun k => expr_degrees.j0 k level vars l b) (degS level vars l) := by
  intro b hb
  refine Ev.succ ?_
  simp only [expr_degrees.j0]
  unfold degS
  by_cases h : b = true
  ·rw [if_pos (hb.1 h)]; exact Ev.pos h (Ev.pure _)
  ·rw [if_neg (fun x => h (hb.2 x))]
   refine Ev.neg h ?_
   by_cases h0 : l.length = 0
   ·rw [if_pos h0]; exact Ev.pos (by omega) (Ev.pure _)
   ·rw [if_neg h0]
    refine Ev.neg (by omega) ?_
    by_cases h2 : 200 < l.length
    ·rw [if_pos h2]; exact Ev.pos (by omega) (Ev.pure _)
    ·rw [if_neg h2]
     refine Ev.neg (by omega) ?_
     have := degs_l0 level vars l [] [] (by simpa using h2) rfl
     simpa using this
 simp only [expr_degrees.f]
 refine Ev.bind (wide_ev level) ?_
 by_cases h : wideS level = 0
 ·exact Ev.pos h (J _ (by simp [h]))
 ·exact Ev.neg h (J _ (by simp [h]))
def chkS (level vars : Int) (l : List S149) : Int := (degS level vars l).2
theorem chk_ev (level vars : Int) (l : List S149) : Ev (fun k => expr_Check.f k level vars l) (chkS level vars l) := by
 simp only [expr_Check.f]
 exact Ev.bind (degs_ev level vars l) (Ev.pure _)
def xorE (a b : S28) : S28 := ⟨Go.bits .xor .u64 a.f0 b.f0, Go.bits .xor .u64 a.f1 b.f1⟩
def StepOK (level vars : Int) (n : Nat) (o : S149) : Prop :=
 (o.f0 = 1 ∧ o.f1 = 0 ∧ o.f2 = 0 ∧ ofB level o.f3.f0 o.f3.f1 = true) ∨ (o.f0 = 2 ∧ o.f2 = 0 ∧ val0 o ∧ 0 ≤ o.f1 ∧ o.f1 < vars) ∨ ((o.f0 = 3 ∨ o.f0 = 4) ∧ val0 o ∧ aheadP o n)
def StepsOK (level vars : Int) : Nat → List S149 → Prop
 | _, [] => True
 | n, o :: r => StepOK level vars n o ∧ StepsOK level vars (n + 1) r
theorem step_ok {level vars : Int} {o : S149} {ds : List Int} (h : (stepS level vars o ds).2 = 0) : StepOK level vars ds.length o := by
 unfold stepS at h
 by_cases h1 : o.f0 = 1 ∧ o.f1 = 0 ∧ o.f2 = 0
 ·rw [if_pos h1] at h
  by_cases h2 : ofB level o.f3.f0 o.f3.f1 = true
  ·exact .inl ⟨h1.1, h1.2.1, h1.2.2, h2⟩
  ·rw [if_neg h2] at h; simp at h
 rw [if_neg h1] at h
 by_cases h2 : o.f0 = 2 ∧ o.f2 = 0 ∧ val0 o
 ·rw [if_pos h2] at h
  by_cases h3 : o.f1 < 0
  ·rw [if_pos h3] at h; simp at h
  ·rw [if_neg h3] at h
   by_cases h4 : o.f1 ≥ vars
   ·rw [if_pos h4] at h; simp at h
   ·exact .inr (.inl ⟨h2.1, h2.2.1, h2.2.2, by omega, by omega⟩)
 rw [if_neg h2] at h
 by_cases h3 : o.f0 = 3 ∧ val0 o ∧ aheadP o ds.length
 ·exact .inr (.inr ⟨.inl h3.1, h3.2⟩)
 rw [if_neg h3] at h
 by_cases h4 : o.f0 = 4 ∧ val0 o ∧ aheadP o ds.length
 ·exact .inr (.inr ⟨.inr h4.1, h4.2⟩)
 rw [if_neg h4] at h
 simp at h
theorem degsL_ok {level vars : Int} : ∀ (l : List S149) (ds : List Int), (degsL level vars l ds).2 = 0 → StepsOK level vars ds.length l ∧ (degsL level vars l ds).1.length = ds.length + l.length
 | [], ds, h => ⟨trivial, by simp [degsL]⟩
 | o :: r, ds, h => by
  rw [degsL] at h ⊢
  by_cases h1 : (stepS level vars o ds).2 = 0 ∧ 8 < (stepS level vars o ds).1
  ·rw [if_pos h1] at h; simp at h
  ·rw [if_neg h1] at h ⊢
   by_cases h0 : (stepS level vars o ds).2 = 0
   ·rw [if_pos h0] at h ⊢
    obtain ⟨a, b⟩ := degsL_ok r _ h
    refine ⟨⟨step_ok h0, by simpa using a⟩, ?_⟩
    rw [b]; simp; omega
   ·rw [if_neg h0] at h
    exact absurd h h0
theorem chk_ok {level vars : Int} {l : List S149} (h : chkS level vars l = 0) : 0 ≤ level ∧ level ≤ 7 ∧ 0 ≤ vars ∧ 0 < l.length ∧ l.length ≤ 200 ∧ StepsOK level vars 0 l := by
 unfold chkS degS at h
 by_cases h1 : wideS level = 0 ∨ vars < 0
 ·rw [if_pos h1] at h; simp at h
 rw [if_neg h1] at h
 have hw : ¬ (level < 0 ∨ 7 < level) := fun x => h1 (.inl ((wide_zero level).2 x))
 by_cases h2 : l.length = 0
 ·rw [if_pos h2] at h; simp at h
 rw [if_neg h2] at h
 by_cases h3 : 200 < l.length
 ·rw [if_pos h3] at h; simp at h
 rw [if_neg h3] at h
 have := (degsL_ok l [] h).1
 exact ⟨by omega, by omega, by omega, by omega, by omega, this⟩
def stepV (level : Int) (v : List S28) (o : S149) (acc : List S28) : S28 :=
 if o.f0 = 1 then o.f3 else if o.f0 = 2 then rd_T28 v o.f1 else if o.f0 = 3 then xorE (rd_T28 acc o.f1) (rd_T28 acc o.f2) else if o.f0 = 4 then MulS level (rd_T28 acc o.f1) (rd_T28 acc o.f2) else ⟨0, 0⟩
def evs (level : Int) (v : List S28) : List S149 → List S28 → List S28
 | [], acc => acc
 | o :: r, acc => evs level v r (acc ++ [stepV level v o acc])
theorem evs_len (level : Int) (v : List S28) : ∀ (l : List S149) (acc : List S28), (evs level v l acc).length = acc.length + l.length
 | [], acc => rfl
 | o :: r, acc => by rw [evs, evs_len level v r]; simp; omega
def lastE (l : List S28) : S28 := l.getD (l.length - 1) z28
def evalS (level : Int) (l : List S149) (v : List S28) : S28 := lastE (evs level v l [])
theorem eval_l1 (level : Int) (v : List S28) : ∀ (r pre : List S149) (acc : List S28), (pre ++ r).length ≤ 200 → 0 < (pre ++ r).length → acc.length = pre.length → StepsOK level v.length acc.length r →
  Ev (fun k => expr_Eval.l1 k level v acc (pre ++ r) ((pre ++ r).length : Int) (pre.length : Int)) ((lastE (evs level v r acc)).f0, (lastE (evs level v r acc)).f1, 0)
 | [], pre, acc, hl, hp, hd, hs => by
  refine Ev.succ ?_
  simp only [expr_Eval.l1]
  refine Ev.neg (ge_part pre) ?_
  have ha : 0 < acc.length := by rw [hd]; simpa using hp
  have hb : acc.length ≤ 200 := by rw [hd]; simpa using hl
  have e : wrap64 ((acc.length : Int) - 1) = ((acc.length - 1 : Nat) : Int) := by rw [w64_id (by omega) (by omega)]; omega
  rw [e]
  refine Ev.pos (by omega) (Ev.pos (by omega) ?_)
  exact Ev.pure _
 | o :: r, pre, acc, hl, hp, hd, hs => by
  obtain ⟨h1, h2⟩ := hs
  have hlen : pre.length < 200 := by simp at hl; omega
  have IH : Ev (fun k => expr_Eval.l1 k level v (acc ++ [stepV level v o acc]) (pre ++ o :: r) ((pre ++ o :: r).length : Int) (wrap64 ((pre.length : Int) + 1))) ((lastE (evs level v (o :: r) acc)).f0, (lastE (evs level v (o :: r) acc)).f1, 0) := by
   rw [w64_succ (by omega)]
   have := eval_l1 level v r (pre ++ [o]) (acc ++ [stepV level v o acc]) (by simpa using hl) (by simp; omega) (by simp [hd]) (by simpa using h2)
   rw [show (pre ++ [o]) ++ r = pre ++ o :: r by simp, show (pre ++ [o]).length = pre.length + 1 by simp] at this
   exact this
  refine Ev.succ ?_
  simp only [expr_Eval.l1]
  refine Ev.pos (lt_part pre o r) (Ev.pos (by omega) (Ev.pos (lt_part pre o r) ?_))
  have e : rd_T149 (pre ++ o :: r) (pre.length : Int) = o := getD_part pre o z149 r
  rw [e]
  have hlim : acc.length < 8796093022208 := by omega
  rcases h1 with ⟨k1, _, _, _⟩ | ⟨k1, _, _, a1, a2⟩ | ⟨k1 | k1, _, a1, a2, a3, a4⟩
  ·refine Ev.pos k1 (Ev.pos hlim ?_)
   rw [show stepV level v o acc = o.f3 by unfold stepV; rw [if_pos k1]] at IH
   exact IH
  ·refine Ev.neg (by omega) (Ev.pos k1 (Ev.pos a1 (Ev.pos a2 (Ev.pos hlim ?_))))
   rw [show stepV level v o acc = rd_T28 v o.f1 by unfold stepV; rw [if_neg (by omega), if_pos k1]] at IH
   exact IH
  ·refine Ev.neg (by omega) (Ev.neg (by omega) (Ev.pos k1 (Ev.pos a1 (Ev.pos a2 (Ev.pos a3 (Ev.pos a4 ?_))))))
   rw [show stepV level v o acc = xorE (rd_T28 acc o.f1) (rd_T28 acc o.f2) by unfold stepV; rw [if_neg (by omega), if_neg (by omega), if_pos k1]] at IH
   simp only [tower_Add.f, Option.bind_some]
   exact Ev.pos hlim IH
  ·refine Ev.neg (by omega) (Ev.neg (by omega) (Ev.neg (by omega) (Ev.pos k1 (Ev.pos a1 (Ev.pos a2 (Ev.pos a3 (Ev.pos a4 ?_)))))))
   rw [show stepV level v o acc = MulS level (rd_T28 acc o.f1) (rd_T28 acc o.f2) by unfold stepV; rw [if_neg (by omega), if_neg (by omega), if_neg (by omega), if_pos k1]] at IH
   exact Ev.bind (Mul_ev level _ _) (Ev.pos hlim IH)
def ofE (level : Int) (x : S28) : Bool := ofB level x.f0 x.f1
theorem eval_l0 (level : Int) (l : List S149) (v : List S28) (r : Int × Int × Int) (hr : Ev (fun k => expr_Eval.l1 k level v [] l (l.length : Int) 0) r) : ∀ (s pre : List S28), v = pre ++ s → v.length ≤ 9223372036854775806 →
  Ev (fun k => expr_Eval.l0 k level l v v (v.length : Int) (pre.length : Int)) (if s.all (ofE level) = true then r else (0, 0, 5))
 | [], pre, hv, hl => by
  refine Ev.succ ?_
  simp only [expr_Eval.l0]
  exact Ev.neg (by rw [hv]; exact ge_part pre) (Ev.congr hr (by simp))
 | x :: s, pre, hv, hl => by
  have IH := eval_l0 level l v r hr s (pre ++ [x]) (by simpa using hv) hl
  refine Ev.succ ?_
  simp only [expr_Eval.l0]
  have lt : (pre.length : Int) < (v.length : Int) := by rw [hv]; exact lt_part pre x s
  refine Ev.pos lt (Ev.pos (by omega) (Ev.pos lt ?_))
  have e : rd_T28 v (pre.length : Int) = x := by rw [hv]; exact getD_part pre x z28 s
  rw [e]
  simp only [octet_Of.f, Option.bind_some]
  by_cases h : ofB level x.f0 x.f1 = true
  ·refine Ev.pos h ?_
   rw [w64_succ (by omega)]
   rw [show (pre ++ [x]).length = pre.length + 1 by simp] at IH
   refine Ev.congr IH ?_
   rw [List.all_cons, show ofE level x = true from h, Bool.true_and]
  ·refine Ev.neg h (Ev.congr (Ev.pure _) ?_)
   rw [List.all_cons, show ofE level x = false by simpa [ofE] using h, Bool.false_and]
   rfl
def EvalS (level : Int) (l : List S149) (v : List S28) : S28 × Int :=
 if chkS level v.length l = 0 then (if v.all (ofE level) = true then (evalS level l v, 0) else (⟨0, 0⟩, 5)) else (⟨0, 0⟩, chkS level v.length l)
theorem Eval_ev (level : Int) (l : List S149) (v : List S28) (hv : v.length ≤ 9223372036854775806) : Ev (fun k => expr_Eval.f k level l v) ((EvalS level l v).1.f0, (EvalS level l v).1.f1, (EvalS level l v).2) := by
 simp only [expr_Eval.f]
 refine Ev.bind (chk_ev level v.length l) ?_
 unfold EvalS
 by_cases h : chkS level v.length l = 0
 ·rw [if_pos h]
  obtain ⟨_, _, _, h1, h2, h3⟩ := chk_ok h
  refine Ev.pos h ?_
  have := eval_l0 level l v _ (eval_l1 level v l [] [] h2 h1 rfl h3) v [] rfl hv
  refine Ev.congr this ?_
  by_cases h4 : v.all (ofE level) = true
  ·rw [if_pos h4, if_pos h4]; rfl
  ·rw [if_neg h4, if_neg h4]
 ·rw [if_neg h]
  exact Ev.neg h (Ev.pure _)
end Go.Proofs.Ytoaepfgfbfgcdaa.Q
set_option linter.unusedVariables false
set_option linter.unusedSimpArgs false
namespace Go.Proofs.Ytoaepfgfbfgcdaa.Q
open Go.RowKit Go.Proofs.YtoaepfgfbfgcdaaW.PrintWords Go.Proofs.YtoaepfgfbfgcdaaW.PrintLast Go.Proofs.YtoaepfgfbfgcdaaW.PrintMore
open Go.Proofs.Ytoaepfgfbfgcdaa.Steeple
theorem inK_u64 {n : Int} : InK .u64 n ↔ 0 ≤ n ∧ n < 2 ^ 64 := by
 have e1 : (IntKind.u64).min = 0 := rfl
 have e2 : (IntKind.u64).max = 18446744073709551615 := rfl
 unfold InK
 simp only [Lit.wf, e1, e2]
 simp
 omega
theorem q28 {x : S28} : Q28 x ↔ ∃ h l : Nat, h < 2 ^ 64 ∧ l < 2 ^ 64 ∧ x = ⟨(h : Int), (l : Int)⟩ := by
 unfold Q28
 rw [inK_u64, inK_u64]
 constructor
 ·rintro ⟨⟨h0, h1⟩, h2, h3⟩
  refine ⟨x.f0.toNat, x.f1.toNat, by omega, by omega, ?_⟩
  rw [Int.toNat_of_nonneg h0, Int.toNat_of_nonneg h2]
 ·rintro ⟨h, l, h1, h2, rfl⟩
  exact ⟨⟨by simp, by simp; omega⟩, by simp, by simp; omega⟩
def E (x : S28) : Lv 7 := Lv.mk (emb 6 x.f0.toNat) (emb 6 x.f1.toNat)
theorem E_mk (h l : Nat) : E ⟨(h : Int), (l : Int)⟩ = Lv.mk (emb 6 h) (emb 6 l) := rfl
theorem E_zero : E ⟨0, 0⟩ = 0 := by
 show Lv.mk (emb 6 0) (emb 6 0) = 0
 rw [emb_zero]; rfl
theorem E_one : E ⟨0, 1⟩ = 1 := by
 show Lv.mk (emb 6 0) (emb 6 1) = 1
 rw [emb_zero, emb_one]; rfl
theorem E_inj {a b : S28} (ha : Q28 a) (hb : Q28 b) (h : E a = E b) : a = b := by
 obtain ⟨h1, l1, a1, a2, rfl⟩ := q28.1 ha
 obtain ⟨h2, l2, b1, b2, rfl⟩ := q28.1 hb
 have e : sz 6 = 2 ^ 64 := rfl
 have g1 := emb_inj 6 h1 h2 (by rw [e]; exact a1) (by rw [e]; exact b1) (congrArg Lv.hi h)
 have g2 := emb_inj 6 l1 l2 (by rw [e]; exact a2) (by rw [e]; exact b2) (congrArg Lv.lo h)
 rw [g1, g2]
theorem q_zero : Q28 ⟨0, 0⟩ := q28.2 ⟨0, 0, by decide, by decide, rfl⟩
theorem q_one : Q28 ⟨0, 1⟩ := q28.2 ⟨0, 1, by decide, by decide, rfl⟩
theorem of_nat {n : Nat} (hn : n ≤ 6) {h l : Nat} (hh : h < 2 ^ 64) (hl : l < 2 ^ 64) : ofE (n : Int) ⟨(h : Int), (l : Int)⟩ = true ↔ h = 0 ∧ l < sz n := by
 have hc : n = 0 ∨ n = 1 ∨ n = 2 ∨ n = 3 ∨ n = 4 ∨ n = 5 ∨ n = 6 := by omega
 rcases hc with rfl | rfl | rfl | rfl | rfl | rfl | rfl
 ·have e : sz 0 = 2 := rfl
  rw [e]; simp [ofE, ofB]; omega
 ·have e : sz 1 = 4 := rfl
  rw [e]; simp [ofE, ofB]; omega
 ·have e : sz 2 = 16 := rfl
  rw [e]; simp [ofE, ofB]; omega
 ·have e : sz 3 = 256 := rfl
  rw [e]; simp [ofE, ofB]; omega
 ·have e : sz 4 = 65536 := rfl
  rw [e]; simp [ofE, ofB]; omega
 ·have e : sz 5 = 4294967296 := rfl
  rw [e]; simp [ofE, ofB]; omega
 ·have e : sz 6 = 18446744073709551616 := rfl
  rw [e]; simp [ofE, ofB]; omega
theorem of_seven (x : S28) : ofE 7 x = true := by simp [ofE, ofB]
theorem E_add {a b : S28} (ha : Q28 a) (hb : Q28 b) : E (xorE a b) = E a + E b ∧ Q28 (xorE a b) := by
 obtain ⟨h1, l1, a1, a2, rfl⟩ := q28.1 ha
 obtain ⟨h2, l2, b1, b2, rfl⟩ := q28.1 hb
 have e : xorE ⟨(h1 : Int), (l1 : Int)⟩ ⟨(h2 : Int), (l2 : Int)⟩ = ⟨((h1 ^^^ h2 : Nat) : Int), ((l1 ^^^ l2 : Nat) : Int)⟩ := by
  unfold xorE; rw [xor_nat a1 b1, xor_nat a2 b2]
 rw [e]
 refine ⟨?_, q28.2 ⟨_, _, Nat.xor_lt_two_pow a1 b1, Nat.xor_lt_two_pow a2 b2, rfl⟩⟩
 rw [E_mk, E_mk, E_mk, emb_xor, emb_xor]
 rfl
theorem of_add {level : Int} {a b : S28} (ha : Q28 a) (hb : Q28 b) (oa : ofE level a = true) (ob : ofE level b = true) : ofE level (xorE a b) = true := by
 have hL := of_level oa
 obtain ⟨h1, l1, a1, a2, rfl⟩ := q28.1 ha
 obtain ⟨h2, l2, b1, b2, rfl⟩ := q28.1 hb
 have e : xorE ⟨(h1 : Int), (l1 : Int)⟩ ⟨(h2 : Int), (l2 : Int)⟩ = ⟨((h1 ^^^ h2 : Nat) : Int), ((l1 ^^^ l2 : Nat) : Int)⟩ := by
  unfold xorE; rw [xor_nat a1 b1, xor_nat a2 b2]
 rw [e]
 obtain ⟨n, rfl⟩ := Int.eq_ofNat_of_zero_le hL.1
 by_cases h6 : n ≤ 6
 ·have oa' := (of_nat h6 a1 a2).1 oa
  have ob' := (of_nat h6 b1 b2).1 ob
  refine (of_nat h6 (Nat.xor_lt_two_pow a1 b1) (Nat.xor_lt_two_pow a2 b2)).2 ⟨?_, xor_lt oa'.2 ob'.2⟩
  rw [oa'.1, ob'.1]; rfl
 ·obtain rfl : n = 7 := by omega
  exact of_seven _
theorem emb_up {n x : Nat} (h : x < sz n) : emb (n + 1) x = Lv.up (emb n x) := by
 rw [emb, Nat.div_eq_of_lt h, Nat.mod_eq_of_lt h, emb_zero]; rfl
theorem sz_mono {n m : Nat} (h : n ≤ m) : sz n ≤ sz m := Nat.pow_le_pow_right (by decide) (Nat.pow_le_pow_right (by decide) h)
theorem emb_mul_up {n a b c : Nat} (ha : a < sz n) (hb : b < sz n) (hc : c < sz n) (h : emb n c = emb n a * emb n b) : ∀ d, emb (n + d) c = emb (n + d) a * emb (n + d) b
 | 0 => h
 | d + 1 => by
  have hm := sz_mono (show n ≤ n + d by omega)
  show emb ((n + d) + 1) c = emb ((n + d) + 1) a * emb ((n + d) + 1) b
  rw [emb_up (by omega), emb_up (by omega), emb_up (by omega), emb_mul_up ha hb hc h d, Lv.up_mul]
theorem three_products {n : Nat} (A B C D : Lv n) : Lv.mk (((A + B) * (C + D) + A * C + B * D) + Lv.gen n * (A * C)) (B * D + A * C) = Lv.mk A B * Lv.mk C D := by
 rw [Lv.mk_mul]
 congr 1
 simp only [R2.mulAdd, R2.addMul, R2.addAssoc, R2.addComm, R2.addLeft, R2.addCancel, R2.addSelf, R2.addZero]
theorem E_mul {level : Int} {a b : S28} (ha : Q28 a) (hb : Q28 b) (oa : ofE level a = true) (ob : ofE level b = true) : E (MulS level a b) = E a * E b ∧ Q28 (MulS level a b) ∧ ofE level (MulS level a b) = true := by
 have hL := of_level oa
 obtain ⟨h1, l1, a1, a2, rfl⟩ := q28.1 ha
 obtain ⟨h2, l2, b1, b2, rfl⟩ := q28.1 hb
 obtain ⟨n, rfl⟩ := Int.eq_ofNat_of_zero_le hL.1
 have hof : ofB (n : Int) (h1 : Int) (l1 : Int) = true ∧ ofB (n : Int) (h2 : Int) (l2 : Int) = true := ⟨oa, ob⟩
 unfold MulS
 rw [if_pos hof]
 have e6 : sz 6 = 2 ^ 64 := rfl
 by_cases h6 : n ≤ 6
 ·rw [if_pos (by omega)]
  have oa' := (of_nat h6 a1 a2).1 oa
  have ob' := (of_nat h6 b1 b2).1 ob
  obtain ⟨rfl, hl1⟩ := oa'
  obtain ⟨rfl, hl2⟩ := ob'
  obtain ⟨c, hc, c1, c2⟩ := mulS_emb n h6 l1 l2 hl1 hl2
  have hs := sz_mono h6
  have hc64 : c < 2 ^ 64 := by omega
  have e : (⟨0, mulS ((n : Int)).toNat (l1 : Int) (l2 : Int)⟩ : S28) = ⟨((0 : Nat) : Int), (c : Int)⟩ := by rw [Int.toNat_natCast, c1]; rfl
  show E ⟨0, mulS ((n : Int)).toNat (l1 : Int) (l2 : Int)⟩ = _ ∧ Q28 ⟨0, mulS ((n : Int)).toNat (l1 : Int) (l2 : Int)⟩ ∧ ofE (n : Int) ⟨0, mulS ((n : Int)).toNat (l1 : Int) (l2 : Int)⟩ = true
  rw [e]
  refine ⟨?_, q28.2 ⟨0, c, by decide, hc64, rfl⟩, (of_nat h6 (by decide) hc64).2 ⟨rfl, hc⟩⟩
  rw [E_mk, E_mk, E_mk, emb_zero]
  have := emb_mul_up hl1 hl2 hc c2 (6 - n)
  rw [show n + (6 - n) = 6 by omega] at this
  rw [this, Lv.mk_mul]
  simp only [R2.zeroMul, R2.mulZero, R2.addZero]
 ·obtain rfl : n = 7 := by omega
  rw [if_neg (by omega)]
  rw [← e6] at a1 a2 b1 b2
  obtain ⟨u, hu, u1, u2⟩ := mulS_emb 6 (by omega) _ _ a1 b1
  obtain ⟨v, hv, v1, v2⟩ := mulS_emb 6 (by omega) _ _ a2 b2
  obtain ⟨t, ht, t1, t2⟩ := mulS_emb 6 (by omega) _ _ (xor_lt a1 a2) (xor_lt b1 b2)
  obtain ⟨g, hg, g1, g2⟩ := mulXS_emb 6 (by omega) u hu
  have hx1 := xor_lt ht hu
  have hx2 := xor_lt hx1 hv
  have hx3 := xor_lt hx2 hg
  have hx4 := xor_lt hv hu
  have e : (⟨Go.bits .xor .u64 (Go.bits .xor .u64 (Go.bits .xor .u64 (mulS 6 (Go.bits .xor .u64 (h1 : Int) (l1 : Int)) (Go.bits .xor .u64 (h2 : Int) (l2 : Int))) (mulS 6 (h1 : Int) (h2 : Int))) (mulS 6 (l1 : Int) (l2 : Int))) (mulXS 6 (mulS 6 (h1 : Int) (h2 : Int))), Go.bits .xor .u64 (mulS 6 (l1 : Int) (l2 : Int)) (mulS 6 (h1 : Int) (h2 : Int))⟩ : S28) = ⟨((((t ^^^ u) ^^^ v) ^^^ g : Nat) : Int), ((v ^^^ u : Nat) : Int)⟩ := by
   rw [xor_nat (by omega) (by omega), xor_nat (a := h2) (by omega) (by omega), u1, v1, t1, g1, xor_nat (a := t) (by omega) (by omega), xor_nat (b := v) (by omega) (by omega), xor_nat (b := g) (by omega) (by omega), xor_nat (a := v) (by omega) (by omega)]
  dsimp only
  rw [e]
  refine ⟨?_, q28.2 ⟨_, _, by omega, by omega, rfl⟩, of_seven _⟩
  rw [E_mk, E_mk, E_mk, emb_xor, emb_xor, emb_xor, emb_xor, t2, u2, v2, g2, u2, emb_xor, emb_xor]
  exact three_products _ _ _ _
theorem of_zero {level : Int} {x : S28} (h : ofE level x = true) : ofE level ⟨0, 0⟩ = true := by
 have hL := of_level h
 have hc : level = 0 ∨ level = 1 ∨ level = 2 ∨ level = 3 ∨ level = 4 ∨ level = 5 ∨ level = 6 ∨ level = 7 := by omega
 rcases hc with rfl | rfl | rfl | rfl | rfl | rfl | rfl | rfl <;> decide
theorem of_one {level : Int} (h0 : 0 ≤ level) (h7 : level ≤ 7) : ofE level ⟨0, 1⟩ = true := by
 have hc : level = 0 ∨ level = 1 ∨ level = 2 ∨ level = 3 ∨ level = 4 ∨ level = 5 ∨ level = 6 ∨ level = 7 := by omega
 rcases hc with rfl | rfl | rfl | rfl | rfl | rfl | rfl | rfl <;> decide
theorem of_nought {level : Int} (h0 : 0 ≤ level) (h7 : level ≤ 7) : ofE level ⟨0, 0⟩ = true := of_zero (of_one h0 h7)
theorem MulS_one_r {level : Int} {x : S28} (hx : Q28 x) (ox : ofE level x = true) : MulS level x ⟨0, 1⟩ = x := by
 have hL := of_level ox
 obtain ⟨h1, h2, _⟩ := E_mul hx q_one ox (of_one hL.1 hL.2)
 exact E_inj h2 hx (by rw [h1, E_one, R2.mulOne])
theorem MulS_one_l {level : Int} {x : S28} (hx : Q28 x) (ox : ofE level x = true) : MulS level ⟨0, 1⟩ x = x := by
 have hL := of_level ox
 obtain ⟨h1, h2, _⟩ := E_mul q_one hx (of_one hL.1 hL.2) ox
 exact E_inj h2 hx (by rw [h1, E_one, R2.oneMul])
theorem xorE_zero {x : S28} (hx : Q28 x) : xorE x ⟨0, 0⟩ = x := by
 obtain ⟨h1, h2⟩ := E_add hx q_zero
 exact E_inj h2 hx (by rw [h1, E_zero, R2.addZero])
theorem zero_xorE {x : S28} (hx : Q28 x) : xorE ⟨0, 0⟩ x = x := by
 obtain ⟨h1, h2⟩ := E_add q_zero hx
 exact E_inj h2 hx (by rw [h1, E_zero, R2.zeroAdd])
theorem xorE_self {x : S28} (hx : Q28 x) : xorE x x = ⟨0, 0⟩ := by
 obtain ⟨h1, h2⟩ := E_add hx hx
 exact E_inj h2 q_zero (by rw [h1, E_zero, R2.addSelf])
end Go.Proofs.Ytoaepfgfbfgcdaa.Q
namespace Go.Proofs.Ytoaepfgfbfgcdaa.Q
open Go.RowKit Go.Proofs.YtoaepfgfbfgcdaaW.PrintWords Go.Proofs.YtoaepfgfbfgcdaaW.PrintLast Go.Proofs.YtoaepfgfbfgcdaaW.PrintMore
def degreeS (l : List S149) : Int := mx (if (degS 7 9223372036854775807 l).2 = 0 then rd (degS 7 9223372036854775807 l).1 ((l.length - 1 : Nat) : Int) else -1) 1
theorem degree_ev (l : List S149) : Ev (fun k => sumcheck_degree.f k l) (degreeS l) := by
 simp only [sumcheck_degree.f, expr_Degree.f]
 unfold degreeS
 refine Ev.bind (a := if (degS 7 9223372036854775807 l).2 = 0 then rd (degS 7 9223372036854775807 l).1 ((l.length - 1 : Nat) : Int) else -1) ?_ (Ev.pure _)
 refine Ev.bind (degs_ev 7 9223372036854775807 l) ?_
 by_cases h : (degS 7 9223372036854775807 l).2 = 0
 ·refine Ev.congr (Ev.pos h ?_) (by rw [if_pos h])
  obtain ⟨_, _, _, h1, h2, _⟩ := chk_ok h
  have hl : (degS 7 9223372036854775807 l).1.length = l.length := by
   have h' := h
   unfold degS at h' ⊢
   have e1 : ¬ (wideS 7 = 0 ∨ (9223372036854775807 : Int) < 0) := by decide +kernel
   rw [if_neg e1, if_neg (by omega), if_neg (by omega)] at h' ⊢
   have := (degsL_ok l [] h').2
   simpa using this
  have e : wrap64 (((degS 7 9223372036854775807 l).1.length : Int) - 1) = ((l.length - 1 : Nat) : Int) := by rw [hl, w64_id (by omega) (by omega)]; omega
  rw [e]
  exact Ev.pos (by omega) (Ev.pos (by omega) (Ev.pure _))
 ·exact Ev.congr (Ev.neg h (Ev.pure _)) (by rw [if_neg h])
def fitsS (level d : Int) : Bool := if wideS level = 0 then false else if 0 ≤ d then (if d ≤ 8 then ofB level 0 (IntKind.u64.wrap d) else false) else false
theorem fits_ev (level d : Int) : Ev (fun k => line_Fits.f k level d) (fitsS level d) := by
 simp only [line_Fits.f, line_place.f, octet_Of.f, Option.bind_some]
 refine Ev.bind (wide_ev level) ?_
 unfold fitsS
 exact Ev.ite (fun _ => Ev.pure _) (fun _ => Ev.ite (fun _ => Ev.ite (fun _ => Ev.pure _) (fun _ => Ev.pure _)) (fun _ => Ev.pure _))
def logL : Nat → Nat → Int → Int
 | 0, _, _ => -1
 | f + 1, i, n => if n = shl .i64 1 (i : Int) then (i : Int) else logL f (i + 1) n
def logS (n : Int) : Int := logL 17 0 n
theorem log_l0 (n : Int) : ∀ (f i : Nat), f + i = 17 → Ev (fun k => cube_Log.l0 k n (i : Int)) (logL f i n)
 | 0, i, h => by
  refine Ev.succ ?_
  simp only [cube_Log.l0]
  exact Ev.neg (by omega) (Ev.pure _)
 | f + 1, i, h => by
  have IH := log_l0 n f (i + 1) (by omega)
  refine Ev.succ ?_
  simp only [cube_Log.l0]
  refine Ev.pos (by omega) (Ev.pos (by omega) ?_)
  rw [logL, w64_succ (by omega)]
  exact Ev.ite (fun _ => Ev.pure _) (fun _ => IH)
theorem log_ev (n : Int) : Ev (fun k => cube_Log.f k n) (logS n) := by
 simp only [cube_Log.f]
 exact log_l0 n 17 0 rfl
theorem shl_pow (i : Nat) (h : i < 63) : shl .i64 1 (i : Int) = ((2 ^ i : Nat) : Int) := by
 unfold shl
 have e : min (i : Int).toNat (IntKind.i64).bits = i := by
  have : (IntKind.i64).bits = 64 := rfl
  rw [this]; simp; omega
 rw [e, Int.one_mul]
 have h2 : (2 : Int) ^ i = ((2 ^ i : Nat) : Int) := by simp
 rw [h2]
 have h3 : 2 ^ i < 2 ^ 63 := Nat.pow_lt_pow_right (by decide) h
 rw [i64_w]
 obtain ⟨m, hm⟩ : ∃ m, 2 ^ i = m := ⟨_, rfl⟩
 rw [hm] at h3 ⊢
 exact w64_id (by omega) (by omega)
theorem logL_some (n : Int) : ∀ (f i : Nat), f + i = 17 → 0 ≤ logL f i n → ∃ j : Nat, logL f i n = (j : Int) ∧ j < 17 ∧ n = ((2 ^ j : Nat) : Int)
 | 0, i, h, h0 => by simp [logL] at h0
 | f + 1, i, h, h0 => by
  rw [logL] at h0 ⊢
  by_cases h1 : n = shl .i64 1 (i : Int)
  ·rw [if_pos h1]
   exact ⟨i, rfl, by omega, by rw [h1, shl_pow i (by omega)]⟩
  ·rw [if_neg h1] at h0 ⊢
   exact logL_some n f (i + 1) (by omega) h0
theorem logS_some {n : Int} (h : 0 ≤ logS n) : ∃ j : Nat, logS n = (j : Int) ∧ j < 17 ∧ n = ((2 ^ j : Nat) : Int) := logL_some n 17 0 rfl h
def CheckS (level : Int) (l : List S149) (ts : List (List S28)) : Int :=
 if chkS level (ts.length : Int) l = 0 then (if (ts.length : Int) = 0 then 6 else if fitsS level (degreeS l) = true then (if logS ((rdR ts 0).length : Int) < 0 then 6 else if 12 < logS ((rdR ts 0).length : Int) then 6 else if ts.any (fun t => (t.length : Int) != shl .i64 1 (logS ((rdR ts 0).length : Int))) then 6 else if ts.any (fun t => t.any fun y => !ofB level y.f0 y.f1) then 5 else 0) else 6) else chkS level (ts.length : Int) l
theorem Check_ev (level : Int) (l : List S149) (ts : List (List S28)) : Ev (fun k => sumcheck_Check.f k level l ts) (CheckS level l ts) := by
 simp only [sumcheck_Check.f]
 refine Ev.bind (chk_ev level _ l) ?_
 unfold CheckS
 refine Ev.ite (fun _ => Ev.ite (fun _ => Ev.pure _) (fun _ => ?_)) (fun _ => Ev.pure _)
 refine Ev.bind (degree_ev l) (Ev.bind (fits_ev level _) ?_)
 refine Ev.ite (fun _ => ?_) (fun _ => Ev.pure _)
 refine Ev.bind (log_ev _) ?_
 exact Ev.ite (fun _ => Ev.pure _) (fun _ => Ev.ite (fun _ => Ev.pure _) (fun _ => Ev.pure _))
def TablesOK (level : Int) (N : Nat) (ts : List (List S28)) : Prop := ts ≠ [] ∧ ∀ t ∈ ts, t.length = N ∧ t.all (ofE level) = true
theorem Check_ok {level : Int} {l : List S149} {ts : List (List S28)} (h : CheckS level l ts = 0) : chkS level (ts.length : Int) l = 0 ∧ ∃ n : Nat, n ≤ 12 ∧ (rdR ts 0).length = 2 ^ n ∧ logS ((rdR ts 0).length : Int) = (n : Int) ∧ TablesOK level (2 ^ n) ts := by
 unfold CheckS at h
 by_cases h1 : chkS level (ts.length : Int) l = 0
 ·rw [if_pos h1] at h
  refine ⟨h1, ?_⟩
  by_cases h2 : (ts.length : Int) = 0
  ·rw [if_pos h2] at h; simp at h
  rw [if_neg h2] at h
  by_cases h3 : fitsS level (degreeS l) = true
  ·rw [if_pos h3] at h
   by_cases h4 : logS ((rdR ts 0).length : Int) < 0
   ·rw [if_pos h4] at h; simp at h
   rw [if_neg h4] at h
   by_cases h5 : 12 < logS ((rdR ts 0).length : Int)
   ·rw [if_pos h5] at h; simp at h
   rw [if_neg h5] at h
   obtain ⟨n, e1, _, e2⟩ := logS_some (show 0 ≤ logS ((rdR ts 0).length : Int) by omega)
   rw [e1, shl_pow n (by omega)] at h
   cases h6 : ts.any (fun t => (t.length : Int) != ((2 ^ n : Nat) : Int)) with
   | true => rw [h6] at h; simp at h
   | false =>
    cases h7 : ts.any (fun t => t.any fun y => !ofB level y.f0 y.f1) with
    | true => rw [h6, h7] at h; simp at h
    | false =>
     refine ⟨n, by omega, by exact_mod_cast e2, e1, fun e => by rw [e] at h2; simp at h2, fun t ht => ?_⟩
     rw [List.any_eq_false] at h6 h7
     refine ⟨?_, ?_⟩
     ·have := h6 t ht
      simp only [bne_iff_ne, ne_eq, Decidable.not_not] at this
      exact_mod_cast this
     ·have := h7 t ht
      rw [List.all_eq_true]
      intro y hy
      have h8 : ¬ (t.any fun y => !ofB level y.f0 y.f1) = true := this
      rw [List.any_eq_true] at h8
      cases hb : ofE level y with
      | true => rfl
      | false => exact absurd ⟨y, hy, by simpa [ofE] using hb⟩ h8
  ·rw [if_neg h3] at h; simp at h
 ·rw [if_neg h1] at h
  exact absurd h h1
def colS (ts : List (List S28)) (i : Int) : List S28 := ts.map fun t => rd_T28 t i
def sumL (level : Int) (l : List S149) (ts : List (List S28)) : Nat → Nat → S28 → S28
 | 0, _, acc => acc
 | f + 1, i, acc => sumL level l ts f (i + 1) (xorE acc (EvalS level l (colS ts i)).1)
theorem set_part {α : Type} (a : List α) (z x : α) (n : Nat) : (a ++ List.replicate (n + 1) z).set a.length x = (a ++ [x]) ++ List.replicate n z := by
 rw [List.set_append_right _ _ (Nat.le_refl _), Nat.sub_self, List.replicate_succ, List.set_cons_zero]
 simp
theorem sum_l1 (level : Int) (l : List S149) (ts : List (List S28)) (N i : Nat) (acc : S28) (r : Int × Int) (hts : ∀ t ∈ ts, t.length = N) (hi : i < N) (hb : ts.length ≤ 1000)
  (hr : Ev (fun k => sumcheck_sum.l0 k level l ts (N : Int) (wrap64 ((i : Int) + 1)) (xorE acc (EvalS level l (colS ts i)).1).f0 (xorE acc (EvalS level l (colS ts i)).1).f1) r) :
  ∀ (s pre : List (List S28)), ts = pre ++ s → Ev (fun k => sumcheck_sum.l1 k level l ts (i : Int) (colS pre i ++ List.replicate s.length z28) (N : Int) (i : Int) ts (ts.length : Int) (pre.length : Int) acc.f0 acc.f1) r
 | [], pre, hp => by
  refine Ev.succ ?_
  simp only [sumcheck_sum.l1]
  refine Ev.neg (by rw [hp]; exact ge_part pre) ?_
  have e : colS pre i ++ List.replicate ([] : List (List S28)).length z28 = colS ts i := by rw [hp]; simp
  rw [e]
  refine Ev.bind (Eval_ev level l (colS ts i) (by simp [colS]; omega)) ?_
  simp only [tower_Add.f, Option.bind_some]
  exact hr
 | t :: s, pre, hp => by
  have IH := sum_l1 level l ts N i acc r hts hi hb hr s (pre ++ [t]) (by simpa using hp)
  refine Ev.succ ?_
  simp only [sumcheck_sum.l1]
  have lt : (pre.length : Int) < (ts.length : Int) := by rw [hp]; exact lt_part pre t s
  have et : rd_L11 ts (pre.length : Int) = t := by rw [hp]; exact getD_part pre t _ s
  have ht : t.length = N := hts t (by rw [hp]; simp)
  have hc : (colS pre (i : Int)).length = pre.length := by simp [colS]
  refine Ev.pos lt (Ev.pos (by omega) (Ev.pos lt (Ev.pos (by omega) ?_)))
  rw [et]
  refine Ev.pos (by omega) (Ev.pos ?_ ?_)
  ·simp [hc]; omega
  ·rw [w64_succ (by omega)]
   have e1 : ((pre.length : Int)).toNat = (colS pre (i : Int)).length := by rw [hc]; simp
   rw [e1, List.length_cons, set_part]
   rw [show colS (pre ++ [t]) (i : Int) = colS pre (i : Int) ++ [rd_T28 t (i : Int)] by simp [colS], show (pre ++ [t]).length = pre.length + 1 by simp] at IH
   exact IH
theorem sum_l0 (level : Int) (l : List S149) (ts : List (List S28)) (N : Nat) (hts : ∀ t ∈ ts, t.length = N) (hN : N ≤ 1000000) (hb : ts.length ≤ 1000) : ∀ (f i : Nat) (acc : S28), f + i = N →
  Ev (fun k => sumcheck_sum.l0 k level l ts (N : Int) (i : Int) acc.f0 acc.f1) ((sumL level l ts f i acc).f0, (sumL level l ts f i acc).f1)
 | 0, i, acc, h => by
  refine Ev.succ ?_
  simp only [sumcheck_sum.l0]
  exact Ev.neg (by omega) (Ev.pure _)
 | f + 1, i, acc, h => by
  have IH := sum_l0 level l ts N hts hN hb f (i + 1) (xorE acc (EvalS level l (colS ts i)).1) (by omega)
  refine Ev.succ ?_
  simp only [sumcheck_sum.l0]
  refine Ev.pos (by omega) (Ev.pos (by omega) (Ev.pos (by omega) ?_))
  have := sum_l1 level l ts N i acc _ hts (by omega) hb (by rw [w64_succ (by omega)]; exact IH) ts [] rfl
  rw [sumL]
  simpa [colS] using this
def sumS (level : Int) (l : List S149) (ts : List (List S28)) : S28 := sumL level l ts (rdR ts 0).length 0 ⟨0, 0⟩
theorem sum_ev (level : Int) (l : List S149) (ts : List (List S28)) (N : Nat) (h0 : 0 < ts.length) (hts : ∀ t ∈ ts, t.length = N) (hN : N ≤ 1000000) (hb : ts.length ≤ 1000) : Ev (fun k => sumcheck_sum.f k level l ts) ((sumS level l ts).f0, (sumS level l ts).f1) := by
 simp only [sumcheck_sum.f]
 refine Ev.pos (by omega) ?_
 have e : (rdR ts 0).length = N := hts _ (by
  unfold rdR
  rw [List.getD_eq_getElem?_getD, List.getElem?_eq_getElem (by exact h0)]
  exact List.getElem_mem _)
 have e2 : (rd_L11 ts 0).length = N := e
 unfold sumS
 rw [e, e2]
 exact sum_l0 level l ts N hts hN hb N 0 ⟨0, 0⟩ rfl
def SumS (level : Int) (l : List S149) (ts : List (List S28)) : S28 × Int := if CheckS level l ts = 0 then (sumS level l ts, 0) else (⟨0, 0⟩, CheckS level l ts)
theorem Sum_ev (level : Int) (l : List S149) (ts : List (List S28)) (hb : ts.length ≤ 1000) : Ev (fun k => sumcheck_Sum.f k level l ts) ((SumS level l ts).1.f0, (SumS level l ts).1.f1, (SumS level l ts).2) := by
 simp only [sumcheck_Sum.f]
 refine Ev.bind (Check_ev level l ts) ?_
 unfold SumS
 by_cases h : CheckS level l ts = 0
 ·rw [if_pos h]
  obtain ⟨_, n, hn, _, _, hne, hall⟩ := Check_ok h
  have hp : 2 ^ n ≤ 2 ^ 12 := Nat.pow_le_pow_right (by decide) hn
  exact Ev.pos h (Ev.bind (sum_ev level l ts (2 ^ n) (List.length_pos_iff.2 hne) (fun t ht => (hall t ht).1) (by omega) hb) (Ev.pure _))
 ·rw [if_neg h]
  exact Ev.neg h (Ev.pure _)
def manyS (n : Nat) : Int := if n = 0 then 1 else if 40 < n then 2 else 0
theorem many_eq (l : List (List S149)) : zero_many.f l = some (manyS l.length) := by
 unfold zero_many.f manyS
 by_cases h : l.length = 0
 ·rw [if_pos (by omega), if_pos h]
 ·rw [if_neg (by omega), if_neg h]
  by_cases h2 : 40 < l.length
  ·rw [if_pos (by omega), if_pos h2]
  ·rw [if_neg (by omega), if_neg h2]
theorem many_ok {n : Nat} (h : manyS n = 0) : 0 < n ∧ n ≤ 40 := by
 unfold manyS at h
 by_cases h1 : n = 0
 ·rw [if_pos h1] at h; simp at h
 ·rw [if_neg h1] at h
  by_cases h2 : 40 < n
  ·rw [if_pos h2] at h; simp at h
  ·omega
def firstE {α : Type} (f : α → Int) : List α → Int
 | [] => 0
 | x :: r => if f x = 0 then firstE f r else f x
theorem firstE_ok {α : Type} {f : α → Int} : ∀ {l : List α}, firstE f l = 0 → ∀ x ∈ l, f x = 0
 | [], _, x, hx => by cases hx
 | y :: r, h, x, hx => by
  rw [firstE] at h
  by_cases hy : f y = 0
  ·rw [if_pos hy] at h
   rcases List.mem_cons.1 hx with rfl | hx
   ·exact hy
   ·exact firstE_ok h x hx
  ·rw [if_neg hy] at h
   exact absurd h hy
def askS (level : Int) (conds : List (List S149)) (ts : List (List S28)) : Int := if manyS conds.length = 0 then firstE (fun c => CheckS level c ts) conds else manyS conds.length
theorem ask_l0 (level : Int) (ts : List (List S28)) : ∀ (r pre : List (List S149)), (pre ++ r).length ≤ 100 → Ev (fun k => zero_ask.l0 k level ts (pre ++ r) ((pre ++ r).length : Int) (pre.length : Int)) (firstE (fun c => CheckS level c ts) r)
 | [], pre, hl => by
  refine Ev.succ ?_
  simp only [zero_ask.l0]
  exact Ev.neg (ge_part pre) (Ev.pure _)
 | c :: r, pre, hl => by
  have IH := ask_l0 level ts r (pre ++ [c]) (by simpa using hl)
  refine Ev.succ ?_
  simp only [zero_ask.l0]
  have hlen : pre.length < 100 := by simp at hl; omega
  refine Ev.pos (lt_part pre c r) (Ev.pos (by omega) (Ev.pos (lt_part pre c r) ?_))
  have e : rd_L13 (pre ++ c :: r) (pre.length : Int) = c := getD_part pre c _ r
  rw [e]
  refine Ev.bind (Check_ev level c ts) ?_
  rw [firstE, w64_succ (by omega)]
  rw [show (pre ++ [c]) ++ r = pre ++ c :: r by simp, show (pre ++ [c]).length = pre.length + 1 by simp] at IH
  exact Ev.ite (fun _ => IH) (fun _ => Ev.pure _)
theorem ask_ev (level : Int) (conds : List (List S149)) (ts : List (List S28)) : Ev (fun k => zero_ask.f k level conds ts) (askS level conds ts) := by
 simp only [zero_ask.f, many_eq, Option.bind_some]
 unfold askS
 by_cases h : manyS conds.length = 0
 ·exact Ev.congr (Ev.pos h (ask_l0 level ts conds [] (by have := many_ok h; simp; omega))) (by rw [if_pos h])
 ·exact Ev.congr (Ev.neg h (Ev.pure _)) (by rw [if_neg h])
theorem ask_ok {level : Int} {conds : List (List S149)} {ts : List (List S28)} (h : askS level conds ts = 0) : 0 < conds.length ∧ conds.length ≤ 40 ∧ ∀ c ∈ conds, CheckS level c ts = 0 := by
 unfold askS at h
 by_cases h1 : manyS conds.length = 0
 ·rw [if_pos h1] at h
  have := many_ok h1
  exact ⟨this.1, this.2, firstE_ok h⟩
 ·rw [if_neg h1] at h
  exact absurd h h1
def isZ (x : S28) : Bool := x.f0 == 0 && x.f1 == 0
theorem isZ_iff {x : S28} : isZ x = true ↔ x = ⟨0, 0⟩ := by
 cases x
 simp [isZ]
def holdsL (level : Int) (conds : List (List S149)) (ts : List (List S28)) : Nat → Nat → Bool
 | 0, _ => true
 | f + 1, i => (conds.all fun c => isZ (EvalS level c (colS ts i)).1) && holdsL level conds ts f (i + 1)
theorem holds_l2 (level : Int) (conds : List (List S149)) (ts : List (List S28)) (N i : Nat) (v : List S28) (hc : conds.length ≤ 100) (hv : v.length ≤ 1000) (t : Bool)
  (hr : Ev (fun k => zero_Holds.l0 k level conds ts (N : Int) (wrap64 ((i : Int) + 1))) (t, 0)) :
  ∀ (s pre : List (List S149)), conds = pre ++ s → Ev (fun k => zero_Holds.l2 k level conds ts v (N : Int) (i : Int) conds (conds.length : Int) (pre.length : Int)) ((s.all fun c => isZ (EvalS level c v).1) && t, 0)
 | [], pre, hp => by
  refine Ev.succ ?_
  simp only [zero_Holds.l2]
  refine Ev.neg (by rw [hp]; exact ge_part pre) ?_
  simpa using hr
 | c :: s, pre, hp => by
  have IH := holds_l2 level conds ts N i v hc hv t hr s (pre ++ [c]) (by simpa using hp)
  refine Ev.succ ?_
  simp only [zero_Holds.l2]
  have lt : (pre.length : Int) < (conds.length : Int) := by rw [hp]; exact lt_part pre c s
  have e : rd_L13 conds (pre.length : Int) = c := by rw [hp]; exact getD_part pre c _ s
  refine Ev.pos lt (Ev.pos (by omega) (Ev.pos lt ?_))
  rw [e]
  refine Ev.bind (Eval_ev level c v (by omega)) ?_
  rw [List.all_cons]
  cases hz : isZ (EvalS level c v).1 with
  | true =>
   have e2 := isZ_iff.1 hz
   refine Ev.neg (by rw [e2]; simp) ?_
   rw [w64_succ (by omega), Bool.true_and]
   rw [show (pre ++ [c]).length = pre.length + 1 by simp] at IH
   exact IH
  | false =>
   refine Ev.congr (Ev.pos ?_ (Ev.pure _)) (by simp)
   unfold isZ at hz
   simp only [Bool.and_eq_false_iff] at hz
   rcases hz with h | h <;> simp [h]
theorem holds_l1 (level : Int) (conds : List (List S149)) (ts : List (List S28)) (N i : Nat) (hc : conds.length ≤ 100) (hts : ∀ t ∈ ts, t.length = N) (hi : i < N) (hb : ts.length ≤ 1000) (t : Bool)
  (hr : Ev (fun k => zero_Holds.l0 k level conds ts (N : Int) (wrap64 ((i : Int) + 1))) (t, 0)) :
  ∀ (s pre : List (List S28)), ts = pre ++ s → Ev (fun k => zero_Holds.l1 k level conds ts (i : Int) (colS pre i ++ List.replicate s.length z28) (N : Int) (i : Int) ts (ts.length : Int) (pre.length : Int)) ((conds.all fun c => isZ (EvalS level c (colS ts i)).1) && t, 0)
 | [], pre, hp => by
  refine Ev.succ ?_
  simp only [zero_Holds.l1]
  refine Ev.neg (by rw [hp]; exact ge_part pre) ?_
  have e : colS pre i ++ List.replicate ([] : List (List S28)).length z28 = colS ts i := by rw [hp]; simp
  rw [e]
  exact holds_l2 level conds ts N i (colS ts i) hc (by simpa [colS] using hb) t hr conds [] rfl
 | x :: s, pre, hp => by
  have IH := holds_l1 level conds ts N i hc hts hi hb t hr s (pre ++ [x]) (by simpa using hp)
  refine Ev.succ ?_
  simp only [zero_Holds.l1]
  have lt : (pre.length : Int) < (ts.length : Int) := by rw [hp]; exact lt_part pre x s
  have et : rd_L11 ts (pre.length : Int) = x := by rw [hp]; exact getD_part pre x _ s
  have ht : x.length = N := hts x (by rw [hp]; simp)
  have hcl : (colS pre (i : Int)).length = pre.length := by simp [colS]
  refine Ev.pos lt (Ev.pos (by omega) (Ev.pos lt (Ev.pos (by omega) ?_)))
  rw [et]
  refine Ev.pos (by omega) (Ev.pos ?_ ?_)
  ·simp [hcl]; omega
  ·rw [w64_succ (by omega)]
   have e1 : ((pre.length : Int)).toNat = (colS pre (i : Int)).length := by rw [hcl]; simp
   rw [e1, List.length_cons, set_part]
   rw [show colS (pre ++ [x]) (i : Int) = colS pre (i : Int) ++ [rd_T28 x (i : Int)] by simp [colS], show (pre ++ [x]).length = pre.length + 1 by simp] at IH
   exact IH
theorem holds_l0 (level : Int) (conds : List (List S149)) (ts : List (List S28)) (N : Nat) (hc : conds.length ≤ 100) (hts : ∀ t ∈ ts, t.length = N) (hN : N ≤ 1000000) (hb : ts.length ≤ 1000) : ∀ (f i : Nat), f + i = N →
  Ev (fun k => zero_Holds.l0 k level conds ts (N : Int) (i : Int)) (holdsL level conds ts f i, 0)
 | 0, i, h => by
  refine Ev.succ ?_
  simp only [zero_Holds.l0]
  exact Ev.neg (by omega) (Ev.pure _)
 | f + 1, i, h => by
  have IH := holds_l0 level conds ts N hc hts hN hb f (i + 1) (by omega)
  refine Ev.succ ?_
  simp only [zero_Holds.l0]
  refine Ev.pos (by omega) (Ev.pos (by omega) (Ev.pos (by omega) ?_))
  have := holds_l1 level conds ts N i hc hts (by omega) hb _ (by rw [w64_succ (by omega)]; exact IH) ts [] rfl
  rw [holdsL]
  simpa [colS] using this
def HoldsS (level : Int) (conds : List (List S149)) (ts : List (List S28)) : Bool × Int := if askS level conds ts = 0 then (holdsL level conds ts (rdR ts 0).length 0, 0) else (false, askS level conds ts)
theorem ask_tables {level : Int} {conds : List (List S149)} {ts : List (List S28)} (h : askS level conds ts = 0) : ∃ n : Nat, n ≤ 12 ∧ (rdR ts 0).length = 2 ^ n ∧ logS ((rdR ts 0).length : Int) = (n : Int) ∧ TablesOK level (2 ^ n) ts := by
 obtain ⟨h1, h2, h3⟩ := ask_ok h
 obtain ⟨c, r, rfl⟩ := List.exists_cons_of_length_pos h1
 exact (Check_ok (h3 c List.mem_cons_self)).2
theorem Holds_ev (level : Int) (conds : List (List S149)) (ts : List (List S28)) (hb : ts.length ≤ 1000) : Ev (fun k => zero_Holds.f k level conds ts) (HoldsS level conds ts) := by
 simp only [zero_Holds.f]
 refine Ev.bind (ask_ev level conds ts) ?_
 unfold HoldsS
 by_cases h : askS level conds ts = 0
 ·rw [if_pos h]
  obtain ⟨h1, h2, h3⟩ := ask_ok h
  obtain ⟨n, hn, e, _, hne, hall⟩ := ask_tables h
  have hp : 2 ^ n ≤ 2 ^ 12 := Nat.pow_le_pow_right (by decide) hn
  have hl := List.length_pos_iff.2 hne
  refine Ev.pos h (Ev.pos (by omega) ?_)
  have e2 : (rd_L11 ts 0).length = 2 ^ n := e
  rw [e, e2]
  exact holds_l0 level conds ts (2 ^ n) (by omega) (fun t ht => (hall t ht).1) (by omega) hb (2 ^ n) 0 rfl
 ·rw [if_neg h]
  exact Ev.neg h (Ev.pure _)
def shiftS (n : Nat) (o : S149) : S149 := if o.f0 = 3 ∨ o.f0 = 4 then ⟨o.f0, wrap64 (o.f1 + (n : Int)), wrap64 (o.f2 + (n : Int)), o.f3⟩ else o
theorem set_at {α : Type} (pre : List α) (x y : α) (r : List α) : (pre ++ x :: r).set ((pre.length : Int)).toNat y = pre ++ y :: r := by
 rw [show ((pre.length : Int)).toNat = pre.length by simp, List.set_append_right _ _ (Nat.le_refl _), Nat.sub_self, List.set_cons_zero]
theorem behind_l0 (n : Nat) : ∀ (r pre : List S149), (pre ++ r).length ≤ 200 → Ev (fun k => zero_behind.l0 k (n : Int) (pre ++ r) ((pre ++ r).length : Int) (pre.length : Int)) (pre ++ r.map (shiftS n))
 | [], pre, hl => by
  refine Ev.succ ?_
  simp only [zero_behind.l0]
  exact Ev.neg (ge_part pre) (Ev.congr (Ev.pure _) (by simp))
 | o :: r, pre, hl => by
  have IH := behind_l0 n r (pre ++ [shiftS n o]) (by simpa using hl)
  have hlen : pre.length < 200 := by simp at hl; omega
  rw [show (pre ++ [shiftS n o]) ++ r = pre ++ shiftS n o :: r by simp, show (pre ++ [shiftS n o]).length = pre.length + 1 by simp, show pre ++ [shiftS n o] ++ List.map (shiftS n) r = pre ++ List.map (shiftS n) (o :: r) by simp, ← w64_succ (n := pre.length) (by omega)] at IH
  refine Ev.succ ?_
  simp only [zero_behind.l0, Option.bind_some]
  refine Ev.pos (lt_part pre o r) (Ev.pos (by omega) (Ev.pos (lt_part pre o r) ?_))
  have e : ∀ x : S149, rd_T149 (pre ++ x :: r) (pre.length : Int) = x := fun x => getD_part pre x z149 r
  simp only [e, set_at]
  have el : ∀ x y : S149, (pre ++ x :: r).length = (pre ++ y :: r).length := fun x y => by simp
  unfold shiftS at IH
  by_cases h3 : o.f0 = 3
  ·refine Ev.pos h3 ?_
   rw [if_pos (.inl h3)] at IH
   rw [el o _]
   exact IH
  ·refine Ev.neg h3 ?_
   by_cases h4 : o.f0 = 4
   ·refine Ev.pos h4 ?_
    rw [if_pos (.inr h4)] at IH
    rw [el o _]
    exact IH
   ·refine Ev.neg h4 ?_
    rw [if_neg (by omega)] at IH
    exact IH
theorem behind_ev (n : Nat) (l : List S149) (h : l.length ≤ 200) : Ev (fun k => zero_behind.f k (n : Int) l) (l.map (shiftS n)) := by
 simp only [zero_behind.f, api_Op.f]
 rw [if_pos (by omega)]
 simp only [Option.bind_some]
 exact behind_l0 n l [] h
def mixT (level vars : Int) (a : S28) : Bool → List (List S149) → Nat → Int → S28 → List S149
 | _, [], n, sum, _ => [⟨2, vars, 0, ⟨0, 0⟩⟩, ⟨4, (n : Int), sum, ⟨0, 0⟩⟩]
 | true, c :: r, n, _, b => c.map (shiftS n) ++ mixT level vars a false r (n + c.length) (((n + c.length : Nat) : Int) - 1) b
 | false, c :: r, n, sum, b => c.map (shiftS n) ++ ([⟨1, 0, 0, MulS level b a⟩, ⟨4, ((n + c.length : Nat) : Int), ((n + c.length : Nat) : Int) - 1, ⟨0, 0⟩⟩, ⟨3, sum, ((n + c.length : Nat) : Int) + 1, ⟨0, 0⟩⟩] ++ mixT level vars a false r (n + c.length + 3) (((n + c.length : Nat) : Int) + 2) (MulS level b a))
theorem mix_l0 (level vars : Int) (a : S28) (conds : List (List S149)) (hc : conds.length ≤ 40) (hl : ∀ c ∈ conds, 0 < c.length ∧ c.length ≤ 200) : ∀ (r pre : List (List S149)) (out : List S149) (sum : Int) (b : S28), conds = pre ++ r → out.length ≤ 203 * pre.length →
  Ev (fun k => zero_mix.l0 k level vars out sum conds (conds.length : Int) (pre.length : Int) a.f0 a.f1 b.f0 b.f1) (out ++ mixT level vars a (decide (pre.length = 0)) r out.length sum b)
 | [], pre, out, sum, b, hp, ho => by
  have hpl : pre.length ≤ 40 := by rw [hp] at hc; simpa using hc
  refine Ev.succ ?_
  simp only [zero_mix.l0, Option.bind_some]
  refine Ev.neg (by rw [hp]; exact ge_part pre) (Ev.pos ?_ ?_)
  ·simp; omega
  ·exact Ev.pure _
 | c :: r, pre, out, sum, b, hp, ho => by
  have hpl : pre.length < 40 := by rw [hp] at hc; simp at hc; omega
  obtain ⟨hc0, hc2⟩ := hl c (by rw [hp]; simp)
  have lt : (pre.length : Int) < (conds.length : Int) := by rw [hp]; exact lt_part pre c r
  have e : rd_L13 conds (pre.length : Int) = c := by rw [hp]; exact getD_part pre c _ r
  refine Ev.succ ?_
  simp only [zero_mix.l0, Option.bind_some]
  refine Ev.pos lt (Ev.pos (by omega) (Ev.pos lt ?_))
  rw [e]
  refine Ev.bind (behind_ev out.length c hc2) ?_
  refine Ev.pos (by simp; omega) ?_
  have el : (out ++ c.map (shiftS out.length)).length = out.length + c.length := by simp
  have e1 : wrap64 (((out.length + c.length : Nat) : Int) - 1) = ((out.length + c.length : Nat) : Int) - 1 := w64_id (by omega) (by omega)
  have e2 : wrap64 (((out.length + c.length : Nat) : Int) - 1 + 1) = ((out.length + c.length : Nat) : Int) := by rw [w64_id (by omega) (by omega)]; omega
  have e3 : wrap64 (((out.length + c.length : Nat) : Int) - 1 + 2) = ((out.length + c.length : Nat) : Int) + 1 := by rw [w64_id (by omega) (by omega)]; omega
  have e4 : wrap64 (((out.length + c.length : Nat) : Int) - 1 + 3) = ((out.length + c.length : Nat) : Int) + 2 := by rw [w64_id (by omega) (by omega)]; omega
  rw [el, e1, e2, e3, e4, w64_succ (by omega)]
  by_cases h0 : pre.length = 0
  ·refine Ev.pos (by omega) ?_
   have IH := mix_l0 level vars a conds hc hl r (pre ++ [c]) (out ++ c.map (shiftS out.length)) (((out.length + c.length : Nat) : Int) - 1) b (by simpa using hp) (by rw [el]; simp; omega)
   rw [el, show (pre ++ [c]).length = pre.length + 1 by simp, show decide (pre.length + 1 = 0) = false by simp] at IH
   rw [show decide (pre.length = 0) = true by simp [h0]]
   refine Ev.congr IH ?_
   rw [mixT, List.append_assoc]
  ·refine Ev.neg (by omega) ?_
   refine Ev.bind (Mul_ev level b a) (Ev.pos (by simp; omega) ?_)
   have IH := mix_l0 level vars a conds hc hl r (pre ++ [c]) (out ++ c.map (shiftS out.length) ++ [⟨1, 0, 0, MulS level b a⟩, ⟨4, ((out.length + c.length : Nat) : Int), ((out.length + c.length : Nat) : Int) - 1, ⟨0, 0⟩⟩, ⟨3, sum, ((out.length + c.length : Nat) : Int) + 1, ⟨0, 0⟩⟩]) (((out.length + c.length : Nat) : Int) + 2) (MulS level b a) (by simpa using hp) (by simp; omega)
   rw [show (pre ++ [c]).length = pre.length + 1 by simp, show decide (pre.length + 1 = 0) = false by simp] at IH
   rw [show decide (pre.length = 0) = false by simp [h0]]
   refine Ev.congr IH ?_
   rw [mixT, show (out ++ c.map (shiftS out.length) ++ [(⟨1, 0, 0, MulS level b a⟩ : S149), ⟨4, ((out.length + c.length : Nat) : Int), ((out.length + c.length : Nat) : Int) - 1, ⟨0, 0⟩⟩, ⟨3, sum, ((out.length + c.length : Nat) : Int) + 1, ⟨0, 0⟩⟩]).length = out.length + c.length + 3 by simp; omega]
   simp only [List.append_assoc]
def mixS (level vars : Int) (conds : List (List S149)) (a : S28) : List S149 := mixT level vars a true conds 0 0 ⟨0, 1⟩
theorem mix_ev (level vars : Int) (conds : List (List S149)) (a : S28) (hc : conds.length ≤ 40) (hl : ∀ c ∈ conds, 0 < c.length ∧ c.length ≤ 200) : Ev (fun k => zero_mix.f k level vars conds a.f0 a.f1) (mixS level vars conds a) := by
 simp only [zero_mix.f, tower_One.f, Option.bind_some]
 exact mix_l0 level vars a conds hc hl conds [] [] 0 ⟨0, 1⟩ rfl (by simp)
def MixS (level vars : Int) (conds : List (List S149)) (a : S28) : List S149 × Int :=
 if manyS conds.length = 0 then (if firstE (chkS level vars) conds = 0 then (if ofE level a = true then (if chkS level (wrap64 (vars + 1)) (mixS level vars conds a) = 0 then (mixS level vars conds a, 0) else ([], chkS level (wrap64 (vars + 1)) (mixS level vars conds a))) else ([], 5)) else ([], firstE (chkS level vars) conds)) else ([], manyS conds.length)
theorem Mix_l0 (level vars : Int) (conds : List (List S149)) (a : S28) (hc : conds.length ≤ 40) (r : List S149 × Int) (hr : (∀ c ∈ conds, chkS level vars c = 0) → Ev (fun k => (octet_Of.f level a.f0 a.f1).bind fun t461 => (if t461 = true then ((zero_mix.f k level vars conds a.f0 a.f1).bind fun t462 => ((expr_Check.f k level (wrap64 (vars + 1)) t462).bind fun t465 => (if t465 = 0 then (some (t462, 0)) else (some (([] : List (S149)), t465))))) else (some (([] : List (S149)), 5)))) r) :
  ∀ (s pre : List (List S149)), conds = pre ++ s → (∀ c ∈ pre, chkS level vars c = 0) → Ev (fun k => zero_Mix.l0 k level vars conds conds (conds.length : Int) (pre.length : Int) a.f0 a.f1) (if firstE (chkS level vars) s = 0 then r else ([], firstE (chkS level vars) s))
 | [], pre, hp, hpre => by
  refine Ev.succ ?_
  simp only [zero_Mix.l0]
  refine Ev.neg (by rw [hp]; exact ge_part pre) (Ev.congr (hr (by rw [hp]; simpa using hpre)) ?_)
  simp [firstE]
 | c :: s, pre, hp, hpre => by
  have hpl : pre.length < 40 := by rw [hp] at hc; simp at hc; omega
  have lt : (pre.length : Int) < (conds.length : Int) := by rw [hp]; exact lt_part pre c s
  have e : rd_L13 conds (pre.length : Int) = c := by rw [hp]; exact getD_part pre c _ s
  refine Ev.succ ?_
  simp only [zero_Mix.l0]
  refine Ev.pos lt (Ev.pos (by omega) (Ev.pos lt ?_))
  rw [e]
  refine Ev.bind (chk_ev level vars c) ?_
  rw [firstE]
  by_cases h : chkS level vars c = 0
  ·have IH := Mix_l0 level vars conds a hc r hr s (pre ++ [c]) (by simpa using hp) (by
    intro x hx
    rcases List.mem_append.1 hx with hx | hx
    ·exact hpre x hx
    ·rw [List.mem_singleton.1 hx]; exact h)
   rw [show (pre ++ [c]).length = pre.length + 1 by simp] at IH
   refine Ev.pos h ?_
   rw [if_pos h, w64_succ (by omega)]
   exact IH
  ·refine Ev.neg h (Ev.congr (Ev.pure _) ?_)
   rw [if_neg h, if_neg h]
theorem Mix_ev (level vars : Int) (conds : List (List S149)) (a : S28) : Ev (fun k => zero_Mix.f k level vars conds a.f0 a.f1) (MixS level vars conds a) := by
 simp only [zero_Mix.f, many_eq, Option.bind_some]
 unfold MixS
 by_cases h : manyS conds.length = 0
 ·refine Ev.pos h ?_
  rw [if_pos h]
  have hm := many_ok h
  refine Mix_l0 level vars conds a hm.2 _ ?_ conds [] rfl (fun _ h => absurd h List.not_mem_nil)
  intro hall
  simp only [octet_Of.f, Option.bind_some]
  unfold ofE
  refine Ev.ite (fun _ => ?_) (fun _ => Ev.pure _)
  refine Ev.bind (mix_ev level vars conds a hm.2 (fun c hc => by
   obtain ⟨_, _, _, h1, h2, _⟩ := chk_ok (hall c hc)
   exact ⟨h1, h2⟩)) ?_
  refine Ev.bind (chk_ev _ _ _) ?_
  exact Ev.ite (fun _ => Ev.pure _) (fun _ => Ev.pure _)
 ·exact Ev.congr (Ev.neg h (Ev.pure _)) (by rw [if_neg h])
def rowS (level : Int) (x : S28) (l : List S28) : List S28 := l.map fun w => MulS level w x
theorem row_ev (level : Int) (x : S28) : ∀ l : List S28, Ev (fun k => wrow k level x.f0 x.f1 l) (rowS level x l)
 | [] => Ev.pure _
 | w :: r => by
  simp only [wrow]
  exact Ev.bind (Mul_ev level w x) (Ev.bind (row_ev level x r) (Ev.pure _))
def wtsS (level : Int) : List S28 → List S28 → List S28
 | [], out => out
 | x :: r, out => wtsS level r (List.zipWith xorE out (rowS level x out) ++ rowS level x out)
theorem wts_ev (level : Int) : ∀ (p out : List S28), Ev (fun k => wts k level p out) (wtsS level p out)
 | [], out => Ev.pure _
 | x :: r, out => by
  simp only [wts]
  exact Ev.bind (row_ev level x out) (wts_ev level r _)
def WeightsS (level : Int) (p : List S28) : List S28 := if wideS level = 0 then [] else if 16 < (p.length : Int) then [] else if (p.any fun x => !ofB level x.f0 x.f1) = true then [] else wtsS level p [⟨0, 1⟩]
theorem Weights_ev (level : Int) (p : List S28) : Ev (fun k => cube_Weights.f k level p) (WeightsS level p) := by
 simp only [cube_Weights.f]
 refine Ev.bind (wide_ev level) ?_
 unfold WeightsS
 exact Ev.ite (fun _ => Ev.pure _) (fun _ => Ev.ite (fun _ => Ev.pure _) (fun _ => Ev.ite (fun _ => Ev.pure _) (fun _ => wts_ev level p _)))
def SumZ (level : Int) (conds : List (List S149)) (ts : List (List S28)) (a : S28) (p : List S28) : S28 × Int :=
 if askS level conds ts = 0 then (if (MixS level (ts.length : Int) conds a).2 = 0 then (if (p.length : Int) = logS ((rdR ts 0).length : Int) then (if (p.any fun x => !ofB level x.f0 x.f1) = true then (⟨0, 0⟩, 5) else SumS level (MixS level (ts.length : Int) conds a).1 (ts ++ [WeightsS level p])) else (⟨0, 0⟩, 6)) else (⟨0, 0⟩, (MixS level (ts.length : Int) conds a).2)) else (⟨0, 0⟩, askS level conds ts)
theorem SumZ_ev (level : Int) (conds : List (List S149)) (ts : List (List S28)) (a : S28) (p : List S28) (hb : ts.length ≤ 900) : Ev (fun k => zero_Sum.f k level conds ts a.f0 a.f1 p) ((SumZ level conds ts a p).1.f0, (SumZ level conds ts a p).1.f1, (SumZ level conds ts a p).2) := by
 simp only [zero_Sum.f]
 refine Ev.bind (ask_ev level conds ts) ?_
 unfold SumZ
 by_cases h : askS level conds ts = 0
 ·rw [if_pos h]
  refine Ev.pos h (Ev.bind (Mix_ev level _ conds a) ?_)
  by_cases h2 : (MixS level (ts.length : Int) conds a).2 = 0
  ·rw [if_pos h2]
   obtain ⟨n, hn, e, _, hne, hall⟩ := ask_tables h
   refine Ev.pos h2 (Ev.pos (List.length_pos_iff.2 hne) (Ev.bind (log_ev _) ?_))
   by_cases h3 : (p.length : Int) = logS ((rdR ts 0).length : Int)
   ·rw [if_pos h3]
    refine Ev.pos h3 ?_
    by_cases h4 : (p.any fun x => !ofB level x.f0 x.f1) = true
    ·rw [if_pos h4]; exact Ev.congr (Ev.pos h4 (Ev.pure _)) rfl
    ·rw [if_neg h4]
     refine Ev.neg h4 (Ev.bind (Weights_ev level p) (Ev.pos (by omega) ?_))
     exact Sum_ev level _ _ (by simp; omega)
   ·rw [if_neg h3]; exact Ev.congr (Ev.neg h3 (Ev.pure _)) rfl
  ·rw [if_neg h2]; exact Ev.congr (Ev.neg h2 (Ev.pure _)) rfl
 ·rw [if_neg h]; exact Ev.congr (Ev.neg h (Ev.pure _)) rfl
theorem evs_append (level : Int) (v : List S28) : ∀ (a b : List S149) (acc : List S28), evs level v (a ++ b) acc = evs level v b (evs level v a acc)
 | [], b, acc => rfl
 | o :: r, b, acc => by rw [List.cons_append, evs, evs, evs_append level v r]
theorem rd_app_left {l r : List S28} {i : Int} (h0 : 0 ≤ i) (h : i < l.length) : rd_T28 (l ++ r) i = rd_T28 l i := by
 unfold rd_T28
 rw [List.getD_eq_getElem?_getD, List.getD_eq_getElem?_getD, List.getElem?_append_left (by omega)]
theorem rd_app_right {l r : List S28} {i : Int} (h0 : 0 ≤ i) : rd_T28 (l ++ r) (i + (l.length : Int)) = rd_T28 r i := by
 unfold rd_T28
 rw [List.getD_eq_getElem?_getD, List.getD_eq_getElem?_getD, List.getElem?_append_right (by omega)]
 congr 2
 omega
theorem step_shift {level : Int} {v : List S28} {w : S28} {P acc : List S28} {o : S149} (h : StepOK level v.length acc.length o) (hP : P.length + acc.length ≤ 100000) : stepV level (v ++ [w]) (shiftS P.length o) (P ++ acc) = stepV level v o acc := by
 rcases h with ⟨k1, _, _, _⟩ | ⟨k1, _, _, a1, a2⟩ | ⟨k, _, a1, a2, a3, a4⟩
 ·have e : shiftS P.length o = o := by unfold shiftS; rw [if_neg (by omega)]
  rw [e]; unfold stepV; rw [if_pos k1, if_pos k1]
 ·have e : shiftS P.length o = o := by unfold shiftS; rw [if_neg (by omega)]
  rw [e]; unfold stepV; rw [if_neg (by omega), if_pos k1, if_neg (by omega), if_pos k1]
  exact rd_app_left a1 a2
 ·have e : shiftS P.length o = ⟨o.f0, o.f1 + (P.length : Int), o.f2 + (P.length : Int), o.f3⟩ := by
   unfold shiftS
   rw [if_pos k, w64_id (by omega) (by omega), w64_id (by omega) (by omega)]
  rw [e]
  unfold stepV
  simp only [rd_app_right a1, rd_app_right a3]
  rcases k with k | k
  ·simp [k]
  ·simp [k]
theorem evs_shift {level : Int} {v : List S28} {w : S28} {P : List S28} : ∀ (l : List S149) (acc : List S28), StepsOK level v.length acc.length l → P.length + acc.length + l.length ≤ 100000 → evs level (v ++ [w]) (l.map (shiftS P.length)) (P ++ acc) = P ++ evs level v l acc
 | [], acc, h, hl => rfl
 | o :: r, acc, h, hl => by
  rw [List.map_cons, evs, evs, step_shift h.1 (by omega), List.append_assoc]
  have := evs_shift (w := w) (P := P) r (acc ++ [stepV level v o acc]) (by simpa using h.2) (by simp at hl ⊢; omega)
  exact this
theorem stepV1 (level : Int) (v acc : List S28) (x : S28) : stepV level v ⟨1, 0, 0, x⟩ acc = x := by simp [stepV]
theorem stepV2 (level : Int) (v acc : List S28) (i : Int) : stepV level v ⟨2, i, 0, ⟨0, 0⟩⟩ acc = rd_T28 v i := by simp [stepV]
theorem stepV3 (level : Int) (v acc : List S28) (i j : Int) : stepV level v ⟨3, i, j, ⟨0, 0⟩⟩ acc = xorE (rd_T28 acc i) (rd_T28 acc j) := by simp [stepV]
theorem stepV4 (level : Int) (v acc : List S28) (i j : Int) : stepV level v ⟨4, i, j, ⟨0, 0⟩⟩ acc = MulS level (rd_T28 acc i) (rd_T28 acc j) := by simp [stepV]
theorem lastE_snoc (l : List S28) (x : S28) : lastE (l ++ [x]) = x := by
 unfold lastE
 simp
theorem rd_last {P l : List S28} (h : 0 < l.length) : rd_T28 (P ++ l) (((P.length + l.length : Nat) : Int) - 1) = lastE l := by
 rw [show ((P.length + l.length : Nat) : Int) - 1 = ((l.length - 1 : Nat) : Int) + (P.length : Int) by omega, rd_app_right (by omega)]
 unfold rd_T28 lastE
 simp
def mixV (level : Int) (a : S28) : List S28 → S28 → S28 → S28
 | [], _, S => S
 | x :: r, b, S => mixV level a r (MulS level b a) (xorE S (MulS level (MulS level b a) x))
def mixV0 (level : Int) (a : S28) : List S28 → S28
 | [] => ⟨0, 0⟩
 | x :: r => mixV level a r ⟨0, 1⟩ x
theorem rd_end (l : List S28) (x : S28) : rd_T28 (l ++ [x]) (l.length : Int) = x := by
 have := rd_app_right (l := l) (r := [x]) (i := 0) (by omega)
 rw [Int.zero_add] at this
 rw [this]
 rfl
theorem evs_mixF {level : Int} {v : List S28} {w a : S28} : ∀ (r : List (List S149)) (acc : List S28) (sum : Int) (b S : S28), (∀ c ∈ r, 0 < c.length ∧ c.length ≤ 200 ∧ StepsOK level v.length 0 c) → acc.length + 300 * r.length ≤ 90000 → 0 ≤ sum → sum < acc.length → rd_T28 acc sum = S →
  lastE (evs level (v ++ [w]) (mixT level v.length a false r acc.length sum b) acc) = MulS level w (mixV level a (r.map fun c => evalS level c v) b S)
 | [], acc, sum, b, S, hr, hl, h0, h1, hS => by
  rw [mixT, evs, evs, evs, lastE_snoc]
  have e1 : stepV level (v ++ [w]) ⟨2, (v.length : Int), 0, ⟨0, 0⟩⟩ acc = w := by
   rw [stepV2]
   exact rd_end v w
  rw [e1, stepV4, rd_end, rd_app_left h0 h1, hS]
  rfl
 | c :: r, acc, sum, b, S, hr, hl, h0, h1, hS => by
  obtain ⟨c0, c1, c2⟩ := hr c List.mem_cons_self
  simp only [List.length_cons] at hl
  rw [mixT, evs_append, evs_append]
  have e0 : evs level (v ++ [w]) (c.map (shiftS acc.length)) acc = acc ++ evs level v c [] := by
   have := evs_shift (w := w) (P := acc) c [] c2 (by simp; omega)
   simpa using this
  rw [e0]
  have hcl : (evs level v c []).length = c.length := by rw [evs_len]; simp
  have hel : (acc ++ evs level v c []).length = acc.length + c.length := by rw [List.length_append, hcl]
  have hlast : rd_T28 (acc ++ evs level v c []) (((acc.length + c.length : Nat) : Int) - 1) = evalS level c v := by
   have := rd_last (P := acc) (l := evs level v c []) (by omega)
   rw [hcl] at this
   exact this
  obtain ⟨A, hA⟩ : ∃ A, A = acc ++ evs level v c [] := ⟨_, rfl⟩
  rw [← hA] at hlast hel ⊢
  have hS2 : rd_T28 A sum = S := by rw [hA, rd_app_left h0 h1, hS]
  rw [evs, evs, evs, evs]
  obtain ⟨b', hb'⟩ : ∃ b', b' = MulS level b a := ⟨_, rfl⟩
  rw [← hb']
  have e1 : stepV level (v ++ [w]) ⟨1, 0, 0, b'⟩ A = b' := stepV1 _ _ _ _
  rw [e1]
  have e2 : stepV level (v ++ [w]) ⟨4, ((acc.length + c.length : Nat) : Int), ((acc.length + c.length : Nat) : Int) - 1, ⟨0, 0⟩⟩ (A ++ [b']) = MulS level b' (evalS level c v) := by
   rw [stepV4, ← hel, rd_end, rd_app_left (by omega) (by omega), hel, hlast]
  rw [e2]
  obtain ⟨m, hm⟩ : ∃ m, m = MulS level b' (evalS level c v) := ⟨_, rfl⟩
  rw [← hm]
  have e3 : stepV level (v ++ [w]) ⟨3, sum, ((acc.length + c.length : Nat) : Int) + 1, ⟨0, 0⟩⟩ (A ++ [b'] ++ [m]) = xorE S m := by
   rw [stepV3]
   have hl2 : (A ++ [b']).length = acc.length + c.length + 1 := by simp [hel]
   rw [rd_app_left h0 (by rw [hl2]; omega), rd_app_left h0 (by rw [hel]; omega), hS2]
   have := rd_end (A ++ [b']) m
   rw [hl2] at this
   rw [show ((acc.length + c.length : Nat) : Int) + 1 = ((acc.length + c.length + 1 : Nat) : Int) by omega, this]
  rw [e3]
  obtain ⟨B, hB⟩ : ∃ B, B = A ++ [b'] ++ [m] := ⟨_, rfl⟩
  rw [← hB]
  have hBl : B.length = acc.length + c.length + 2 := by rw [hB]; simp [hel]
  have IH := evs_mixF (v := v) (w := w) (a := a) r (B ++ [xorE S m]) (((acc.length + c.length : Nat) : Int) + 2) b' (xorE S m) (fun x hx => hr x (List.mem_cons_of_mem _ hx)) (by simp [hBl]; omega) (by omega) (by simp [hBl]; omega) (by
   have := rd_end B (xorE S m)
   rw [hBl] at this
   rw [show ((acc.length + c.length : Nat) : Int) + 2 = ((acc.length + c.length + 2 : Nat) : Int) by omega, this])
  rw [show (B ++ [xorE S m]).length = acc.length + c.length + 3 by simp [hBl]] at IH
  rw [List.map_cons, mixV, ← hb', ← hm]
  exact IH
theorem eval_mix {level : Int} {v : List S28} {w a : S28} (conds : List (List S149)) (hc : conds.length ≤ 40) (h0 : 0 < conds.length) (h : ∀ c ∈ conds, chkS level v.length c = 0) :
  evalS level (mixS level v.length conds a) (v ++ [w]) = MulS level w (mixV0 level a (conds.map fun c => evalS level c v)) := by
 obtain ⟨c, r, rfl⟩ := List.exists_cons_of_length_pos h0
 obtain ⟨_, _, _, c0, c1, c2⟩ := chk_ok (h c List.mem_cons_self)
 unfold evalS mixS
 rw [mixT, evs_append]
 have e0 : evs level (v ++ [w]) (c.map (shiftS 0)) [] = evs level v c [] := by
  have := evs_shift (w := w) (P := []) c [] c2 (by simp; omega)
  simpa using this
 rw [e0]
 have hcl : (evs level v c []).length = c.length := by rw [evs_len]; simp
 have hlast : rd_T28 (evs level v c []) (((0 + c.length : Nat) : Int) - 1) = evalS level c v := by
  have := rd_last (P := []) (l := evs level v c []) (by omega)
  rw [hcl] at this
  exact this
 have := evs_mixF (v := v) (w := w) (a := a) r (evs level v c []) (((0 + c.length : Nat) : Int) - 1) ⟨0, 1⟩ (evalS level c v) (fun x hx => by
  obtain ⟨_, _, _, x0, x1, x2⟩ := chk_ok (h x (List.mem_cons_of_mem _ hx))
  exact ⟨x0, x1, x2⟩) (by simp at hc; rw [hcl]; omega) (by omega) (by rw [hcl]; omega) hlast
 rw [hcl] at this
 rw [Nat.zero_add] at this ⊢
 exact this
theorem awake21_ev : Ev steeplelaw21_awake.f true := by
 show Ev (fun k => steeplelaw21_awake.f k) true
 simp only [steeplelaw21_awake.f, Option.bind_some]
 refine Ev.bind (Holds_ev 1 _ _ (by decide)) (Ev.bind (Holds_ev 1 _ _ (by decide)) (Ev.bind (SumZ_ev 1 _ _ ⟨0, 0⟩ _ (by decide)) (Ev.const ?_)))
 decide +kernel
theorem few09_l0 (m : Int) : ∀ (r pre : List (List S28)), (pre ++ r).length ≤ 1000 → Ev (fun k => steeplelaw09_Few.l0 k (pre ++ r) m (pre.length : Int)) (r.all fun t => decide ((t.length : Int) ≤ m))
 | [], pre, hl => by
  refine Ev.succ ?_
  simp only [steeplelaw09_Few.l0]
  exact Ev.neg (ge_part pre) (Ev.pure _)
 | t :: r, pre, hl => by
  have IH := few09_l0 m r (pre ++ [t]) (by simpa using hl)
  have hlen : pre.length < 1000 := by simp at hl; omega
  rw [show (pre ++ [t]) ++ r = pre ++ t :: r by simp, show (pre ++ [t]).length = pre.length + 1 by simp] at IH
  refine Ev.succ ?_
  simp only [steeplelaw09_Few.l0]
  refine Ev.pos (lt_part pre t r) (Ev.pos (by omega) ?_)
  have e : rd_L11 (pre ++ t :: r) (pre.length : Int) = t := getD_part pre t _ r
  rw [e, w64_succ (by omega), List.all_cons]
  by_cases h : (t.length : Int) ≤ m
  ·exact Ev.neg (by omega) (Ev.congr IH (by simp [h]))
  ·exact Ev.pos (by omega) (Ev.congr (Ev.pure _) (by simp [h]))
def few09 (ts : List (List S28)) (a m : Int) : Bool := if (ts.length : Int) > a then false else ts.all fun t => decide ((t.length : Int) ≤ m)
theorem few09_ev (ts : List (List S28)) (a m : Int) (ha : a ≤ 1000) : Ev (fun k => steeplelaw09_Few.f k ts a m) (few09 ts a m) := by
 simp only [steeplelaw09_Few.f]
 unfold few09
 by_cases h : (ts.length : Int) > a
 ·exact Ev.congr (Ev.pos h (Ev.pure _)) (by rw [if_pos h])
 ·exact Ev.congr (Ev.neg h (few09_l0 m ts [] (by simp; omega))) (by rw [if_neg h])
theorem few21_l0 (conds : List (List S149)) (ts : List (List S28)) (hc : conds.length ≤ 50) : ∀ (r pre : List (List S149)), conds = pre ++ r → Ev (fun k => steeplelaw21_Few.l0 k (pre.length : Int) conds ts) ((r.all fun t => decide ((t.length : Int) ≤ 12)) && (decide (conds.length ≤ 6) || decide (40 < conds.length)))
 | [], pre, hp => by
  refine Ev.succ ?_
  simp only [steeplelaw21_Few.l0]
  refine Ev.neg (by rw [hp]; exact ge_part pre) ?_
  by_cases h : (conds.length : Int) ≤ 6
  ·exact Ev.congr (Ev.pos h (Ev.pure _)) (by simp; omega)
  ·refine Ev.congr (Ev.neg h (Ev.pure _)) ?_
   rw [List.all_nil, Bool.true_and, show decide (conds.length ≤ 6) = false from decide_eq_false (by omega), Bool.false_or]
   exact decide_eq_decide.2 (by omega)
 | t :: r, pre, hp => by
  have IH := few21_l0 conds ts hc r (pre ++ [t]) (by simpa using hp)
  have lt : (pre.length : Int) < (conds.length : Int) := by rw [hp]; exact lt_part pre t r
  have e : rd_L13 conds (pre.length : Int) = t := by rw [hp]; exact getD_part pre t _ r
  rw [show (pre ++ [t]).length = pre.length + 1 by simp] at IH
  refine Ev.succ ?_
  simp only [steeplelaw21_Few.l0]
  refine Ev.pos lt (Ev.pos (by omega) ?_)
  rw [e, w64_succ (by omega), List.all_cons]
  by_cases h : (t.length : Int) ≤ 12
  ·exact Ev.neg (by omega) (Ev.congr IH (by simp [h]))
  ·exact Ev.pos (by omega) (Ev.congr (Ev.pure _) (by simp [h]))
def few21 (conds : List (List S149)) (ts : List (List S28)) : Bool := if (conds.length : Int) > 50 then false else few09 ts 5 16 && ((conds.all fun t => decide ((t.length : Int) ≤ 12)) && (decide (conds.length ≤ 6) || decide (40 < conds.length)))
theorem few21_ev (conds : List (List S149)) (ts : List (List S28)) : Ev (fun k => steeplelaw21_Few.f k conds ts) (few21 conds ts) := by
 simp only [steeplelaw21_Few.f]
 unfold few21
 by_cases h : (conds.length : Int) > 50
 ·refine Ev.congr (Ev.pos h (Ev.succ ?_)) (by rw [if_pos h])
  simp only [steeplelaw21_Few.j0]
  exact Ev.pos trivial (Ev.pure _)
 ·rw [if_neg h]
  refine Ev.neg h (Ev.bind (few09_ev ts 5 16 (by omega)) (Ev.succ ?_))
  simp only [steeplelaw21_Few.j0]
  cases hf : few09 ts 5 16 with
  | true =>
   refine Ev.neg (by simp) ?_
   have := few21_l0 conds ts (by omega) conds [] rfl
   rw [Bool.true_and]
   exact this
  | false => exact Ev.congr (Ev.pos rfl (Ev.pure _)) (by simp)
theorem few21_ok {conds : List (List S149)} {ts : List (List S28)} (h : few21 conds ts = true) : ts.length ≤ 5 := by
 unfold few21 at h
 by_cases h1 : (conds.length : Int) > 50
 ·rw [if_pos h1] at h; cases h
 ·rw [if_neg h1] at h
  simp only [Bool.and_eq_true] at h
  have h2 := h.1
  unfold few09 at h2
  by_cases h3 : (ts.length : Int) > 5
  ·rw [if_pos h3] at h2; cases h2
  ·omega
theorem xor00 : xorE ⟨0, 0⟩ ⟨0, 0⟩ = ⟨0, 0⟩ := by
 unfold xorE
 rw [show Go.bits .xor .u64 0 0 = 0 from by decide +kernel]
theorem mixV_zero (level : Int) (a : S28) : ∀ (l : List S28) (b : S28), (∀ x ∈ l, x = ⟨0, 0⟩) → mixV level a l b ⟨0, 0⟩ = ⟨0, 0⟩
 | [], b, h => rfl
 | x :: r, b, h => by
  rw [mixV, h x List.mem_cons_self, MulS_zero_r]
  rw [xor00]
  exact mixV_zero level a r _ (fun y hy => h y (List.mem_cons_of_mem _ hy))
theorem colS_snoc (ts : List (List S28)) (ws : List S28) (i : Int) : colS (ts ++ [ws]) i = colS ts i ++ [rd_T28 ws i] := by simp [colS]
theorem col_all {level : Int} {N : Nat} {ts : List (List S28)} (h : TablesOK level N ts) {i : Nat} (hi : i < N) : (colS ts (i : Int)).all (ofE level) = true := by
 rw [List.all_eq_true]
 intro x hx
 obtain ⟨t, ht, rfl⟩ := List.mem_map.1 hx
 obtain ⟨h1, h2⟩ := h.2 t ht
 rw [List.all_eq_true] at h2
 refine h2 _ ?_
 unfold rd_T28
 rw [List.getD_eq_getElem?_getD, List.getElem?_eq_getElem (by simp; omega)]
 exact List.getElem_mem _
end Go.Proofs.Ytoaepfgfbfgcdaa.Q
namespace Go.Proofs.Ytoaepfgfbfgcdaa.Q
open Go.RowKit Go.Proofs.YtoaepfgfbfgcdaaW.PrintWords Go.Proofs.YtoaepfgfbfgcdaaW.PrintLast Go.Proofs.YtoaepfgfbfgcdaaW.PrintMore
attribute [local go_sem] max2_int min2_int max_two min_two max_three min_three max_four min_four
set_option linter.unusedVariables false
set_option linter.unusedSimpArgs false
def api_Elem_93.f (l0 : List (S28)) : Option ((List (S28))) := if l0.length * 16 ≤ 140737488355328 then some l0 else none
set_option maxHeartbeats 8000000 in
set_option maxRecDepth 100000 in
theorem api_Elem_93.calls (A0 : Option Addr) (c0 : Nat) (l0 : List (S28)) (r : List (S28)) (w : World) (hr0 : Kd.C k28 w A0 l0.length l0) (hc0 : l0.length ≤ c0) (h : api_Elem_93.f l0 = some r) :
  Calls Try.prog 93 #[.slice A0 l0.length c0] w fun e w' => ∃ v0_ : Value, e = .returned (v0_) ∧ Kd.R k28 28 w' w.heap.size (fun _ => True) v0_ r ∧ Below w.heap.size w w' := by
 unfold api_Elem_93.f at h
 by_cases hb : l0.length * 16 ≤ 140737488355328
 ·rw [if_pos hb] at h
  obtain rfl := Option.some.inj h
  clear h
  have hsz : l0.length ≤ 9223372036854775807 := hr0.2.1
  cases A0 with
  | none =>
   have hl : l0.length = 0 := by
    rcases Nat.eq_zero_or_pos l0.length with h | h
    ·exact h
    ·obtain ⟨ad, e, _⟩ := hr0.2.2 h
     cases e
   obtain rfl := List.eq_nil_of_length_eq_zero hl
   clear hl hb hr0
   have he : ∀ W, (binOp .eql 53 (.slice none 0 c0) (.slice none 0 0)).run Try.prog W = .ok (.bool true) W := fun W => Lib.run_eql_slice_nil (P := Try.prog) W 53 28 none 0 c0 0 0 Try.underlying53
   go_enter Try.func93, Try.ntmps93
   go_wp2
   go_ret
   exact ⟨_, rfl, Kd.R_nil _ _ _ _ _, Below.refl _ _⟩
  | some ad =>
   have he : ∀ W, (binOp .eql 53 (.slice (some ad) l0.length c0) (.slice none 0 0)).run Try.prog W = .ok (.bool false) W := fun W => Lib.run_eql_slice_nil (P := Try.prog) W 53 28 (some ad) l0.length c0 0 0 Try.underlying53
   have HR := Aside0.mk hr0
   have HL := Aside0.mk hb
   clear hr0 hb
   go_enter Try.func93, Try.ntmps93
   go_wp2_with (first | ((with_reducible refine gate_dst (N := 5) rfl ?_); refine Kd.R_lit k28 _ 28 ?hg (N := 5) ?hd (xs := ([] : List S28)) (inner := []) (ok := fun _ => True) (okp := fun _ => True) ?hr ?hp (fun _ hk => hk) trivial (Below.refl _ _) (Nat.le_refl _) (by simp) ?_; (case hd => rfl); (case hg => rfl); (case hr => first | (go_simp; done) | (go_simp; rfl)); (case hp => exact Reps.none _ _); intro v1 w1 ho1 hb1 hg_ hnew_; clear hg_ hnew_; have HO := Aside0.mk ho1; have HB := Aside0.mk hb1; have HR1 := Aside0.mk (Kd.C_below HR.out hb1); clear ho1 hb1) | ((with_reducible refine gate_builtin (b := .append) (xs := #[.tmp 5, .tmp 6]) rfl ?_); at_builtin; refine Kd.R_append_rows k28 (w0 := w) w.heap.size rfl (.tmp 5) (.tmp 6) 53 28 (.agg #[(.int .u64 0), (.int .u64 0)]) 16 rfl Try.underlying53 info28 rfl (by decide) (by omega) v1 ([] : List S28) l0 _ _ _ (fun _ => True) (fun _ => False) rfl rfl HO.out HR1.out ?aK (fun _ h => h.elim) (fun _ _ => trivial) HB.out HB.out.size ?aL ?_; (case aK => (intro x cs h; obtain rfl := k28_open h; exact k28_mkM _ _ _ x)); (case aL => (have := HL.out; simp; omega)); intro v2 w2 ho2 hb2 hg_ hnew_; clear hg_ hnew_; have HO2 := Aside0.mk ho2; have HB2 := Aside0.mk hb2; clear ho2 hb2))
   go_ret
   exact ⟨_, rfl, HO2.out, HB2.out⟩
 ·rw [if_neg hb] at h
  cases h
def zero_Value.f (k : Nat) (a0 : Int) (l1 : List (List (S149))) (l2 : List (S28)) (a3_0 : Int) (a3_1 : Int) (a4_0 : Int) (a4_1 : Int) : Option (Int × Int × Int) := (zero_Mix.f k a0 (l2.length : Int) l1 a3_0 a3_1).bind fun bt870 => (if bt870.2 = 0 then ((api_Elem_93.f l2).bind fun t874 => ((some (([(⟨a4_0, a4_1⟩ : S28)] : List (S28)) : List (S28))).bind fun y877 => (if t874.length + y877.length < 8796093022208 then ((expr_Eval.f k a0 bt870.1 (t874 ++ y877)).bind fun bt883 => (some (bt883.1, bt883.2.1, bt883.2.2))) else (none)))) else (some (0, 0, bt870.2)))
def zero_Value.T4 : Bool × List (List Nat × List Nat) := (true, [([], []), ([], []), ([], []), ([2], [2]), ([], []), ([4], [4]), ([3, 5, 3], [3, 5]), ([0, 1, 6, 6], [0, 1, 6]), ([7], [7]), ([7], [7]), ([8, 7, 0, 1, 2, 3, 4, 5, 6, 7, 8, 9], [8]), ([9, 10, 0, 1, 2, 3, 4, 5, 6, 7, 8, 9, 10], [9])])
def zero_Value.B4 : List Nat := [0, 0, 0, 4, 0, 16, 60, 127, 255, 255, 1023, 2047]
theorem zero_Value.tab4 : rtab .any (opsOf Try.f40 4) = zero_Value.T4 := by kernel_rfl
theorem zero_Value.bits4 : waitsOk zero_Value.T4.2 zero_Value.B4 = true := by kernel_rfl
set_option maxHeartbeats 8000000 in
set_option maxRecDepth 100000 in
theorem zero_Value.calls (k : Nat) (a0 : Int) (A1 : Option Addr) (c1 : Nat) (l1 : List (List (S149))) (A2 : Option Addr) (c2 : Nat) (l2 : List (S28)) (a3_0 : Int) (a3_1 : Int) (a4_0 : Int) (a4_1 : Int) (r1 : Int) (r2 : Int) (r3 : Int) (w : World) (hr1 : Kd.C (Kd.slice 149 k149) w A1 l1.length l1) (hc1 : l1.length ≤ c1) (hr2 : Kd.C k28 w A2 l2.length l2) (hc2 : l2.length ≤ c2) (h : zero_Value.f k a0 l1 l2 a3_0 a3_1 a4_0 a4_1 = some (r1, r2, r3)) :
  Calls Try.prog 40 #[.int .i64 a0, .slice A1 l1.length c1, .slice A2 l2.length c2, .agg #[.int .u64 a3_0, .int .u64 a3_1], .agg #[.int .u64 a4_0, .int .u64 a4_1]] w fun e w' => e = .returned (.tuple #[.agg #[.int .u64 r1, .int .u64 r2], .int .i64 r3]) ∧ Below w.heap.size w w' := by
 have hu28 := Try.underlying28
 have HR1 := Aside0.mk hr1
 have HC1 := Aside0.mk hc1
 clear hr1 hc1
 have HR2 := Aside0.mk hr2
 have HC2 := Aside0.mk hc2
 clear hr2 hc2
 have HB := Aside0.mk (Below.refl w.heap.size w)
 have H : ((zero_Mix.f k a0 (l2.length : Int) l1 a3_0 a3_1).bind fun bt870 => (if bt870.2 = 0 then ((api_Elem_93.f l2).bind fun t874 => ((some (([(⟨a4_0, a4_1⟩ : S28)] : List (S28)) : List (S28))).bind fun y877 => (if t874.length + y877.length < 8796093022208 then ((expr_Eval.f k a0 bt870.1 (t874 ++ y877)).bind fun bt883 => (some (bt883.1, bt883.2.1, bt883.2.2))) else (none)))) else (some (0, 0, bt870.2)))) = some (r1, r2, r3) := h
 clear h
 replace H := Option.bind_eq_some_iff.mp H
 obtain ⟨⟨t870, t873⟩, A60, H⟩ := H
 replace H : (if t873 = 0 then ((api_Elem_93.f l2).bind fun t874 => ((some (([(⟨a4_0, a4_1⟩ : S28)] : List (S28)) : List (S28))).bind fun y877 => (if t874.length + y877.length < 8796093022208 then ((expr_Eval.f k a0 t870 (t874 ++ y877)).bind fun bt883 => (some (bt883.1, bt883.2.1, bt883.2.2))) else (none)))) else (some (0, 0, t873))) = some (r1, r2, r3) := H
 have A6 := Aside0.mk A60
 clear A60
 by_cases c7 : t873 = 0
 ·rw [if_pos c7] at H
  have c7b0 : (t873 == 0) = true := beq_iff_eq.mpr c7
  have c7b1 : (t873 != 0) = false := bne_eq_false_iff_eq.mpr c7
  clear c7
  replace H := Option.bind_eq_some_iff.mp H
  obtain ⟨t874, A80, H⟩ := H
  replace H : ((some (([(⟨a4_0, a4_1⟩ : S28)] : List (S28)) : List (S28))).bind fun y877 => (if t874.length + y877.length < 8796093022208 then ((expr_Eval.f k a0 t870 (t874 ++ y877)).bind fun bt883 => (some (bt883.1, bt883.2.1, bt883.2.2))) else (none))) = some (r1, r2, r3) := H
  have A8 := Aside0.mk A80
  clear A80
  obtain ⟨y877, hy877⟩ : ∃ y_ : List (S28), y_ = (([(⟨a4_0, a4_1⟩ : S28)] : List (S28))) := ⟨_, rfl⟩
  replace H : (if t874.length + y877.length < 8796093022208 then ((expr_Eval.f k a0 t870 (t874 ++ y877)).bind fun bt883 => (some (bt883.1, bt883.2.1, bt883.2.2))) else (none)) = some (r1, r2, r3) := by first | (rw [hy877]; with_reducible exact H) | (have H2_ := (Option.bind_some _ _).symm.trans H; rw [hy877]; with_reducible exact H2_) | (have H2_ := (Option.bind_some _ _).symm.trans H; with_reducible exact H2_) | with_reducible exact H | (rw [hy877]; exact H) | exact H
  have Ny877 := Aside0.mk hy877
  clear hy877
  by_cases c9 : t874.length + y877.length < 8796093022208
  ·rw [if_pos c9] at H
   have LMc9 := Aside0.mk c9
   clear c9
   obtain ⟨y880, hy880⟩ : ∃ y_ : List (S28), y_ = (t874 ++ y877) := ⟨_, rfl⟩
   replace H : ((expr_Eval.f k a0 t870 y880).bind fun bt883 => (some (bt883.1, bt883.2.1, bt883.2.2))) = some (r1, r2, r3) := by first | (rw [hy880]; with_reducible exact H) | (have H2_ := (Option.bind_some _ _).symm.trans H; rw [hy880]; with_reducible exact H2_) | (have H2_ := (Option.bind_some _ _).symm.trans H; with_reducible exact H2_) | with_reducible exact H | (rw [hy880]; exact H) | exact H
   have Ny880 := Aside0.mk hy880
   clear hy880
   replace H := Option.bind_eq_some_iff.mp H
   obtain ⟨⟨t883, t884, t885⟩, A100, H⟩ := H
   replace H : (some (t883, t884, t885)) = some (r1, r2, r3) := H
   have A10 := Aside0.mk A100
   clear A100
   simp only [Option.some.injEq, Prod.mk.injEq] at H
   obtain ⟨rfl, rfl, rfl⟩ := H
   go_enter Try.func40, Try.ntmps40
   try go_wp2_with (first | ((with_reducible refine gate_dst (N := 8) rfl ?_); refine box_event ?hg (N := 8) ?hd (cs := #[.int .u64 a3_0, .int .u64 a3_1]) (t := 28) ?hr ?_; (case hd => rfl); (case hg => rfl); (case hr => first | (go_simp; done) | (go_simp; rfl)); intro gb867 hg w11 hbox hb; have n0_ := Aside0.mk (below_step (by exact lF HB.out) hb); have n1_ := Aside0.mk (hbox); have n2_ := Aside0.mk ((by rw [hg]; exact (below_size (by exact lF HB.out)) : w.heap.size ≤ gb867)); have n3_ := Aside0.mk ((by rw [hg]; exact (below_size (by exact lF HB.out)) : w.heap.size ≤ gb867)); clear HB; have HB := n0_; have BK867 := n1_; have GW867 := n2_; have GE867 := n3_; clear n0_ n1_ n2_ n3_; clear hb hbox hg) | ((with_reducible refine gate_dst (N := 9) rfl ?_); refine box_event ?hg (N := 9) ?hd (cs := #[.int .u64 a4_0, .int .u64 a4_1]) (t := 28) ?hr ?_; (case hd => rfl); (case hg => rfl); (case hr => first | (go_simp; done) | (go_simp; rfl)); intro gb868 hg w12 hbox hb; have n0_ := Aside0.mk (blk_below (g := gb867) (o := .cells #[.int .u64 a3_0, .int .u64 a3_1] 28 (0, 0)) (by exact bF BK867.out) hb); have n1_ := Aside0.mk (below_step (by repeat (first | (with_reducible first | exact HB.out | apply bA | apply bN | apply bD | refine bS ?_ GE867.out) | exact HB.out)) hb); have n2_ := Aside0.mk (hbox); have n3_ := Aside0.mk ((by rw [hg]; exact (below_size (by repeat (first | (with_reducible first | exact HB.out | apply bA | apply bN | apply bD | refine bS ?_ GE867.out) | exact HB.out))) : w.heap.size ≤ gb868)); have n4_ := Aside0.mk ((by rw [hg]; exact (below_size (by repeat (first | (with_reducible first | exact HB.out | apply bA | apply bN | apply bD | refine bS ?_ GE867.out) | exact HB.out))) : w.heap.size ≤ gb868)); have n5_ := Aside0.mk ((by rw [hg]; exact Nat.ne_of_lt (blk_lt (g := gb867) (o := .cells #[.int .u64 a3_0, .int .u64 a3_1] 28 (0, 0)) (by exact bF BK867.out)) : gb867 ≠ gb868)); have n6_ := Aside0.mk ((by rw [hg]; exact Nat.ne_of_gt (blk_lt (g := gb867) (o := .cells #[.int .u64 a3_0, .int .u64 a3_1] 28 (0, 0)) (by exact bF BK867.out)) : gb868 ≠ gb867)); clear BK867; clear HB; have BK867 := n0_; have HB := n1_; have BK868 := n2_; have GW868 := n3_; have GE868 := n4_; have NB867_868 := n5_; have NB868_867 := n6_; clear n0_ n1_ n2_ n3_ n4_ n5_ n6_; clear hb hbox hg) | ((with_reducible refine gate_dst (N := 10) rfl ?_); refine box_event ?hg (N := 10) ?hd (cs := #[.int .u64 0, .int .u64 0]) (t := 28) ?hr ?_; (case hd => rfl); (case hg => rfl); (case hr => first | (go_simp; done) | (go_simp; rfl)); intro gb869 hg w13 hbox hb; have n0_ := Aside0.mk (blk_below (g := gb867) (o := .cells #[.int .u64 a3_0, .int .u64 a3_1] 28 (0, 0)) (by exact bF BK867.out) hb); have n1_ := Aside0.mk (blk_below (g := gb868) (o := .cells #[.int .u64 a4_0, .int .u64 a4_1] 28 (0, 0)) (by exact bF BK868.out) hb); have n2_ := Aside0.mk (below_step (by repeat (first | (with_reducible first | exact HB.out | apply bA | apply bN | apply bD | refine bS ?_ GE867.out | refine bS ?_ GE868.out) | exact HB.out)) hb); have n3_ := Aside0.mk (hbox); have n4_ := Aside0.mk ((by rw [hg]; exact (below_size (by repeat (first | (with_reducible first | exact HB.out | apply bA | apply bN | apply bD | refine bS ?_ GE867.out | refine bS ?_ GE868.out) | exact HB.out))) : w.heap.size ≤ gb869)); have n5_ := Aside0.mk ((by rw [hg]; exact (below_size (by repeat (first | (with_reducible first | exact HB.out | apply bA | apply bN | apply bD | refine bS ?_ GE867.out | refine bS ?_ GE868.out) | exact HB.out))) : w.heap.size ≤ gb869)); have n6_ := Aside0.mk ((by rw [hg]; exact Nat.ne_of_lt (blk_lt (g := gb867) (o := .cells #[.int .u64 a3_0, .int .u64 a3_1] 28 (0, 0)) (by exact bF BK867.out)) : gb867 ≠ gb869)); have n7_ := Aside0.mk ((by rw [hg]; exact Nat.ne_of_gt (blk_lt (g := gb867) (o := .cells #[.int .u64 a3_0, .int .u64 a3_1] 28 (0, 0)) (by exact bF BK867.out)) : gb869 ≠ gb867)); have n8_ := Aside0.mk ((by rw [hg]; exact Nat.ne_of_lt (blk_lt (g := gb868) (o := .cells #[.int .u64 a4_0, .int .u64 a4_1] 28 (0, 0)) (by exact bF BK868.out)) : gb868 ≠ gb869)); have n9_ := Aside0.mk ((by rw [hg]; exact Nat.ne_of_gt (blk_lt (g := gb868) (o := .cells #[.int .u64 a4_0, .int .u64 a4_1] 28 (0, 0)) (by exact bF BK868.out)) : gb869 ≠ gb868)); clear BK867; clear BK868; clear HB; have BK867 := n0_; have BK868 := n1_; have HB := n2_; have BK869 := n3_; have GW869 := n4_; have GE869 := n5_; have NB867_869 := n6_; have NB869_867 := n7_; have NB868_869 := n8_; have NB869_868 := n9_; clear n0_ n1_ n2_ n3_ n4_ n5_ n6_ n7_ n8_ n9_; clear hb hbox hg; have hnb14 := NB867_868.out; have hnc14 := NB868_867.out; have hnb15 := NB867_869.out; have hnc15 := NB869_867.out; have hcz16_0 : w13.cell? ⟨gb867, 0, none⟩ = some (.int .u64 a3_0) := (blk_cell BK867.out 0).trans rfl; have hcz16_1 : w13.cell? ⟨gb867, 1, none⟩ = some (.int .u64 a3_1) := (blk_cell BK867.out 1).trans rfl; have hfz16_0 := blk_frozen BK867.out 0; have hfz16_1 := blk_frozen BK867.out 1) | ((with_reducible refine gate_callee (f := 39) rfl ?_); refine goesL_ (some 20) rfl rfl Try.func39 (by kernel_rfl) rfl #[.int .i64 a0, .int .i64 (l2.length : Int), .slice A1 l1.length c1, .agg #[.int .u64 a3_0, .int .u64 a3_1]] rfl (by (try simp only [List.map_toArray, List.map_cons, List.map_nil]); first | done | rfl | (simp only [List.length_drop, List.length_take]; rfl)) ?_; (with_reducible refine (zero_Mix.calls k a0 (l2.length : Int) _ _ l1 a3_0 a3_1 t870 t873 _ ?side1 ?side2 A6.out).mono ?_); (case side1 => repeat (first | exact (Kd.C_below HR1.out HB.out) | (with_reducible refine Kd.C_alloc ?_ _) | (with_reducible refine Kd.C_drewN ?_ _) | (with_reducible refine Kd.C_drew ?_))); (case side2 => exact HC1.out); rintro e w17 ⟨v871, rfl, ho0, hb⟩; refine ⟨_, rfl, ?_⟩; have n0_ := Aside0.mk (Kd.R_lower ho0 (below_size (by repeat (first | (with_reducible first | exact HB.out | apply bA | apply bN | apply bD | refine bS ?_ GE867.out | refine bS ?_ GE868.out | refine bS ?_ GE869.out) | exact HB.out)))); have n1_ := Aside0.mk (blk_below (g := gb867) (o := .cells #[.int .u64 a3_0, .int .u64 a3_1] 28 (0, 0)) (by exact bF BK867.out) hb); have n2_ := Aside0.mk (blk_below (g := gb868) (o := .cells #[.int .u64 a4_0, .int .u64 a4_1] 28 (0, 0)) (by exact bF BK868.out) hb); have n3_ := Aside0.mk (blk_below (g := gb869) (o := .cells #[.int .u64 0, .int .u64 0] 28 (0, 0)) (by exact bF BK869.out) hb); have n4_ := Aside0.mk (below_step (by repeat (first | (with_reducible first | exact HB.out | apply bA | apply bN | apply bD | refine bS ?_ GE867.out | refine bS ?_ GE868.out | refine bS ?_ GE869.out) | exact HB.out)) hb); clear BK867; clear BK868; clear BK869; clear HB; have HO872 := n0_; have BK867 := n1_; have BK868 := n2_; have BK869 := n3_; have HB := n4_; clear n0_ n1_ n2_ n3_ n4_; (try clear hb); (try clear hb2); (try clear hk); (try clear hi); (try clear ho0); obtain ⟨Ao18, co18, eo18⟩ := Kd.R_slice HO872.out; subst eo18))
   have n0_ := Aside0.mk (Kd.R_drew HO872.out)
   have n1_ := Aside0.mk (blk_drew BK867.out)
   have n2_ := Aside0.mk (blk_drew BK868.out)
   have n3_ := Aside0.mk (blk_drew BK869.out)
   have n4_ := Aside0.mk (below_drew1 HB.out)
   clear HO872
   clear BK867
   clear BK868
   clear BK869
   clear HB
   have HO872 := n0_
   have BK867 := n1_
   have BK868 := n2_
   have BK869 := n3_
   have HB := n4_
   clear n0_ n1_ n2_ n3_ n4_
   refine start_ (n := 12) (S := fun w' => w'.cell? ⟨gb868, 0, none⟩ = some (.int .u64 a4_0) ∧ w'.cell? ⟨gb868, 1, none⟩ = some (.int .u64 a4_1)) (ds := []) #[false, false, false, false, false, false, false, false, false, false, false, false] (by kernel_rfl) rfl rfl ⟨(blk_cell BK868.out 0).trans rfl, (blk_cell BK868.out 1).trans rfl⟩ (fun hHeld => ?_); refine with_tabW zero_Value.tab4 zero_Value.bits4 (fun HT_ HW_ => ?_)
   generalize w17.drew = w19 at HO872 BK867 BK868 BK869 HB hHeld ⊢
   refine pure_ (i := 0) (N := some 27) (v := ?_) (a' := ?_) #[true, false, false, false, false, false, false, false, false, false, false, false] rfl rfl (any_of HT_.out (by kernel_rfl)) (fun _ _ _ h => h) (Or.inl ⟨by rfl, ?_⟩) ?_ ?_
   rotate_left
   ·intro w'
    go_simp
    with_reducible rfl
   rotate_left
   ·simp only [Act.put, List.setIfInBounds_toArray, List.set_cons_zero, List.set_cons_succ, i64_w, i32_w]
    rfl
   refine pure_ (i := 1) (N := some 28) (v := ?_) (a' := ?_) #[true, true, false, false, false, false, false, false, false, false, false, false] rfl rfl (any_of HT_.out (by kernel_rfl)) (fun _ _ _ h => h) (Or.inl ⟨by rfl, ?_⟩) ?_ ?_
   rotate_left
   ·intro w'
    go_simp
    with_reducible rfl
   rotate_left
   ·simp only [Act.put, List.setIfInBounds_toArray, List.set_cons_zero, List.set_cons_succ, i64_w, i32_w]
    rfl
   refine pure_ (i := 2) (N := some 29) (v := ?_) (a' := ?_) #[true, true, true, false, false, false, false, false, false, false, false, false] rfl rfl (any_of HT_.out (by kernel_rfl)) (fun _ _ _ h => h) (Or.inl ⟨by rfl, ?_⟩) ?_ ?_
   rotate_left
   ·intro w'
    go_simp
    with_reducible rfl
   rotate_left
   ·simp only [Act.put, List.setIfInBounds_toArray, List.set_cons_zero, List.set_cons_succ, i64_w, i32_w]
    rfl
   refine take_ (i := 4) (N := some 31) (v := ?_) (a' := ?_) #[true, true, true, false, true, false, false, false, false, false, false, false] rfl rfl (take_ofW HT_.out HW_.out (by kernel_rfl)) (fun _ _ _ h => h) (Or.inl ⟨by rfl, ?_⟩) hHeld ?_ ?_
   rotate_left
   ·rintro w' ⟨s0, s1⟩
    go_simp
    with_reducible rfl
   rotate_left
   ·simp only [Act.put, List.setIfInBounds_toArray, List.set_cons_zero, List.set_cons_succ, i64_w, i32_w]
    rfl
   refine join_ (σ := Value × Value) 6 #[true, true, true, true, true, true, false, false, false, false, false, false] (fun s_ => [(30, s_.1), (32, s_.2)]) (fun s_ w' => (w'.cell? ⟨gb868, 0, none⟩ = some (.int .u64 a4_0) ∧ w'.cell? ⟨gb868, 1, none⟩ = some (.int .u64 a4_1)) ∧ (Kd.R k149 149 w' w.heap.size (fun _ => True) (.slice Ao18 t870.length co18) t870) ∧ (Kd.R k28 28 w' w.heap.size (fun k_ => some k_ ≠ (s_.2 : Value).ownBlock ∧ k_ ≠ gb867 ∧ k_ ≠ gb868 ∧ k_ ≠ gb869) s_.1 t874) ∧ (Kd.R k28 28 w' w.heap.size (fun k_ => some k_ ≠ (s_.1 : Value).ownBlock ∧ k_ ≠ gb867 ∧ k_ ≠ gb868 ∧ k_ ≠ gb869) s_.2 y877) ∧ (w'.heap[gb867]? = some (.cells #[.int .u64 a3_0, .int .u64 a3_1] 28 (0, 0))) ∧ (w'.heap[gb868]? = some (.cells #[.int .u64 a4_0, .int .u64 a4_1] 28 (0, 0))) ∧ (w'.heap[gb869]? = some (.cells #[.int .u64 0, .int .u64 0] 28 (0, 0))) ∧ (Below w.heap.size w w')) ?_ ?_
   rotate_left
   ·intro hCont
    refine two_ (i := 3) (j := 5) (Ni := some 30) (Nj := some 32) #[true, true, true, true, true, false, false, false, false, false, false, false] #[true, true, true, false, true, true, false, false, false, false, false, false] rfl rfl rfl rfl (two_of HT_.out (by kernel_rfl)) (by decide) (by decide) (fun K hK => ?_) (fun K hK => ?_)
    ·skip
     refine goes_ Try.func93 (by kernel_rfl) rfl #[.slice A2 l2.length c2] (by rfl) rfl rfl (by (try simp only [List.map_toArray, List.map_cons, List.map_nil]); first | done | rfl | (simp only [List.length_drop, List.length_take]; rfl)) ?_
     with_reducible refine (api_Elem_93.calls _ _ l2 t874 _ ?side1 ?side2 A8.out).mono ?_
     (case side1 => repeat (first | exact (Kd.C_below HR2.out HB.out) | (with_reducible refine Kd.C_alloc ?_ _) | (with_reducible refine Kd.C_drewN ?_ _) | (with_reducible refine Kd.C_drew ?_)))
     (case side2 => exact HC2.out)
     rintro e w20 ⟨v875, rfl, ho0, hb⟩
     refine ⟨_, rfl, ?_⟩
     have n0_ := Aside0.mk (Kd.R_below (by exact rF HO872.out) hb)
     have n1_ := Aside0.mk (Kd.R_lower (Kd.R_newB (Kd.R_newB (Kd.R_newB ho0 (g := gb867) (o := .cells #[.int .u64 a3_0, .int .u64 a3_1] 28 (0, 0)) (by exact bF BK867.out)) (g := gb868) (o := .cells #[.int .u64 a4_0, .int .u64 a4_1] 28 (0, 0)) (by exact bF BK868.out)) (g := gb869) (o := .cells #[.int .u64 0, .int .u64 0] 28 (0, 0)) (by exact bF BK869.out)) (below_size (by repeat (first | (with_reducible first | exact HB.out | apply bA | apply bN | apply bD | refine bS ?_ GE867.out | refine bS ?_ GE868.out | refine bS ?_ GE869.out) | exact HB.out))))
     have n2_ := Aside0.mk (blk_below (g := gb867) (o := .cells #[.int .u64 a3_0, .int .u64 a3_1] 28 (0, 0)) (by exact bF BK867.out) hb)
     have n3_ := Aside0.mk (blk_below (g := gb868) (o := .cells #[.int .u64 a4_0, .int .u64 a4_1] 28 (0, 0)) (by exact bF BK868.out) hb)
     have n4_ := Aside0.mk (blk_below (g := gb869) (o := .cells #[.int .u64 0, .int .u64 0] 28 (0, 0)) (by exact bF BK869.out) hb)
     have n5_ := Aside0.mk (below_step (by repeat (first | (with_reducible first | exact HB.out | apply bA | apply bN | apply bD | refine bS ?_ GE867.out | refine bS ?_ GE868.out | refine bS ?_ GE869.out) | exact HB.out)) hb)
     clear HO872
     clear BK867
     clear BK868
     clear BK869
     clear HB
     have HO872 := n0_
     have HO876 := n1_
     have BK867 := n2_
     have BK868 := n3_
     have BK869 := n4_
     have HB := n5_
     clear n0_ n1_ n2_ n3_ n4_ n5_
     (try clear hb)
     (try clear hb2)
     (try clear hk)
     (try clear hi)
     (try clear ho0)
     refine hK.out _ _ ⟨(blk_cell BK868.out 0).trans rfl, (blk_cell BK868.out 1).trans rfl⟩ (fun hHeld => ?_)
     clear hK K
     refine norm_ (a' := ?_) ?_ ?_
     rotate_left
     ·show Act.put _ (some 30) _ = _
      simp only [Act.put, List.setIfInBounds_toArray, List.set_cons_zero, List.set_cons_succ, i64_w, i32_w]
      rfl
     refine one_ (i := 5) (N := some 32) #[true, true, true, true, true, true, false, false, false, false, false, false] rfl rfl (one_of HT_.out (by kernel_rfl)) (by decide) (fun K hK => ?_)
     refine Kd.R_lit_step k28 _ 28 ?hg (N := 32) ?hd (xs := ([(⟨a4_0, a4_1⟩ : S28)] : List (S28))) (inner := [.int .u64 a4_0, .int .u64 a4_1]) (ok := fun _ => True) (okp := fun _ => True) ?hr ?hp (fun _ hk => hk) trivial (Below.refl _ _) (Nat.le_refl _) (by simp) ?_; (case hd => rfl); (case hg => rfl); (case hr => first | (go_simp; done) | (go_simp; rfl)); (case hp => exact (Reps.c2 (show Kd.M k28 _ _ _ (⟨a4_0, a4_1⟩ : S28) [.int .u64 a4_0, .int .u64 a4_1] from (k28_mkM _ _ _ (⟨a4_0, a4_1⟩ : S28) )) (Reps.none _ _)))
     intro v878 w21 ho22 hb hg_ hnew_
     clear hg_ hnew_
     (first | rw [← Ny877.out] at ho22 | (simp only [Int.reduceToNat] at ho22; rw [← Ny877.out] at ho22))
     have n0_ := Aside0.mk (Kd.R_below (by exact rF HO872.out) hb)
     have n1_ := Aside0.mk (Kd.R_elder' (by exact rF HO876.out) (Kd.R_base ho22) hb)
     have n2_ := Aside0.mk (Kd.R_lower (Kd.R_newB (Kd.R_newB (Kd.R_newB (Kd.R_new' ho22 (Kd.R_lt (by exact rF HO876.out))) (g := gb867) (o := .cells #[.int .u64 a3_0, .int .u64 a3_1] 28 (0, 0)) (by exact bF BK867.out)) (g := gb868) (o := .cells #[.int .u64 a4_0, .int .u64 a4_1] 28 (0, 0)) (by exact bF BK868.out)) (g := gb869) (o := .cells #[.int .u64 0, .int .u64 0] 28 (0, 0)) (by exact bF BK869.out)) (below_size (by repeat (first | (with_reducible first | exact HB.out | apply bA | apply bN | apply bD | refine bS ?_ GE867.out | refine bS ?_ GE868.out | refine bS ?_ GE869.out) | exact HB.out))))
     have n3_ := Aside0.mk (blk_below (g := gb867) (o := .cells #[.int .u64 a3_0, .int .u64 a3_1] 28 (0, 0)) (by exact bF BK867.out) hb)
     have n4_ := Aside0.mk (blk_below (g := gb868) (o := .cells #[.int .u64 a4_0, .int .u64 a4_1] 28 (0, 0)) (by exact bF BK868.out) hb)
     have n5_ := Aside0.mk (blk_below (g := gb869) (o := .cells #[.int .u64 0, .int .u64 0] 28 (0, 0)) (by exact bF BK869.out) hb)
     have n6_ := Aside0.mk (below_step (by repeat (first | (with_reducible first | exact HB.out | apply bA | apply bN | apply bD | refine bS ?_ GE867.out | refine bS ?_ GE868.out | refine bS ?_ GE869.out) | exact HB.out)) hb)
     clear HO872
     clear HO876
     clear BK867
     clear BK868
     clear BK869
     clear HB
     have HO872 := n0_
     have HO876 := n1_
     have HO879 := n2_
     have BK867 := n3_
     have BK868 := n4_
     have BK869 := n5_
     have HB := n6_
     clear n0_ n1_ n2_ n3_ n4_ n5_ n6_
     clear hb ho22
     refine hK.out _ _ ⟨(blk_cell BK868.out 0).trans rfl, (blk_cell BK868.out 1).trans rfl⟩ (fun hHeld => ?_)
     clear hK K
     refine norm_ (a' := ?_) ?_ ?_
     rotate_left
     ·show Act.put _ (some 32) _ = _
      simp only [Act.put, List.setIfInBounds_toArray, List.set_cons_zero, List.set_cons_succ, i64_w, i32_w]
      rfl
     exact norm_ (by simp only [putAll, Act.put, List.setIfInBounds_toArray, List.set_cons_zero, List.set_cons_succ]) (hCont (v875, v878) _ ⟨hHeld, (by exact rF HO872.out), (by (with_reducible repeat (first | apply Kd.R_alloc | apply Kd.R_drewN | apply Kd.R_drew)); exact Kd.R_mono HO876.out (fun _ hk => ⟨hk.2, ⟨hk.1.1.1.2, ⟨hk.1.1.2, hk.1.2⟩⟩⟩)), (by (with_reducible repeat (first | apply Kd.R_alloc | apply Kd.R_drewN | apply Kd.R_drew)); exact Kd.R_mono HO879.out (fun _ hk => ⟨hk.1.1.1.2, ⟨hk.1.1.2, ⟨hk.1.2, hk.2⟩⟩⟩)), (by exact bF BK867.out), (by exact bF BK868.out), (by exact bF BK869.out), (by repeat (first | (with_reducible first | exact HB.out | apply bA | apply bN | apply bD | refine bS ?_ GE867.out | refine bS ?_ GE868.out | refine bS ?_ GE869.out) | exact HB.out))⟩)
    ·skip
     refine Kd.R_lit_step k28 _ 28 ?hg (N := 32) ?hd (xs := ([(⟨a4_0, a4_1⟩ : S28)] : List (S28))) (inner := [.int .u64 a4_0, .int .u64 a4_1]) (ok := fun _ => True) (okp := fun _ => True) ?hr ?hp (fun _ hk => hk) trivial (Below.refl _ _) (Nat.le_refl _) (by simp) ?_; (case hd => rfl); (case hg => rfl); (case hr => first | (go_simp; done) | (go_simp; rfl)); (case hp => exact (Reps.c2 (show Kd.M k28 _ _ _ (⟨a4_0, a4_1⟩ : S28) [.int .u64 a4_0, .int .u64 a4_1] from (k28_mkM _ _ _ (⟨a4_0, a4_1⟩ : S28) )) (Reps.none _ _)))
     intro v878 w20 ho21 hb hg_ hnew_
     clear hg_ hnew_
     (first | rw [← Ny877.out] at ho21 | (simp only [Int.reduceToNat] at ho21; rw [← Ny877.out] at ho21))
     have n0_ := Aside0.mk (Kd.R_below (by exact rF HO872.out) hb)
     have n1_ := Aside0.mk (Kd.R_lower (Kd.R_newB (Kd.R_newB (Kd.R_newB ho21 (g := gb867) (o := .cells #[.int .u64 a3_0, .int .u64 a3_1] 28 (0, 0)) (by exact bF BK867.out)) (g := gb868) (o := .cells #[.int .u64 a4_0, .int .u64 a4_1] 28 (0, 0)) (by exact bF BK868.out)) (g := gb869) (o := .cells #[.int .u64 0, .int .u64 0] 28 (0, 0)) (by exact bF BK869.out)) (below_size (by repeat (first | (with_reducible first | exact HB.out | apply bA | apply bN | apply bD | refine bS ?_ GE867.out | refine bS ?_ GE868.out | refine bS ?_ GE869.out) | exact HB.out))))
     have n2_ := Aside0.mk (blk_below (g := gb867) (o := .cells #[.int .u64 a3_0, .int .u64 a3_1] 28 (0, 0)) (by exact bF BK867.out) hb)
     have n3_ := Aside0.mk (blk_below (g := gb868) (o := .cells #[.int .u64 a4_0, .int .u64 a4_1] 28 (0, 0)) (by exact bF BK868.out) hb)
     have n4_ := Aside0.mk (blk_below (g := gb869) (o := .cells #[.int .u64 0, .int .u64 0] 28 (0, 0)) (by exact bF BK869.out) hb)
     have n5_ := Aside0.mk (below_step (by repeat (first | (with_reducible first | exact HB.out | apply bA | apply bN | apply bD | refine bS ?_ GE867.out | refine bS ?_ GE868.out | refine bS ?_ GE869.out) | exact HB.out)) hb)
     clear HO872
     clear BK867
     clear BK868
     clear BK869
     clear HB
     have HO872 := n0_
     have HO879 := n1_
     have BK867 := n2_
     have BK868 := n3_
     have BK869 := n4_
     have HB := n5_
     clear n0_ n1_ n2_ n3_ n4_ n5_
     clear hb ho21
     refine hK.out _ _ ⟨(blk_cell BK868.out 0).trans rfl, (blk_cell BK868.out 1).trans rfl⟩ (fun hHeld => ?_)
     clear hK K
     refine norm_ (a' := ?_) ?_ ?_
     rotate_left
     ·show Act.put _ (some 32) _ = _
      simp only [Act.put, List.setIfInBounds_toArray, List.set_cons_zero, List.set_cons_succ, i64_w, i32_w]
      rfl
     refine one_ (i := 3) (N := some 30) #[true, true, true, true, true, true, false, false, false, false, false, false] rfl rfl (one_of HT_.out (by kernel_rfl)) (by decide) (fun K hK => ?_)
     refine goes_ Try.func93 (by kernel_rfl) rfl #[.slice A2 l2.length c2] (by rfl) rfl rfl (by (try simp only [List.map_toArray, List.map_cons, List.map_nil]); first | done | rfl | (simp only [List.length_drop, List.length_take]; rfl)) ?_
     with_reducible refine (api_Elem_93.calls _ _ l2 t874 _ ?side1 ?side2 A8.out).mono ?_
     (case side1 => repeat (first | exact (Kd.C_below HR2.out HB.out) | (with_reducible refine Kd.C_alloc ?_ _) | (with_reducible refine Kd.C_drewN ?_ _) | (with_reducible refine Kd.C_drew ?_)))
     (case side2 => exact HC2.out)
     rintro e w22 ⟨v875, rfl, ho0, hb⟩
     refine ⟨_, rfl, ?_⟩
     have n0_ := Aside0.mk (Kd.R_below (by exact rF HO872.out) hb)
     have n1_ := Aside0.mk (Kd.R_elder' (by exact rF HO879.out) (Kd.R_base ho0) hb)
     have n2_ := Aside0.mk (Kd.R_lower (Kd.R_newB (Kd.R_newB (Kd.R_newB (Kd.R_new' ho0 (Kd.R_lt (by exact rF HO879.out))) (g := gb867) (o := .cells #[.int .u64 a3_0, .int .u64 a3_1] 28 (0, 0)) (by exact bF BK867.out)) (g := gb868) (o := .cells #[.int .u64 a4_0, .int .u64 a4_1] 28 (0, 0)) (by exact bF BK868.out)) (g := gb869) (o := .cells #[.int .u64 0, .int .u64 0] 28 (0, 0)) (by exact bF BK869.out)) (below_size (by repeat (first | (with_reducible first | exact HB.out | apply bA | apply bN | apply bD | refine bS ?_ GE867.out | refine bS ?_ GE868.out | refine bS ?_ GE869.out) | exact HB.out))))
     have n3_ := Aside0.mk (blk_below (g := gb867) (o := .cells #[.int .u64 a3_0, .int .u64 a3_1] 28 (0, 0)) (by exact bF BK867.out) hb)
     have n4_ := Aside0.mk (blk_below (g := gb868) (o := .cells #[.int .u64 a4_0, .int .u64 a4_1] 28 (0, 0)) (by exact bF BK868.out) hb)
     have n5_ := Aside0.mk (blk_below (g := gb869) (o := .cells #[.int .u64 0, .int .u64 0] 28 (0, 0)) (by exact bF BK869.out) hb)
     have n6_ := Aside0.mk (below_step (by repeat (first | (with_reducible first | exact HB.out | apply bA | apply bN | apply bD | refine bS ?_ GE867.out | refine bS ?_ GE868.out | refine bS ?_ GE869.out) | exact HB.out)) hb)
     clear HO872
     clear HO879
     clear BK867
     clear BK868
     clear BK869
     clear HB
     have HO872 := n0_
     have HO879 := n1_
     have HO876 := n2_
     have BK867 := n3_
     have BK868 := n4_
     have BK869 := n5_
     have HB := n6_
     clear n0_ n1_ n2_ n3_ n4_ n5_ n6_
     (try clear hb)
     (try clear hb2)
     (try clear hk)
     (try clear hi)
     (try clear ho0)
     refine hK.out _ _ ⟨(blk_cell BK868.out 0).trans rfl, (blk_cell BK868.out 1).trans rfl⟩ (fun hHeld => ?_)
     clear hK K
     refine norm_ (a' := ?_) ?_ ?_
     rotate_left
     ·show Act.put _ (some 30) _ = _
      simp only [Act.put, List.setIfInBounds_toArray, List.set_cons_zero, List.set_cons_succ, i64_w, i32_w]
      rfl
     exact norm_ (by simp only [putAll, Act.put, List.setIfInBounds_toArray, List.set_cons_zero, List.set_cons_succ]) (hCont (v875, v878) _ ⟨hHeld, (by exact rF HO872.out), (by (with_reducible repeat (first | apply Kd.R_alloc | apply Kd.R_drewN | apply Kd.R_drew)); exact Kd.R_mono HO876.out (fun _ hk => ⟨hk.1.1.1.2, ⟨hk.1.1.2, ⟨hk.1.2, hk.2⟩⟩⟩)), (by (with_reducible repeat (first | apply Kd.R_alloc | apply Kd.R_drewN | apply Kd.R_drew)); exact Kd.R_mono HO879.out (fun _ hk => ⟨hk.2, ⟨hk.1.1.1.2, ⟨hk.1.1.2, hk.1.2⟩⟩⟩)), (by exact bF BK867.out), (by exact bF BK868.out), (by exact bF BK869.out), (by repeat (first | (with_reducible first | exact HB.out | apply bA | apply bN | apply bD | refine bS ?_ GE867.out | refine bS ?_ GE868.out | refine bS ?_ GE869.out) | exact HB.out))⟩)
   rintro ⟨v875, v878⟩ w23 ⟨hS_, h0_, h1_, h2_, h3_, h4_, h5_, h6_⟩
   have n0_ : Aside0 (Kd.R k149 149 w23 w.heap.size (fun _ => True) (.slice Ao18 t870.length co18) t870) := ⟨h0_⟩
   have n1_ : Aside0 (Kd.R k28 28 w23 w.heap.size (fun k_ => some k_ ≠ (v878 : Value).ownBlock ∧ k_ ≠ gb867 ∧ k_ ≠ gb868 ∧ k_ ≠ gb869) v875 t874) := ⟨h1_⟩
   have n2_ : Aside0 (Kd.R k28 28 w23 w.heap.size (fun k_ => some k_ ≠ (v875 : Value).ownBlock ∧ k_ ≠ gb867 ∧ k_ ≠ gb868 ∧ k_ ≠ gb869) v878 y877) := ⟨h2_⟩
   have n3_ : Aside0 (w23.heap[gb867]? = some (.cells #[.int .u64 a3_0, .int .u64 a3_1] 28 (0, 0))) := ⟨h3_⟩
   have n4_ : Aside0 (w23.heap[gb868]? = some (.cells #[.int .u64 a4_0, .int .u64 a4_1] 28 (0, 0))) := ⟨h4_⟩
   have n5_ : Aside0 (w23.heap[gb869]? = some (.cells #[.int .u64 0, .int .u64 0] 28 (0, 0))) := ⟨h5_⟩
   have n6_ : Aside0 (Below w.heap.size w w23) := ⟨h6_⟩
   clear HO872
   clear BK867
   clear BK868
   clear BK869
   clear HB
   clear h0_ h1_ h2_ h3_ h4_ h5_ h6_
   have HO872 := n0_
   have HO876 := n1_
   have HO879 := n2_
   have BK867 := n3_
   have BK868 := n4_
   have BK869 := n5_
   have HB := n6_
   clear n0_ n1_ n2_ n3_ n4_ n5_ n6_
   have hHeld : w23.cell? ⟨gb868, 0, none⟩ = some (.int .u64 a4_0) ∧ w23.cell? ⟨gb868, 1, none⟩ = some (.int .u64 a4_1) := hS_
   obtain ⟨Ao25, co25, eo25⟩ := Kd.R_slice HO879.out
   (first | subst eo25 | (injection eo25 with f1_ f2_ f3_; have f4_ := f1_.symm; have f5_ := f3_.symm; clear f1_ f2_ f3_; subst f4_; subst f5_))
   refine norm_ (a' := ?_) ?_ ?_
   rotate_left
   ·simp only [putAll, Act.put, List.setIfInBounds_toArray, List.set_cons_zero, List.set_cons_succ]
    rfl
   refine one_ (i := 6) (N := some 33) #[true, true, true, true, true, true, true, false, false, false, false, false] rfl rfl (one_of HT_.out (by kernel_rfl)) (by decide) (fun K hK => ?_)
   refine Kd.R_append_rows_step k28 (w0 := w) w.heap.size (by rfl) (.tmp 30) (.tmp 32) 53 28 (.agg #[(.int .u64 0), (.int .u64 0)]) 16 rfl Try.underlying53 info28 rfl (by decide) (by omega) v875 t874 y877 _ _ _ (fun k_ => some k_ ≠ (.slice Ao25 y877.length co25 : Value).ownBlock ∧ k_ ≠ gb867 ∧ k_ ≠ gb868 ∧ k_ ≠ gb869) (fun _ => False) rfl rfl ?aO ?aR (fun _ _ h => h) (fun _ h => h.elim) ?aF ?aB ?aS ?aL ?_
   (case aR => repeat (first | exact (Kd.R_reads' HO879.out).2.2 | (with_reducible refine Kd.C_alloc ?_ _) | (with_reducible refine Kd.C_drewN ?_ _) | (with_reducible refine Kd.C_drew ?_)))
   (case aB => exact (by repeat (first | (with_reducible first | exact HB.out | apply bA | apply bN | apply bD | refine bS ?_ GE867.out | refine bS ?_ GE868.out | refine bS ?_ GE869.out) | exact HB.out)))
   (case aF => exact (fun k_ hk => ⟨Kd.fresh' (Kd.R_lt (by exact rF HO879.out)) k_ hk, Kd.freshB (g := gb867) (o := .cells #[.int .u64 a3_0, .int .u64 a3_1] 28 (0, 0)) (by exact bF BK867.out) k_ hk, Kd.freshB (g := gb868) (o := .cells #[.int .u64 a4_0, .int .u64 a4_1] 28 (0, 0)) (by exact bF BK868.out) k_ hk, Kd.freshB (g := gb869) (o := .cells #[.int .u64 0, .int .u64 0] 28 (0, 0)) (by exact bF BK869.out) k_ hk⟩))
   (case aO => exact (by exact rF HO876.out))
   (case aS => exact (below_size (by repeat (first | (with_reducible first | exact HB.out | apply bA | apply bN | apply bD | refine bS ?_ GE867.out | refine bS ?_ GE868.out | refine bS ?_ GE869.out) | exact HB.out))))
   (case aL => have := LMc9.out; omega)
   intro v881 w24 ho hb hg hat
   rw [← Ny880.out] at ho
   have n0_ := Aside0.mk (blk_grown (g := gb867) (o := .cells #[.int .u64 a3_0, .int .u64 a3_1] 28 (0, 0)) (by exact bF BK867.out) hg (Kd.R_away HO876.out (fun _ hk => hk.2.1)))
   have n1_ := Aside0.mk (blk_grown (g := gb868) (o := .cells #[.int .u64 a4_0, .int .u64 a4_1] 28 (0, 0)) (by exact bF BK868.out) hg (Kd.R_away HO876.out (fun _ hk => hk.2.2.1)))
   have n2_ := Aside0.mk (blk_grown (g := gb869) (o := .cells #[.int .u64 0, .int .u64 0] 28 (0, 0)) (by exact bF BK869.out) hg (Kd.R_away HO876.out (fun _ hk => hk.2.2.2)))
   have n3_ := Aside0.mk (Kd.R_over' (by exact rF HO872.out) (Kd.R_typed (by exact rF HO876.out)) (by decide) hg)
   have n4_ := Aside0.mk (Kd.R_after (ok := (fun k_ => k_ ≠ gb867 ∧ k_ ≠ gb868 ∧ k_ ≠ gb869)) (by (with_reducible repeat (first | apply Kd.R_alloc | apply Kd.R_drewN | apply Kd.R_drew)); exact Kd.R_mono HO879.out (fun _ hk => ⟨⟨hk.2.1, ⟨hk.2.2.1, hk.2.2.2⟩⟩, hk.1⟩)) hg hat)
   have n5_ := Aside0.mk (hb)
   have n6_ := Aside0.mk (ho)
   clear BK867
   clear BK868
   clear BK869
   clear HO872
   clear HO879
   clear HB
   clear HO876
   have BK867 := n0_
   have BK868 := n1_
   have BK869 := n2_
   have HO872 := n3_
   have HO879 := n4_
   have HB := n5_
   have HO882 := n6_
   clear n0_ n1_ n2_ n3_ n4_ n5_ n6_
   clear ho hb hg hat
   obtain ⟨Ao26, co26, eo26⟩ := Kd.R_slice HO882.out
   (first | subst eo26 | (injection eo26 with f1_ f2_ f3_; have f4_ := f1_.symm; have f5_ := f3_.symm; clear f1_ f2_ f3_; subst f4_; subst f5_))
   refine hK.out _ _ ⟨(blk_cell BK868.out 0).trans rfl, (blk_cell BK868.out 1).trans rfl⟩ (fun hHeld => ?_)
   clear hK K
   refine norm_ (a' := ?_) ?_ ?_
   rotate_left
   ·show Act.put _ (some 33) _ = _
    simp only [Act.put, List.setIfInBounds_toArray, List.set_cons_zero, List.set_cons_succ, i64_w, i32_w]
    rfl
   refine one_ (i := 7) (N := some 34) #[true, true, true, true, true, true, true, true, false, false, false, false] rfl rfl (one_of HT_.out (by kernel_rfl)) (by decide) (fun K hK => ?_)
   refine goes_ Try.func65 (by kernel_rfl) rfl #[.int .i64 a0, .slice Ao18 t870.length co18, .slice Ao26 y880.length co26] (by rfl) rfl rfl (by (try simp only [List.map_toArray, List.map_cons, List.map_nil]); first | done | rfl | (simp only [List.length_drop, List.length_take]; rfl)) ?_
   with_reducible refine (expr_Eval.calls k a0 _ _ t870 _ _ y880 t883 t884 t885 _ ?side1 ?side2 ?side3 ?side4 A10.out).mono ?_
   (case side1 => repeat (first | exact (Kd.R_reads' HO872.out).2.2 | (with_reducible refine Kd.C_alloc ?_ _) | (with_reducible refine Kd.C_drewN ?_ _) | (with_reducible refine Kd.C_drew ?_)))
   (case side2 => exact (Kd.R_reads' HO872.out).2.1)
   (case side3 => repeat (first | exact (Kd.R_reads' HO882.out).2.2 | (with_reducible refine Kd.C_alloc ?_ _) | (with_reducible refine Kd.C_drewN ?_ _) | (with_reducible refine Kd.C_drew ?_)))
   (case side4 => exact (Kd.R_reads' HO882.out).2.1)
   rintro e w27 ⟨rfl, hb⟩
   refine ⟨_, rfl, ?_⟩
   have n0_ := Aside0.mk (Kd.R_below (by exact rF HO872.out) hb)
   have n1_ := Aside0.mk (Kd.R_below (by exact rF HO879.out) hb)
   have n2_ := Aside0.mk (Kd.R_below (by exact rF HO882.out) hb)
   have n3_ := Aside0.mk (blk_below (g := gb867) (o := .cells #[.int .u64 a3_0, .int .u64 a3_1] 28 (0, 0)) (by exact bF BK867.out) hb)
   have n4_ := Aside0.mk (blk_below (g := gb868) (o := .cells #[.int .u64 a4_0, .int .u64 a4_1] 28 (0, 0)) (by exact bF BK868.out) hb)
   have n5_ := Aside0.mk (blk_below (g := gb869) (o := .cells #[.int .u64 0, .int .u64 0] 28 (0, 0)) (by exact bF BK869.out) hb)
   have n6_ := Aside0.mk (below_step (by repeat (first | (with_reducible first | exact HB.out | apply bA | apply bN | apply bD | refine bS ?_ GE867.out | refine bS ?_ GE868.out | refine bS ?_ GE869.out) | exact HB.out)) hb)
   clear HO872
   clear HO879
   clear HO882
   clear BK867
   clear BK868
   clear BK869
   clear HB
   have HO872 := n0_
   have HO879 := n1_
   have HO882 := n2_
   have BK867 := n3_
   have BK868 := n4_
   have BK869 := n5_
   have HB := n6_
   clear n0_ n1_ n2_ n3_ n4_ n5_ n6_
   (try clear hb)
   (try clear hb2)
   (try clear hk)
   (try clear hi)
   refine hK.out _ _ ⟨(blk_cell BK868.out 0).trans rfl, (blk_cell BK868.out 1).trans rfl⟩ (fun hHeld => ?_)
   clear hK K
   refine norm_ (a' := ?_) ?_ ?_
   rotate_left
   ·show Act.put _ (some 34) _ = _
    simp only [Act.put, List.setIfInBounds_toArray, List.set_cons_zero, List.set_cons_succ, i64_w, i32_w]
    rfl
   refine pure_ (i := 8) (N := some 35) (v := ?_) (a' := ?_) #[true, true, true, true, true, true, true, true, true, false, false, false] rfl rfl (any_of HT_.out (by kernel_rfl)) (fun _ _ _ h => h) (Or.inl ⟨by rfl, ?_⟩) ?_ ?_
   rotate_left
   ·intro w'
    go_simp
    with_reducible rfl
   rotate_left
   ·simp only [Act.put, List.setIfInBounds_toArray, List.set_cons_zero, List.set_cons_succ, i64_w, i32_w]
    rfl
   refine pure_ (i := 9) (N := some 36) (v := ?_) (a' := ?_) #[true, true, true, true, true, true, true, true, true, true, false, false] rfl rfl (any_of HT_.out (by kernel_rfl)) (fun _ _ _ h => h) (Or.inl ⟨by rfl, ?_⟩) ?_ ?_
   rotate_left
   ·intro w'
    go_simp
    with_reducible rfl
   rotate_left
   ·simp only [Act.put, List.setIfInBounds_toArray, List.set_cons_zero, List.set_cons_succ, i64_w, i32_w]
    rfl
   refine one_ (i := 10) (N := none) #[true, true, true, true, true, true, true, true, true, true, true, false] rfl rfl (one_of HT_.out (by kernel_rfl)) (by decide) (fun K hK => ?_)
   have hs28 : w27.cell? ⟨gb869, 0, none⟩ = some (.int .u64 0) := (blk_cell BK869.out 0).trans rfl
   have hfs28 := blk_frozen BK869.out 0
   have hns28_0 := NB867_869.out
   have hns28_1 := NB868_869.out
   have hms28_0 := NB869_867.out
   have hms28_1 := NB869_868.out
   have hs29 : w27.cell? ⟨gb869, 1, none⟩ = some (.int .u64 0) := (blk_cell BK869.out 1).trans rfl
   have hfs29 := blk_frozen BK869.out 1
   have hns29_0 := NB867_869.out
   have hns29_1 := NB868_869.out
   have hms29_0 := NB869_867.out
   have hms29_1 := NB869_868.out
   refine skip_ (w1 := ?_) (by rfl) rfl ?_ ?_
   rotate_left
   ·go_simp
    rfl
   refine hK.out _ _ ⟨((cell_far (p := ⟨gb869, _, none⟩) NB868_869.out _).trans (((cell_far (p := ⟨gb869, _, none⟩) NB868_869.out _).trans (hHeld.1)))), ((cell_far (p := ⟨gb869, _, none⟩) NB868_869.out _).trans (((cell_far (p := ⟨gb869, _, none⟩) NB868_869.out _).trans (hHeld.2))))⟩ (fun hHeld => ?_)
   clear hK K
   refine pure_ (i := 11) (N := some 11) (v := ?_) (a' := ?_) #[true, true, true, true, true, true, true, true, true, true, true, true] rfl rfl (any_of HT_.out (by kernel_rfl)) (fun _ _ _ h => h) (Or.inl ⟨by rfl, ?_⟩) ?_ ?_
   rotate_left
   ·intro w'
    go_simp
    with_reducible rfl
   rotate_left
   ·simp only [Act.put, List.setIfInBounds_toArray, List.set_cons_zero, List.set_cons_succ, i64_w, i32_w]
    rfl
   refine done_ (done_of HT_.out (by kernel_rfl)) ?_
   try go_wp2
   refine bodyPost_ret (results_ct rfl _ _ gb869 28 #[.int .u64 t883, .int .u64 t884] (0, 0) _ rfl (by (with_reducible repeat (first | refine blk_drewN ?_ _ | refine blk_drew ?_ | refine blk_alloc ?_ _)); refine blk_put (cs := #[.int .u64 t883, .int .u64 0]) ?_ 1 _ rfl; (with_reducible repeat (first | refine blk_drewN ?_ _ | refine blk_drew ?_ | refine blk_alloc ?_ _)); refine blk_put (cs := #[.int .u64 0, .int .u64 0]) ?_ 0 _ rfl; exact bF BK869.out) Try.underlying28 rfl (by kernel_rfl)) rfl ?_
   exact ⟨by first | rfl | (simp [errW_none, errW_some] <;> rfl) | (simp [*, errW_none, errW_some] <;> rfl), by repeat (first | (with_reducible first | exact HB.out | apply bA | apply bN | apply bD | refine bS ?_ GE867.out | refine bS ?_ GE868.out | refine bS ?_ GE869.out) | exact HB.out)⟩
  ·rw [if_neg c9] at H
   exact absurd H (by simp)
 ·rw [if_neg c7] at H
  have c7b0 : (t873 == 0) = false := beq_eq_false_iff_ne.mpr c7
  have c7b1 : (t873 != 0) = true := bne_iff_ne.mpr c7
  simp only [Option.some.injEq, Prod.mk.injEq] at H
  obtain ⟨rfl, rfl, rfl⟩ := H
  go_enter Try.func40, Try.ntmps40
  go_wp2_with (first | ((with_reducible refine gate_dst (N := 8) rfl ?_); refine box_event ?hg (N := 8) ?hd (cs := #[.int .u64 a3_0, .int .u64 a3_1]) (t := 28) ?hr ?_; (case hd => rfl); (case hg => rfl); (case hr => first | (go_simp; done) | (go_simp; rfl)); intro gb867 hg w30 hbox hb; have n0_ := Aside0.mk (below_step (by exact lF HB.out) hb); have n1_ := Aside0.mk (hbox); have n2_ := Aside0.mk ((by rw [hg]; exact (below_size (by exact lF HB.out)) : w.heap.size ≤ gb867)); have n3_ := Aside0.mk ((by rw [hg]; exact (below_size (by exact lF HB.out)) : w.heap.size ≤ gb867)); clear HB; have HB := n0_; have BK867 := n1_; have GW867 := n2_; have GE867 := n3_; clear n0_ n1_ n2_ n3_; clear hb hbox hg) | ((with_reducible refine gate_dst (N := 9) rfl ?_); refine box_event ?hg (N := 9) ?hd (cs := #[.int .u64 a4_0, .int .u64 a4_1]) (t := 28) ?hr ?_; (case hd => rfl); (case hg => rfl); (case hr => first | (go_simp; done) | (go_simp; rfl)); intro gb868 hg w31 hbox hb; have n0_ := Aside0.mk (blk_below (g := gb867) (o := .cells #[.int .u64 a3_0, .int .u64 a3_1] 28 (0, 0)) (by exact bF BK867.out) hb); have n1_ := Aside0.mk (below_step (by repeat (first | (with_reducible first | exact HB.out | apply bA | apply bN | apply bD | refine bS ?_ GE867.out) | exact HB.out)) hb); have n2_ := Aside0.mk (hbox); have n3_ := Aside0.mk ((by rw [hg]; exact (below_size (by repeat (first | (with_reducible first | exact HB.out | apply bA | apply bN | apply bD | refine bS ?_ GE867.out) | exact HB.out))) : w.heap.size ≤ gb868)); have n4_ := Aside0.mk ((by rw [hg]; exact (below_size (by repeat (first | (with_reducible first | exact HB.out | apply bA | apply bN | apply bD | refine bS ?_ GE867.out) | exact HB.out))) : w.heap.size ≤ gb868)); have n5_ := Aside0.mk ((by rw [hg]; exact Nat.ne_of_lt (blk_lt (g := gb867) (o := .cells #[.int .u64 a3_0, .int .u64 a3_1] 28 (0, 0)) (by exact bF BK867.out)) : gb867 ≠ gb868)); have n6_ := Aside0.mk ((by rw [hg]; exact Nat.ne_of_gt (blk_lt (g := gb867) (o := .cells #[.int .u64 a3_0, .int .u64 a3_1] 28 (0, 0)) (by exact bF BK867.out)) : gb868 ≠ gb867)); clear BK867; clear HB; have BK867 := n0_; have HB := n1_; have BK868 := n2_; have GW868 := n3_; have GE868 := n4_; have NB867_868 := n5_; have NB868_867 := n6_; clear n0_ n1_ n2_ n3_ n4_ n5_ n6_; clear hb hbox hg) | ((with_reducible refine gate_dst (N := 10) rfl ?_); refine box_event ?hg (N := 10) ?hd (cs := #[.int .u64 0, .int .u64 0]) (t := 28) ?hr ?_; (case hd => rfl); (case hg => rfl); (case hr => first | (go_simp; done) | (go_simp; rfl)); intro gb869 hg w32 hbox hb; have n0_ := Aside0.mk (blk_below (g := gb867) (o := .cells #[.int .u64 a3_0, .int .u64 a3_1] 28 (0, 0)) (by exact bF BK867.out) hb); have n1_ := Aside0.mk (blk_below (g := gb868) (o := .cells #[.int .u64 a4_0, .int .u64 a4_1] 28 (0, 0)) (by exact bF BK868.out) hb); have n2_ := Aside0.mk (below_step (by repeat (first | (with_reducible first | exact HB.out | apply bA | apply bN | apply bD | refine bS ?_ GE867.out | refine bS ?_ GE868.out) | exact HB.out)) hb); have n3_ := Aside0.mk (hbox); have n4_ := Aside0.mk ((by rw [hg]; exact (below_size (by repeat (first | (with_reducible first | exact HB.out | apply bA | apply bN | apply bD | refine bS ?_ GE867.out | refine bS ?_ GE868.out) | exact HB.out))) : w.heap.size ≤ gb869)); have n5_ := Aside0.mk ((by rw [hg]; exact (below_size (by repeat (first | (with_reducible first | exact HB.out | apply bA | apply bN | apply bD | refine bS ?_ GE867.out | refine bS ?_ GE868.out) | exact HB.out))) : w.heap.size ≤ gb869)); have n6_ := Aside0.mk ((by rw [hg]; exact Nat.ne_of_lt (blk_lt (g := gb867) (o := .cells #[.int .u64 a3_0, .int .u64 a3_1] 28 (0, 0)) (by exact bF BK867.out)) : gb867 ≠ gb869)); have n7_ := Aside0.mk ((by rw [hg]; exact Nat.ne_of_gt (blk_lt (g := gb867) (o := .cells #[.int .u64 a3_0, .int .u64 a3_1] 28 (0, 0)) (by exact bF BK867.out)) : gb869 ≠ gb867)); have n8_ := Aside0.mk ((by rw [hg]; exact Nat.ne_of_lt (blk_lt (g := gb868) (o := .cells #[.int .u64 a4_0, .int .u64 a4_1] 28 (0, 0)) (by exact bF BK868.out)) : gb868 ≠ gb869)); have n9_ := Aside0.mk ((by rw [hg]; exact Nat.ne_of_gt (blk_lt (g := gb868) (o := .cells #[.int .u64 a4_0, .int .u64 a4_1] 28 (0, 0)) (by exact bF BK868.out)) : gb869 ≠ gb868)); clear BK867; clear BK868; clear HB; have BK867 := n0_; have BK868 := n1_; have HB := n2_; have BK869 := n3_; have GW869 := n4_; have GE869 := n5_; have NB867_869 := n6_; have NB869_867 := n7_; have NB868_869 := n8_; have NB869_868 := n9_; clear n0_ n1_ n2_ n3_ n4_ n5_ n6_ n7_ n8_ n9_; clear hb hbox hg; have hnb33 := NB867_868.out; have hnc33 := NB868_867.out; have hnb34 := NB867_869.out; have hnc34 := NB869_867.out; have hcz35_0 : w32.cell? ⟨gb867, 0, none⟩ = some (.int .u64 a3_0) := (blk_cell BK867.out 0).trans rfl; have hcz35_1 : w32.cell? ⟨gb867, 1, none⟩ = some (.int .u64 a3_1) := (blk_cell BK867.out 1).trans rfl; have hfz35_0 := blk_frozen BK867.out 0; have hfz35_1 := blk_frozen BK867.out 1) | ((with_reducible refine gate_callee (f := 39) rfl ?_); refine goesL_ (some 20) rfl rfl Try.func39 (by kernel_rfl) rfl #[.int .i64 a0, .int .i64 (l2.length : Int), .slice A1 l1.length c1, .agg #[.int .u64 a3_0, .int .u64 a3_1]] rfl (by (try simp only [List.map_toArray, List.map_cons, List.map_nil]); first | done | rfl | (simp only [List.length_drop, List.length_take]; rfl)) ?_; (with_reducible refine (zero_Mix.calls k a0 (l2.length : Int) _ _ l1 a3_0 a3_1 t870 t873 _ ?side1 ?side2 A6.out).mono ?_); (case side1 => repeat (first | exact (Kd.C_below HR1.out HB.out) | (with_reducible refine Kd.C_alloc ?_ _) | (with_reducible refine Kd.C_drewN ?_ _) | (with_reducible refine Kd.C_drew ?_))); (case side2 => exact HC1.out); rintro e w36 ⟨v871, rfl, ho0, hb⟩; refine ⟨_, rfl, ?_⟩; have n0_ := Aside0.mk (Kd.R_lower ho0 (below_size (by repeat (first | (with_reducible first | exact HB.out | apply bA | apply bN | apply bD | refine bS ?_ GE867.out | refine bS ?_ GE868.out | refine bS ?_ GE869.out) | exact HB.out)))); have n1_ := Aside0.mk (blk_below (g := gb867) (o := .cells #[.int .u64 a3_0, .int .u64 a3_1] 28 (0, 0)) (by exact bF BK867.out) hb); have n2_ := Aside0.mk (blk_below (g := gb868) (o := .cells #[.int .u64 a4_0, .int .u64 a4_1] 28 (0, 0)) (by exact bF BK868.out) hb); have n3_ := Aside0.mk (blk_below (g := gb869) (o := .cells #[.int .u64 0, .int .u64 0] 28 (0, 0)) (by exact bF BK869.out) hb); have n4_ := Aside0.mk (below_step (by repeat (first | (with_reducible first | exact HB.out | apply bA | apply bN | apply bD | refine bS ?_ GE867.out | refine bS ?_ GE868.out | refine bS ?_ GE869.out) | exact HB.out)) hb); clear BK867; clear BK868; clear BK869; clear HB; have HO872 := n0_; have BK867 := n1_; have BK868 := n2_; have BK869 := n3_; have HB := n4_; clear n0_ n1_ n2_ n3_ n4_; (try clear hb); (try clear hb2); (try clear hk); (try clear hi); (try clear ho0); have hnb37 := NB869_868.out; have hnc37 := NB868_869.out; have hcz38_0 : w36.cell? ⟨gb869, 0, none⟩ = some (.int .u64 0) := (blk_cell BK869.out 0).trans rfl; have hcz38_1 : w36.cell? ⟨gb869, 1, none⟩ = some (.int .u64 0) := (blk_cell BK869.out 1).trans rfl; have hfz38_0 := blk_frozen BK869.out 0; have hfz38_1 := blk_frozen BK869.out 1))
  refine bodyPost_ret (results_ct rfl _ _ gb869 28 #[.int .u64 0, .int .u64 0] (0, 0) _ rfl (by (with_reducible repeat (first | refine blk_drewN ?_ _ | refine blk_drew ?_ | refine blk_alloc ?_ _)); refine blk_put (cs := #[.int .u64 0, .int .u64 0]) ?_ 1 _ rfl; (with_reducible repeat (first | refine blk_drewN ?_ _ | refine blk_drew ?_ | refine blk_alloc ?_ _)); refine blk_put (cs := #[.int .u64 0, .int .u64 0]) ?_ 0 _ rfl; exact bF BK869.out) Try.underlying28 rfl (by kernel_rfl)) rfl ?_
  exact ⟨by first | rfl | (simp [errW_none, errW_some] <;> rfl) | (simp [*, errW_none, errW_some] <;> rfl), by repeat (first | (with_reducible first | exact HB.out | apply bA | apply bN | apply bD | refine bS ?_ GE867.out | refine bS ?_ GE868.out | refine bS ?_ GE869.out) | exact HB.out)⟩
end Go.Proofs.Ytoaepfgfbfgcdaa.Q
set_option linter.unusedVariables false
set_option linter.unusedSimpArgs false
namespace Go.Proofs.Ytoaepfgfbfgcdaa.Q
open Go.RowKit Go.Proofs.YtoaepfgfbfgcdaaW.PrintWords Go.Proofs.YtoaepfgfbfgcdaaW.PrintLast Go.Proofs.YtoaepfgfbfgcdaaW.PrintMore
open Go.Proofs.Ytoaepfgfbfgcdaa.Steeple
theorem Mix_ok {level vars : Int} {conds : List (List S149)} {a : S28} (h : (MixS level vars conds a).2 = 0) : manyS conds.length = 0 ∧ (∀ c ∈ conds, chkS level vars c = 0) ∧ ofE level a = true ∧ chkS level (wrap64 (vars + 1)) (mixS level vars conds a) = 0 ∧ (MixS level vars conds a).1 = mixS level vars conds a := by
 unfold MixS at h ⊢
 by_cases g1 : manyS conds.length = 0
 ·rw [if_pos g1] at h ⊢
  by_cases g2 : firstE (chkS level vars) conds = 0
  ·rw [if_pos g2] at h ⊢
   by_cases g3 : ofE level a = true
   ·rw [if_pos g3] at h ⊢
    by_cases g4 : chkS level (wrap64 (vars + 1)) (mixS level vars conds a) = 0
    ·rw [if_pos g4]; exact ⟨g1, firstE_ok g2, g3, g4, rfl⟩
    ·rw [if_neg g4] at h; exact absurd h g4
   ·rw [if_neg g3] at h; simp at h
  ·rw [if_neg g2] at h; exact absurd h g2
 ·rw [if_neg g1] at h; exact absurd h g1
theorem SumZ_ok {level : Int} {conds : List (List S149)} {ts : List (List S28)} {a : S28} {p : List S28} (h : (SumZ level conds ts a p).2 = 0) : askS level conds ts = 0 ∧ (MixS level (ts.length : Int) conds a).2 = 0 ∧ (p.length : Int) = logS ((rdR ts 0).length : Int) ∧ p.all (ofE level) = true ∧ CheckS level (mixS level (ts.length : Int) conds a) (ts ++ [WeightsS level p]) = 0 ∧ (SumZ level conds ts a p).1 = sumS level (mixS level (ts.length : Int) conds a) (ts ++ [WeightsS level p]) := by
 unfold SumZ at h ⊢
 by_cases h1 : askS level conds ts = 0
 ·rw [if_pos h1] at h ⊢
  by_cases h2 : (MixS level (ts.length : Int) conds a).2 = 0
  ·rw [if_pos h2] at h ⊢
   by_cases h3 : (p.length : Int) = logS ((rdR ts 0).length : Int)
   ·rw [if_pos h3] at h ⊢
    by_cases h4 : (p.any fun x => !ofB level x.f0 x.f1) = true
    ·rw [if_pos h4] at h; simp at h
    ·rw [if_neg h4] at h ⊢
     rw [(Mix_ok h2).2.2.2.2] at h ⊢
     unfold SumS at h ⊢
     by_cases h5 : CheckS level (mixS level (ts.length : Int) conds a) (ts ++ [WeightsS level p]) = 0
     ·rw [if_pos h5]
      refine ⟨h1, h2, h3, ?_, h5, rfl⟩
      rw [List.all_eq_true]
      intro x hx
      cases hb : ofE level x with
      | true => rfl
      | false => exact absurd (List.any_eq_true.2 ⟨x, hx, by simpa [ofE] using hb⟩) h4
     ·rw [if_neg h5] at h; exact absurd h h5
   ·rw [if_neg h3] at h; simp at h
  ·rw [if_neg h2] at h; exact absurd h h2
 ·rw [if_neg h1] at h; exact absurd h h1
def Good (level : Int) (x : S28) : Prop := Q28 x ∧ ofE level x = true
theorem Good.zero {level : Int} (h0 : 0 ≤ level) (h7 : level ≤ 7) : Good level ⟨0, 0⟩ := ⟨q_zero, of_nought h0 h7⟩
theorem Good.one {level : Int} (h0 : 0 ≤ level) (h7 : level ≤ 7) : Good level ⟨0, 1⟩ := ⟨q_one, of_one h0 h7⟩
theorem Good.mul {level : Int} {a b : S28} (ha : Good level a) (hb : Good level b) : Good level (MulS level a b) := ⟨(E_mul ha.1 hb.1 ha.2 hb.2).2.1, (E_mul ha.1 hb.1 ha.2 hb.2).2.2⟩
theorem Good.add {level : Int} {a b : S28} (ha : Good level a) (hb : Good level b) : Good level (xorE a b) := ⟨(E_add ha.1 hb.1).2, of_add ha.1 hb.1 ha.2 hb.2⟩
theorem Good.E_mul {level : Int} {a b : S28} (ha : Good level a) (hb : Good level b) : E (MulS level a b) = E a * E b := (Q.E_mul ha.1 hb.1 ha.2 hb.2).1
theorem Good.E_add {level : Int} {a b : S28} (ha : Good level a) (hb : Good level b) : E (xorE a b) = E a + E b := (Q.E_add ha.1 hb.1).1
theorem evs_good {level : Int} {v : List S28} (hv : ∀ x ∈ v, Good level x) (h0 : 0 ≤ level) (h7 : level ≤ 7) : ∀ (l : List S149) (acc : List S28), StepsOK level v.length acc.length l → (∀ o ∈ l, Q149 o) → (∀ x ∈ acc, Good level x) → ∀ x ∈ evs level v l acc, Good level x
 | [], acc, h, hq, ha => ha
 | o :: r, acc, h, hq, ha => by
  rw [evs]
  refine evs_good hv h0 h7 r _ (by simpa using h.2) (fun o ho => hq o (List.mem_cons_of_mem _ ho)) ?_
  intro x hx
  rcases List.mem_append.1 hx with hx | hx
  ·exact ha x hx
  ·rw [List.mem_singleton.1 hx]
   have rdg : ∀ (l : List S28) (i : Int), (∀ x ∈ l, Good level x) → 0 ≤ i → i < l.length → Good level (rd_T28 l i) := by
    intro l i hl i0 i1
    refine hl _ ?_
    unfold rd_T28
    rw [List.getD_eq_getElem?_getD, List.getElem?_eq_getElem (by omega)]
    exact List.getElem_mem _
   rcases h.1 with ⟨k1, _, _, k4⟩ | ⟨k1, _, _, a1, a2⟩ | ⟨k1 | k1, _, a1, a2, a3, a4⟩
   ·unfold stepV; rw [if_pos k1]
    exact ⟨(hq o List.mem_cons_self).2.2.2, k4⟩
   ·unfold stepV; rw [if_neg (by omega), if_pos k1]
    exact rdg v _ hv a1 a2
   ·unfold stepV; rw [if_neg (by omega), if_neg (by omega), if_pos k1]
    exact Good.add (rdg acc _ ha a1 a2) (rdg acc _ ha a3 a4)
   ·unfold stepV; rw [if_neg (by omega), if_neg (by omega), if_neg (by omega), if_pos k1]
    exact Good.mul (rdg acc _ ha a1 a2) (rdg acc _ ha a3 a4)
theorem eval_good {level : Int} {v : List S28} {l : List S149} (hv : ∀ x ∈ v, Good level x) (h : chkS level v.length l = 0) (hq : ∀ o ∈ l, Q149 o) : Good level (evalS level l v) := by
 obtain ⟨h0, h7, _, hl, _, hs⟩ := chk_ok h
 have hall := evs_good hv h0 h7 l [] hs hq (fun _ h => absurd h List.not_mem_nil)
 have hlen := evs_len level v l []
 refine hall _ ?_
 unfold evalS lastE
 rw [List.getD_eq_getElem?_getD, List.getElem?_eq_getElem (by simp at hlen; omega)]
 exact List.getElem_mem _
theorem mixV_good {level : Int} {a : S28} (ha : Good level a) : ∀ (l : List S28) (b S : S28), (∀ x ∈ l, Good level x) → Good level b → Good level S → Good level (mixV level a l b S)
 | [], b, S, hl, hb, hS => hS
 | x :: r, b, S, hl, hb, hS => mixV_good ha r _ _ (fun y hy => hl y (List.mem_cons_of_mem _ hy)) (hb.mul ha) (hS.add ((hb.mul ha).mul (hl x List.mem_cons_self)))
theorem mixV0_good {level : Int} {a : S28} (ha : Good level a) (l : List S28) (hl : ∀ x ∈ l, Good level x) : Good level (mixV0 level a l) := by
 have hL := of_level ha.2
 cases l with
 | nil => exact Good.zero hL.1 hL.2
 | cons x r => exact mixV_good ha r _ _ (fun y hy => hl y (List.mem_cons_of_mem _ hy)) (Good.one hL.1 hL.2) (hl x List.mem_cons_self)
theorem col_good {level : Int} {N : Nat} {ts : List (List S28)} (hT : TablesOK level N ts) (hq : ∀ t ∈ ts, ∀ x ∈ t, Q28 x) {i : Nat} (hi : i < N) : ∀ x ∈ colS ts (i : Int), Good level x := by
 intro x hx
 obtain ⟨t, ht, rfl⟩ := List.mem_map.1 hx
 obtain ⟨h1, h2⟩ := hT.2 t ht
 rw [List.all_eq_true] at h2
 have hm : rd_T28 t (i : Int) ∈ t := by
  unfold rd_T28
  rw [List.getD_eq_getElem?_getD, List.getElem?_eq_getElem (by simp; omega)]
  exact List.getElem_mem _
 exact ⟨hq t ht _ hm, h2 _ hm⟩
def atS (level : Int) (conds : List (List S149)) (ts : List (List S28)) (a : S28) (j : Nat) : S28 := mixV0 level a (conds.map fun c => evalS level c (colS ts (j : Int)))
theorem at_good {level : Int} {conds : List (List S149)} {ts : List (List S28)} {a : S28} {N : Nat} (ha : Good level a) (hT : TablesOK level N ts) (hq : ∀ t ∈ ts, ∀ x ∈ t, Q28 x) (hc : ∀ c ∈ conds, ∀ o ∈ c, Q149 o) (hk : ∀ c ∈ conds, chkS level (ts.length : Int) c = 0) {j : Nat} (hj : j < N) : Good level (atS level conds ts a j) := by
 refine mixV0_good ha _ ?_
 intro x hx
 obtain ⟨c, hcc, rfl⟩ := List.mem_map.1 hx
 refine eval_good (col_good hT hq hj) ?_ (hc c hcc)
 rw [show (colS ts (j : Int)).length = ts.length by simp [colS]]
 exact hk c hcc
def wsum (level : Int) (conds : List (List S149)) (ts : List (List S28)) (a : S28) (ws : List S28) : Nat → Nat → S28 → S28
 | 0, _, acc => acc
 | f + 1, j, acc => wsum level conds ts a ws f (j + 1) (xorE acc (MulS level (rd_T28 ws (j : Int)) (atS level conds ts a j)))
theorem sumL_wsum {level : Int} {conds : List (List S149)} {ts : List (List S28)} {a : S28} {ws : List S28} {N : Nat} (hT : TablesOK level N (ts ++ [ws])) (hn : manyS conds.length = 0) (hk : ∀ c ∈ conds, chkS level (ts.length : Int) c = 0) (hm : chkS level ((ts.length : Int) + 1) (mixS level (ts.length : Int) conds a) = 0) : ∀ (f j : Nat) (acc : S28), f + j = N →
  sumL level (mixS level (ts.length : Int) conds a) (ts ++ [ws]) f j acc = wsum level conds ts a ws f j acc
 | 0, j, acc, h => rfl
 | f + 1, j, acc, h => by
  have hcl : (colS ts (j : Int)).length = ts.length := by simp [colS]
  have e : (EvalS level (mixS level (ts.length : Int) conds a) (colS (ts ++ [ws]) (j : Int))).1 = MulS level (rd_T28 ws (j : Int)) (atS level conds ts a j) := by
   unfold EvalS
   have hcl2 : ((colS (ts ++ [ws]) (j : Int)).length : Int) = (ts.length : Int) + 1 := by simp [colS]
   rw [hcl2, if_pos hm, if_pos (col_all hT (by omega)), colS_snoc]
   have := eval_mix (level := level) (v := colS ts (j : Int)) (w := rd_T28 ws (j : Int)) (a := a) conds (many_ok hn).2 (many_ok hn).1 (by rw [hcl]; exact hk)
   rw [hcl] at this
   exact this
  rw [sumL, wsum, e]
  exact sumL_wsum hT hn hk hm f (j + 1) _ (by omega)
theorem SumZ_wsum {level : Int} {conds : List (List S149)} {ts : List (List S28)} {a : S28} {p : List S28} (h : (SumZ level conds ts a p).2 = 0) : ∃ n : Nat, n ≤ 12 ∧ p.length = n ∧ (rdR ts 0).length = 2 ^ n ∧ TablesOK level (2 ^ n) ts ∧ TablesOK level (2 ^ n) (ts ++ [WeightsS level p]) ∧ ofE level a = true ∧ manyS conds.length = 0 ∧ (∀ c ∈ conds, chkS level (ts.length : Int) c = 0) ∧ chkS level ((ts.length : Int) + 1) (mixS level (ts.length : Int) conds a) = 0 ∧
  (SumZ level conds ts a p).1 = wsum level conds ts a (WeightsS level p) (2 ^ n) 0 ⟨0, 0⟩ := by
 obtain ⟨h1, h2, h3, h4, h5, h6⟩ := SumZ_ok h
 obtain ⟨m1, m2, m3, m4, m5⟩ := Mix_ok h2
 obtain ⟨n, hn, e1, e2, hT⟩ := ask_tables h1
 obtain ⟨c1, n', hn', e1', e2', hT'⟩ := Check_ok h5
 have er : rdR (ts ++ [WeightsS level p]) 0 = rdR ts 0 := by
  unfold rdR
  have := List.length_pos_iff.2 hT.1
  rw [List.getD_eq_getElem?_getD, List.getD_eq_getElem?_getD, List.getElem?_append_left (by simpa using this)]
 rw [er, e1] at e1'
 have en : n = n' := (Nat.pow_right_inj (by decide)).1 e1'
 subst en
 have hlen : (((ts ++ [WeightsS level p]).length : Nat) : Int) = (ts.length : Int) + 1 := by simp
 rw [hlen] at c1
 refine ⟨n, hn, by rw [e2] at h3; omega, e1, hT, hT', m3, m1, m2, c1, ?_⟩
 rw [h6]
 unfold sumS
 rw [er, e1]
 exact sumL_wsum hT' m1 m2 c1 (2 ^ n) 0 _ rfl
def delta (N i : Nat) : List S28 := (List.range N).map fun j => if j = i then ⟨0, 1⟩ else ⟨0, 0⟩
def bitsL : Nat → Nat → List S28
 | _, 0 => []
 | i, n + 1 => ⟨0, ((i % 2 : Nat) : Int)⟩ :: bitsL (i / 2) n
theorem range_add_map {α : Type} (f : Nat → α) (m n : Nat) : (List.range (m + n)).map f = (List.range m).map f ++ (List.range n).map fun j => f (m + j) := by
 rw [List.range_add, List.map_append, List.map_map]
 rfl
theorem delta_low (N i : Nat) (h : i < N) : delta (N + N) i = delta N i ++ List.replicate N ⟨0, 0⟩ := by
 unfold delta
 rw [range_add_map]
 congr 1
 rw [List.eq_replicate_iff]
 refine ⟨by simp, fun x hx => ?_⟩
 obtain ⟨j, _, rfl⟩ := List.mem_map.1 hx
 rw [if_neg (by omega)]
theorem delta_high (N i : Nat) (h : i < N) : delta (N + N) (N + i) = List.replicate N ⟨0, 0⟩ ++ delta N i := by
 unfold delta
 rw [range_add_map]
 congr 1
 ·rw [List.eq_replicate_iff]
  refine ⟨by simp, fun x hx => ?_⟩
  obtain ⟨j, hj, rfl⟩ := List.mem_map.1 hx
  have := List.mem_range.1 hj
  rw [if_neg (by omega)]
 ·refine List.map_congr_left fun j _ => ?_
  by_cases hji : j = i
  ·rw [if_pos (by omega), if_pos hji]
  ·rw [if_neg (by omega), if_neg hji]
theorem delta_good {level : Int} (h0 : 0 ≤ level) (h7 : level ≤ 7) (N i : Nat) : ∀ x ∈ delta N i, Good level x := by
 intro x hx
 obtain ⟨j, _, rfl⟩ := List.mem_map.1 hx
 by_cases h : j = i
 ·rw [if_pos h]; exact Good.one h0 h7
 ·rw [if_neg h]; exact Good.zero h0 h7
theorem row_zero (level : Int) (l : List S28) : rowS level ⟨0, 0⟩ l = List.replicate l.length ⟨0, 0⟩ := by
 unfold rowS
 rw [List.eq_replicate_iff]
 refine ⟨by simp, fun x hx => ?_⟩
 obtain ⟨w, _, rfl⟩ := List.mem_map.1 hx
 exact MulS_zero_r _ _
theorem row_one {level : Int} {l : List S28} (h : ∀ x ∈ l, Good level x) : rowS level ⟨0, 1⟩ l = l := by
 unfold rowS
 conv => rhs; rw [← List.map_id l]
 exact List.map_congr_left fun x hx => MulS_one_r (h x hx).1 (h x hx).2
theorem zip_zero {level : Int} : ∀ {l : List S28}, (∀ x ∈ l, Good level x) → List.zipWith xorE l (List.replicate l.length ⟨0, 0⟩) = l
 | [], _ => rfl
 | x :: r, h => by
  rw [List.length_cons, List.replicate_succ, List.zipWith_cons_cons, xorE_zero (h x List.mem_cons_self).1, zip_zero (fun y hy => h y (List.mem_cons_of_mem _ hy))]
theorem zip_self {level : Int} : ∀ {l : List S28}, (∀ x ∈ l, Good level x) → List.zipWith xorE l l = List.replicate l.length ⟨0, 0⟩
 | [], _ => rfl
 | x :: r, h => by
  rw [List.zipWith_cons_cons, xorE_self (h x List.mem_cons_self).1, zip_self (fun y hy => h y (List.mem_cons_of_mem _ hy)), List.length_cons, List.replicate_succ]
theorem delta_len (N i : Nat) : (delta N i).length = N := by simp [delta]
theorem wts_bits {level : Int} (h0 : 0 ≤ level) (h7 : level ≤ 7) : ∀ (n i M c : Nat), c < M → wtsS level (bitsL i n) (delta M c) = delta (M * 2 ^ n) (c + M * (i % 2 ^ n))
 | 0, i, M, c, hc => by
  rw [bitsL, wtsS, Nat.pow_zero, Nat.mul_one, Nat.mod_one, Nat.mul_zero, Nat.add_zero]
 | n + 1, i, M, c, hc => by
  have hd := delta_good h0 h7 M c
  have hmod : i % 2 ^ (n + 1) = i % 2 + 2 * (i / 2 % 2 ^ n) := by
   rw [Nat.pow_succ', Nat.mod_mul]
  rw [bitsL, wtsS, hmod]
  rcases Nat.mod_two_eq_zero_or_one i with h | h
  ·rw [h]
   have e : wtsS level (bitsL (i / 2) n) (List.zipWith xorE (delta M c) (rowS level ⟨0, ((0 : Nat) : Int)⟩ (delta M c)) ++ rowS level ⟨0, ((0 : Nat) : Int)⟩ (delta M c)) = wtsS level (bitsL (i / 2) n) (delta (M + M) c) := by
    have e0 : rowS level ⟨0, ((0 : Nat) : Int)⟩ (delta M c) = List.replicate (delta M c).length ⟨0, 0⟩ := row_zero level _
    rw [e0, zip_zero hd, delta_len, delta_low M c hc]
   rw [e, wts_bits h0 h7 n (i / 2) (M + M) c (by omega), Nat.pow_succ]
   congr 1
   ·rw [← Nat.mul_two, Nat.mul_assoc, Nat.mul_comm 2]
   ·rw [Nat.zero_add, ← Nat.mul_two, Nat.mul_assoc]
  ·rw [h]
   have e : wtsS level (bitsL (i / 2) n) (List.zipWith xorE (delta M c) (rowS level ⟨0, ((1 : Nat) : Int)⟩ (delta M c)) ++ rowS level ⟨0, ((1 : Nat) : Int)⟩ (delta M c)) = wtsS level (bitsL (i / 2) n) (delta (M + M) (M + c)) := by
    have e0 : rowS level ⟨0, ((1 : Nat) : Int)⟩ (delta M c) = delta M c := row_one hd
    rw [e0, zip_self hd, delta_len, delta_high M c hc]
   rw [e, wts_bits h0 h7 n (i / 2) (M + M) (M + c) (by omega), Nat.pow_succ]
   congr 1
   ·rw [← Nat.mul_two, Nat.mul_assoc, Nat.mul_comm 2]
   ·rw [← Nat.mul_two, Nat.mul_add, Nat.mul_one, Nat.mul_assoc]; omega
theorem bits_all {level : Int} (h0 : 0 ≤ level) (h7 : level ≤ 7) : ∀ (n i : Nat), ∀ x ∈ bitsL i n, Good level x
 | 0, i, x, hx => by cases hx
 | n + 1, i, x, hx => by
  rw [bitsL] at hx
  rcases List.mem_cons.1 hx with rfl | hx
  ·rcases Nat.mod_two_eq_zero_or_one i with h | h <;> rw [h]
   ·exact Good.zero h0 h7
   ·exact Good.one h0 h7
  ·exact bits_all h0 h7 n _ x hx
theorem Weights_bits {level : Int} (h0 : 0 ≤ level) (h7 : level ≤ 7) {n i : Nat} (hn : n ≤ 12) (hl : (bitsL i n).length = n) (hi : i < 2 ^ n) : WeightsS level (bitsL i n) = delta (2 ^ n) i := by
 unfold WeightsS
 have hw : ¬ wideS level = 0 := fun h => by have := (wide_zero level).1 h; omega
 rw [if_neg hw, if_neg (by omega)]
 have ha : ¬ ((bitsL i n).any fun x => !ofB level x.f0 x.f1) = true := by
  intro h
  obtain ⟨x, hx, hb⟩ := List.any_eq_true.1 h
  have := (bits_all h0 h7 n i x hx).2
  unfold ofE at this
  rw [this] at hb
  cases hb
 rw [if_neg ha]
 have := wts_bits h0 h7 n i 1 0 (by omega)
 rw [Nat.one_mul, Nat.one_mul, Nat.zero_add, Nat.mod_eq_of_lt hi] at this
 exact this
theorem rd_delta (N i j : Nat) (h : j < N) : rd_T28 (delta N i) (j : Int) = if j = i then ⟨0, 1⟩ else ⟨0, 0⟩ := by
 unfold rd_T28 delta
 rw [List.getD_eq_getElem?_getD, List.getElem?_map, List.getElem?_range (by simpa using h)]
 rfl
theorem wsum_delta {level : Int} {conds : List (List S149)} {ts : List (List S28)} {a : S28} {N i : Nat} (hg : ∀ j, j < N → Good level (atS level conds ts a j)) : ∀ (f j : Nat), f + j = N →
  (j ≤ i → i < N → wsum level conds ts a (delta N i) f j ⟨0, 0⟩ = atS level conds ts a i) ∧ (∀ acc, Q28 acc → i < j → wsum level conds ts a (delta N i) f j acc = acc)
 | 0, j, h => ⟨fun h1 h2 => absurd h2 (by omega), fun acc _ _ => rfl⟩
 | f + 1, j, h => by
  obtain ⟨r1, r2⟩ := wsum_delta (i := i) hg f (j + 1) (by omega)
  have hj := hg j (by omega)
  refine ⟨fun h1 h2 => ?_, fun acc ha h1 => ?_⟩
  ·rw [wsum, rd_delta N i j (by omega)]
   by_cases hji : j = i
   ·subst hji
    rw [if_pos rfl, MulS_one_l hj.1 hj.2, zero_xorE hj.1]
    exact r2 _ hj.1 (by omega)
   ·rw [if_neg hji, MulS_zero_l, xor00]
    exact r1 (by omega) h2
  ·rw [wsum, rd_delta N i j (by omega), if_neg (by omega), MulS_zero_l, xorE_zero ha]
   exact r2 acc ha (by omega)
def ValueS (level : Int) (conds : List (List S149)) (v : List S28) (a w : S28) : S28 × Int := if (MixS level (v.length : Int) conds a).2 = 0 then EvalS level (MixS level (v.length : Int) conds a).1 (v ++ [w]) else (⟨0, 0⟩, (MixS level (v.length : Int) conds a).2)
theorem Value_ev (level : Int) (conds : List (List S149)) (v : List S28) (a w : S28) (hv : v.length ≤ 100000) : Ev (fun k => zero_Value.f k level conds v a.f0 a.f1 w.f0 w.f1) ((ValueS level conds v a w).1.f0, (ValueS level conds v a w).1.f1, (ValueS level conds v a w).2) := by
 simp only [zero_Value.f]
 refine Ev.bind (Mix_ev level _ conds a) ?_
 unfold ValueS
 by_cases h : (MixS level (v.length : Int) conds a).2 = 0
 ·rw [if_pos h]
  refine Ev.pos h ?_
  simp only [api_Elem_93.f]
  rw [if_pos (by omega)]
  simp only [Option.bind_some]
  refine Ev.pos (by simp; omega) ?_
  exact Ev.bind (Eval_ev level _ _ (by simp; omega)) (Ev.pure _)
 ·rw [if_neg h]
  exact Ev.neg h (Ev.pure _)
end Go.Proofs.Ytoaepfgfbfgcdaa.Q
set_option linter.unusedVariables false
set_option linter.unusedSimpArgs false
namespace Go.Proofs.Ytoaepfgfbfgcdaa.Steeple
variable {N : Nat}
def ev : List (Lv N) → Lv N → Lv N
 | [], _ => 0
 | c :: r, x => c + x * ev r x
def AllZ (c : List (Lv N)) : Prop := ∀ x ∈ c, x = 0
def dvd_ (r : Lv N) : List (Lv N) → List (Lv N)
 | [] => []
 | [_] => []
 | _ :: d :: t => ev (d :: t) r :: dvd_ r (d :: t)
theorem dvd_len (r : Lv N) : ∀ c : List (Lv N), c ≠ [] → (dvd_ r c).length + 1 = c.length
 | [], h => absurd rfl h
 | [_], _ => rfl
 | _ :: d :: t, _ => by rw [dvd_, List.length_cons, dvd_len r (d :: t) (by simp)]; rfl
theorem ev_dvd (r x : Lv N) : ∀ c : List (Lv N), ev c x = ev c r + (x + r) * ev (dvd_ r c) x
 | [] => by simp only [dvd_, ev, R2.mulZero, R2.addZero]
 | [c] => by simp only [dvd_, ev, R2.mulZero, R2.addZero]
 | c :: d :: t => by
  have ih := ev_dvd r x (d :: t)
  obtain ⟨A, hA⟩ : ∃ A, ev (d :: t) r = A := ⟨_, rfl⟩
  obtain ⟨B, hB⟩ : ∃ B, ev (dvd_ r (d :: t)) x = B := ⟨_, rfl⟩
  rw [dvd_]
  show c + x * ev (d :: t) x = (c + r * ev (d :: t) r) + (x + r) * (ev (d :: t) r + x * ev (dvd_ r (d :: t)) x)
  rw [ih, hA, hB]
  simp only [R2.mulAdd, R2.addMul, R2.addAssoc, R2.addComm, R2.addLeft, R2.addCancel, R2.addSelf, R2.addZero, R2.zeroAdd, R2.mulAssoc, R2.mulComm, R2.mulLeft]
theorem dvd_zero (r : Lv N) : ∀ c : List (Lv N), AllZ (dvd_ r c) → ev c r = 0 → AllZ c
 | [], _, _ => fun x h => by cases h
 | [c], _, h => fun x hx => by
  rw [List.mem_singleton.1 hx]
  simpa only [ev, R2.mulZero, R2.addZero] using h
 | c :: d :: t, hz, h => by
  rw [dvd_] at hz
  have h0 : ev (d :: t) r = 0 := hz _ List.mem_cons_self
  have ih := dvd_zero r (d :: t) (fun x hx => hz x (List.mem_cons_of_mem _ hx)) h0
  intro x hx
  rcases List.mem_cons.1 hx with rfl | hx
  ·have h' : x + r * ev (d :: t) r = 0 := h
   rw [h0, R2.mulZero, R2.addZero] at h'
   exact h'
  ·exact ih x hx
theorem roots_lt : ∀ (rs : List (Lv N)) (c : List (Lv N)), rs.Nodup → (∀ r ∈ rs, ev c r = 0) → ¬ AllZ c → rs.length < c.length
 | [], c, _, _, hz => by
  cases c with
  | nil => exact absurd (fun x h => by cases h) hz
  | cons _ _ => simp
 | r :: rs, c, hn, hr, hz => by
  have hc : c ≠ [] := fun e => hz (by rw [e]; intro x h; cases h)
  have h0 := hr r List.mem_cons_self
  have ih := roots_lt rs (dvd_ r c) (List.nodup_cons.1 hn).2 (fun s hs => by
   have h1 := hr s (List.mem_cons_of_mem _ hs)
   rw [ev_dvd r s c, h0, R2.zeroAdd] at h1
   rcases Lv.mul_eq_zero h1 with h2 | h2
   ·exact absurd (R2.add_eq_zero h2 ▸ hs) (List.nodup_cons.1 hn).1
   ·exact h2) (fun h => hz (dvd_zero r c h h0))
  have := dvd_len r c hc
  rw [List.length_cons]
  omega
def cn (n : Nat) (P : Nat → Bool) : Nat := (List.range n).countP P
theorem cn_le (n : Nat) (P : Nat → Bool) : cn n P ≤ n := by
 have := List.countP_le_length (p := P) (l := List.range n)
 simpa [cn] using this
theorem cn_add (a b : Nat) (P : Nat → Bool) : cn (a + b) P = cn a P + cn b fun j => P (a + j) := by
 unfold cn
 rw [List.range_add, List.countP_append, List.countP_map]
 rfl
theorem cn_succ (n : Nat) (P : Nat → Bool) : cn (n + 1) P = cn n P + if P n = true then 1 else 0 := by
 rw [cn_add]
 congr 1
 by_cases h : P n = true <;> simp [cn, h]
theorem cn_mono {n : Nat} {P Q : Nat → Bool} (h : ∀ j, j < n → P j = true → Q j = true) : cn n P ≤ cn n Q := by
 induction n with
 | zero => exact Nat.le_refl _
 | succ n ih =>
  rw [cn_succ, cn_succ]
  have h1 := ih (fun j hj => h j (by omega))
  by_cases hp : P n = true
  ·rw [if_pos hp, if_pos (h n (by omega) hp)]; omega
  ·rw [if_neg hp]; split <;> omega
theorem cn_zero {n : Nat} {P : Nat → Bool} (h : ∀ j, j < n → P j = false) : cn n P = 0 := by
 induction n with
 | zero => rfl
 | succ n ih => rw [cn_succ, ih (fun j hj => h j (by omega)), h n (by omega)]; rfl
def sumN : Nat → (Nat → Nat) → Nat
 | 0, _ => 0
 | n + 1, f => sumN n f + f n
theorem sumN_le {n : Nat} {f g : Nat → Nat} (h : ∀ j, j < n → f j ≤ g j) : sumN n f ≤ sumN n g := by
 induction n with
 | zero => exact Nat.le_refl _
 | succ n ih => rw [sumN, sumN]; have := ih (fun j hj => h j (by omega)); have := h n (by omega); omega
theorem sumN_congr {n : Nat} {f g : Nat → Nat} (h : ∀ j, j < n → f j = g j) : sumN n f = sumN n g :=
 Nat.le_antisymm (sumN_le fun j hj => Nat.le_of_eq (h j hj)) (sumN_le fun j hj => Nat.le_of_eq (h j hj).symm)
theorem sumN_add (n : Nat) (f g : Nat → Nat) : sumN n (fun j => f j + g j) = sumN n f + sumN n g := by
 induction n with
 | zero => rfl
 | succ n ih => rw [sumN, sumN, sumN, ih]; omega
theorem sumN_const (n c : Nat) : sumN n (fun _ => c) = n * c := by
 induction n with
 | zero => simp [sumN]
 | succ n ih => rw [sumN, ih, Nat.add_mul, Nat.one_mul]
theorem sumN_ite (n : Nat) (P : Nat → Bool) (c : Nat) : sumN n (fun j => if P j = true then c else 0) = cn n P * c := by
 induction n with
 | zero => simp [sumN, cn]
 | succ n ih =>
  rw [sumN, ih, cn_succ, Nat.add_mul]
  by_cases h : P n = true <;> simp [h]
theorem sumN_swap (m q : Nat) (P : Nat → Nat → Bool) : sumN m (fun j => cn q fun a => P a j) = sumN q fun a => cn m fun j => P a j := by
 induction q with
 | zero =>
  show sumN m (fun _ => 0) = 0
  rw [sumN_const, Nat.mul_zero]
 | succ q ih =>
  rw [sumN, ← ih]
  have e : ∀ j, (cn (q + 1) fun a => P a j) = (cn q fun a => P a j) + if P q j = true then 1 else 0 := fun j => cn_succ q _
  rw [sumN_congr (fun j _ => e j), sumN_add, sumN_ite, Nat.mul_one]
theorem cn_prod (q m : Nat) (P : Nat → Bool) : cn (q * m) P = sumN m fun j => cn q fun a => P (a + q * j) := by
 induction m with
 | zero => rfl
 | succ m ih =>
  rw [Nat.mul_succ, cn_add, ih, sumN]
  congr 2
  funext a
  rw [Nat.add_comm]
theorem cn_roots {q : Nat} {el : Nat → Lv N} (hel : ∀ a b, a < q → b < q → el a = el b → a = b) {c : List (Lv N)} (hz : ¬ AllZ c) {P : Nat → Bool} (hP : ∀ a, a < q → P a = true → ev c (el a) = 0) : cn q P < c.length := by
 have h := roots_lt (((List.range q).filter P).map el) c ?_ ?_ hz
 ·rw [List.length_map, ← List.countP_eq_length_filter] at h
  exact h
 ·rw [List.nodup_iff_pairwise_ne, List.pairwise_map]
  refine List.Pairwise.imp_of_mem ?_ (List.Pairwise.filter P (List.nodup_iff_pairwise_ne.1 List.nodup_range))
  intro a b ha hb hne he
  have h1 := List.mem_range.1 (List.mem_filter.1 ha).1
  have h2 := List.mem_range.1 (List.mem_filter.1 hb).1
  exact hne (hel a b h1 h2 he)
 ·intro r hr
  obtain ⟨a, ha, rfl⟩ := List.mem_map.1 hr
  have h1 := List.mem_filter.1 ha
  exact hP a (List.mem_range.1 h1.1) h1.2
def mle : List (Lv N) → (Nat → Lv N) → Lv N
 | [], v => v 0
 | x :: r, v => (1 + x) * mle r v + x * mle r fun j => v (2 ^ r.length + j)
theorem mle_add : ∀ (r : List (Lv N)) (v w : Nat → Lv N), mle r (fun j => v j + w j) = mle r v + mle r w
 | [], v, w => rfl
 | x :: r, v, w => by
  rw [mle, mle, mle, mle_add r v w, mle_add r (fun j => v (2 ^ r.length + j)) (fun j => w (2 ^ r.length + j))]
  simp only [R2.mulAdd, R2.addMul, R2.addAssoc, R2.addComm, R2.addLeft]
theorem mle_congr : ∀ (r : List (Lv N)) (v w : Nat → Lv N), (∀ j, j < 2 ^ r.length → v j = w j) → mle r v = mle r w
 | [], v, w, h => h 0 (by simp)
 | x :: r, v, w, h => by
  have hp : 2 ^ (x :: r).length = 2 ^ r.length + 2 ^ r.length := by rw [List.length_cons, Nat.pow_succ]; omega
  rw [mle, mle, mle_congr r v w (fun j hj => h j (by omega)), mle_congr r (fun j => v (2 ^ r.length + j)) (fun j => w (2 ^ r.length + j)) (fun j hj => h _ (by omega))]
theorem mle_zero : ∀ (r : List (Lv N)), mle r (fun _ => 0) = 0
 | [] => rfl
 | x :: r => by rw [mle, mle_zero r, R2.mulZero, R2.mulZero, R2.addZero]
def digs (q : Nat) (el : Nat → Lv N) : Nat → Nat → List (Lv N)
 | 0, _ => []
 | n + 1, m => el (m / q ^ n) :: digs q el n (m % q ^ n)
theorem digs_len (q : Nat) (el : Nat → Lv N) : ∀ n m, (digs q el n m).length = n
 | 0, _ => rfl
 | n + 1, m => by rw [digs, List.length_cons, digs_len q el n]
theorem digs_at {q : Nat} (el : Nat → Lv N) {n m x : Nat} (hm : m < q ^ n) : digs q el (n + 1) (m + q ^ n * x) = el x :: digs q el n m := by
 have hp : 0 < q ^ n := by omega
 rw [digs, Nat.add_mul_div_left _ _ hp, Nat.div_eq_of_lt hm, Nat.zero_add, Nat.add_mul_mod_self_left, Nat.mod_eq_of_lt hm]
theorem cn_mle {q : Nat} {el : Nat → Lv N} (hel : ∀ a b, a < q → b < q → el a = el b → a = b) : ∀ (n : Nat) (v : Nat → Lv N) (P : Nat → Bool), (∃ j, j < 2 ^ n ∧ v j ≠ 0) → (∀ m, m < q ^ n → P m = true → mle (digs q el n m) v = 0) → q * cn (q ^ n) P ≤ n * q ^ n
 | 0, v, P, ⟨j, hj, hv⟩, hP => by
  have h0 : cn (q ^ 0) P = 0 := cn_zero fun m hm => by
   cases hp : P m with
   | false => rfl
   | true =>
    have := hP m hm hp
    have hj0 : j = 0 := by simpa using hj
    subst hj0
    exact absurd this hv
  rw [h0]; simp
 | n + 1, v, P, ⟨j, hj, hv⟩, hP => by
  have hpow : q ^ (n + 1) = q ^ n * q := Nat.pow_succ ..
  have h2 : 2 ^ (n + 1) = 2 ^ n + 2 ^ n := by rw [Nat.pow_succ]; omega
  rw [hpow, cn_prod (q ^ n) q P, sumN_swap q (q ^ n) (fun m x => P (m + q ^ n * x))]
  have hPx : ∀ m x, m < q ^ n → x < q → P (m + q ^ n * x) = true → mle (digs q el n m) v + el x * (mle (digs q el n m) v + mle (digs q el n m) fun j => v (2 ^ n + j)) = 0 := by
   intro m x hm hx hp
   have hlt : m + q ^ n * x < q ^ (n + 1) := by
    rw [hpow]
    calc m + q ^ n * x < q ^ n + q ^ n * x := by omega
     _ = q ^ n * (x + 1) := by rw [Nat.mul_add, Nat.mul_one, Nat.add_comm]
     _ ≤ q ^ n * q := Nat.mul_le_mul_left _ hx
   have := hP _ hlt hp
   rw [digs_at el hm, mle, digs_len] at this
   rw [← this]
   simp only [R2.mulAdd, R2.addMul, R2.oneMul, R2.addAssoc]
  by_cases hd : ∃ j, j < 2 ^ n ∧ v j + v (2 ^ n + j) ≠ 0
  ·have ih := cn_mle hel n (fun j => v j + v (2 ^ n + j)) (fun m => @decide (mle (digs q el n m) (fun j => v j + v (2 ^ n + j)) = 0) (Classical.propDecidable _)) hd (fun m _ h => by simpa using h)
   have hle : ∀ m, m < q ^ n → (cn q fun x => P (m + q ^ n * x)) ≤ (if (@decide (mle (digs q el n m) (fun j => v j + v (2 ^ n + j)) = 0) (Classical.propDecidable _)) = true then q else 0) + 1 := by
    intro m hm
    by_cases hh : mle (digs q el n m) (fun j => v j + v (2 ^ n + j)) = 0
    ·rw [if_pos (by simpa using hh)]
     have := cn_le q fun x => P (m + q ^ n * x)
     omega
    ·rw [if_neg (by simpa using hh)]
     have := cn_roots (c := [mle (digs q el n m) v, mle (digs q el n m) v + mle (digs q el n m) fun j => v (2 ^ n + j)]) hel (P := fun x => P (m + q ^ n * x)) (fun hz => hh (by
      rw [mle_add]
      exact hz _ (by simp))) (fun x hx hp => by
       have := hPx m x hm hx hp
       simpa only [ev, R2.mulZero, R2.addZero] using this)
     simp only [List.length_cons, List.length_nil] at this
     omega
   have hs := sumN_le hle
   rw [sumN_add, sumN_ite, sumN_const, Nat.mul_one] at hs
   calc q * sumN (q ^ n) (fun m => cn q fun x => P (m + q ^ n * x)) ≤ q * (cn (q ^ n) _ * q + q ^ n) := Nat.mul_le_mul_left _ hs
    _ = q * (q * cn (q ^ n) _) + q * q ^ n := by rw [Nat.mul_add, Nat.mul_comm (cn _ _) q]
    _ ≤ q * (n * q ^ n) + q * q ^ n := Nat.add_le_add_right (Nat.mul_le_mul_left _ ih) _
    _ = (n + 1) * (q ^ n * q) := by rw [Nat.add_mul, Nat.one_mul, Nat.mul_left_comm, Nat.mul_comm q (q ^ n)]
  ·have hd' : ∀ j, j < 2 ^ n → v j = v (2 ^ n + j) := fun j hj => Classical.byContradiction fun h => hd ⟨j, hj, fun h0 => h (R2.add_eq_zero h0)⟩
   have hv0 : ∃ j, j < 2 ^ n ∧ v j ≠ 0 := by
    by_cases hjn : j < 2 ^ n
    ·exact ⟨j, hjn, hv⟩
    ·refine ⟨j - 2 ^ n, by omega, ?_⟩
     rw [hd' _ (by omega), show 2 ^ n + (j - 2 ^ n) = j by omega]
     exact hv
   have ih := cn_mle hel n v (fun m => @decide (mle (digs q el n m) v = 0) (Classical.propDecidable _)) hv0 (fun m _ h => by simpa using h)
   have hle : ∀ m, m < q ^ n → (cn q fun x => P (m + q ^ n * x)) ≤ (if (@decide (mle (digs q el n m) v = 0) (Classical.propDecidable _)) = true then q else 0) := by
    intro m hm
    by_cases hh : mle (digs q el n m) v = 0
    ·rw [if_pos (by simpa using hh)]
     exact cn_le q _
    ·have h0 : (cn q fun x => P (m + q ^ n * x)) = 0 := cn_zero fun x hx => by
      cases hp : P (m + q ^ n * x) with
      | false => rfl
      | true =>
       have := hPx m x hm hx hp
       rw [mle_congr (digs q el n m) (fun j => v (2 ^ n + j)) v (fun j hj => (hd' j (by rwa [digs_len] at hj)).symm), R2.addSelf, R2.mulZero, R2.addZero] at this
       exact absurd this hh
     rw [h0]; exact Nat.zero_le _
   have hs := sumN_le hle
   rw [sumN_ite] at hs
   calc q * sumN (q ^ n) (fun m => cn q fun x => P (m + q ^ n * x)) ≤ q * (cn (q ^ n) _ * q) := Nat.mul_le_mul_left _ hs
    _ = q * (q * cn (q ^ n) _) := by rw [Nat.mul_comm (cn _ _) q]
    _ ≤ q * (n * q ^ n) := Nat.mul_le_mul_left _ ih
    _ = n * (q ^ n * q) := by rw [Nat.mul_left_comm, Nat.mul_comm q (q ^ n)]
    _ ≤ (n + 1) * (q ^ n * q) := Nat.mul_le_mul_right _ (Nat.le_succ n)
end Go.Proofs.Ytoaepfgfbfgcdaa.Steeple
set_option linter.unusedVariables false
set_option linter.unusedSimpArgs false
namespace Go.Proofs.Ytoaepfgfbfgcdaa.Q
open Go.RowKit Go.Proofs.YtoaepfgfbfgcdaaW.PrintWords Go.Proofs.YtoaepfgfbfgcdaaW.PrintLast Go.Proofs.YtoaepfgfbfgcdaaW.PrintMore
open Go.Proofs.Ytoaepfgfbfgcdaa.Steeple
def lin {N : Nat} : List (Lv N) → (Nat → Lv N) → Lv N
 | [], _ => 0
 | x :: r, v => x * v 0 + lin r fun j => v (j + 1)
theorem lin_append {N : Nat} : ∀ (a b : List (Lv N)) (v : Nat → Lv N), lin (a ++ b) v = lin a v + lin b fun j => v (a.length + j)
 | [], b, v => by
  rw [List.nil_append, lin, R2.zeroAdd]
  congr 1
  funext j
  rw [List.length_nil, Nat.zero_add]
 | x :: r, b, v => by
  rw [List.cons_append, lin, lin, lin_append r b, R2.addAssoc]
  congr 2
  congr 1
  funext j
  rw [List.length_cons]
  congr 1
  omega
theorem lin_scale {N : Nat} (c : Lv N) : ∀ (a : List (Lv N)) (v : Nat → Lv N), lin (a.map fun x => x * c) v = c * lin a v
 | [], v => by
  show (0 : Lv N) = c * 0
  rw [R2.mulZero]
 | x :: r, v => by
  show x * c * v 0 + lin (r.map fun x => x * c) (fun j => v (j + 1)) = c * (x * v 0 + lin r fun j => v (j + 1))
  rw [lin_scale c r]
  simp only [R2.mulAdd, R2.mulAssoc, R2.mulComm, R2.mulLeft]
def wE {N : Nat} : List (Lv N) → List (Lv N) → List (Lv N)
 | [], out => out
 | x :: r, out => wE r ((out.map fun o => o * (1 + x)) ++ out.map fun o => o * x)
theorem wE_snoc {N : Nat} (x : Lv N) : ∀ (p out : List (Lv N)), wE (p ++ [x]) out = ((wE p out).map fun o => o * (1 + x)) ++ (wE p out).map fun o => o * x
 | [], out => rfl
 | y :: r, out => by rw [List.cons_append, wE, wE, wE_snoc x r]
theorem wE_len {N : Nat} : ∀ (p out : List (Lv N)), (wE p out).length = out.length * 2 ^ p.length
 | [], out => by rw [wE, List.length_nil, Nat.pow_zero, Nat.mul_one]
 | y :: r, out => by
  rw [wE, wE_len r, List.length_append, List.length_map, List.length_map, List.length_cons, Nat.pow_succ]
  rw [← Nat.mul_two, Nat.mul_assoc, Nat.mul_comm 2]
theorem lin_wE {N : Nat} : ∀ (rp : List (Lv N)) (v : Nat → Lv N), lin (wE rp.reverse [1]) v = mle rp v
 | [], v => by
  show 1 * v 0 + 0 = v 0
  rw [R2.oneMul, R2.addZero]
 | x :: r, v => by
  rw [List.reverse_cons, wE_snoc, lin_append, lin_scale, lin_scale, lin_wE r, lin_wE r, List.length_map, wE_len, List.length_reverse, mle]
  congr 3
  funext j
  rw [List.length_singleton, Nat.one_mul]
theorem good_row {level : Int} {x : S28} {l : List S28} (hx : Good level x) (hl : ∀ y ∈ l, Good level y) : ∀ y ∈ rowS level x l, Good level y := by
 intro y hy
 obtain ⟨w, hw, rfl⟩ := List.mem_map.1 hy
 exact (hl w hw).mul hx
theorem zip_row {level : Int} {x : S28} (hx : Good level x) : ∀ {l : List S28}, (∀ y ∈ l, Good level y) → (∀ y ∈ List.zipWith xorE l (rowS level x l), Good level y) ∧ (List.zipWith xorE l (rowS level x l)).map E = (l.map E).map fun o => o * (1 + E x)
 | [], _ => ⟨fun y h => (by cases h), rfl⟩
 | w :: r, hl => by
  have hw := hl w List.mem_cons_self
  obtain ⟨h1, h2⟩ := zip_row hx (l := r) (fun y hy => hl y (List.mem_cons_of_mem _ hy))
  have e : rowS level x (w :: r) = MulS level w x :: rowS level x r := rfl
  rw [e, List.zipWith_cons_cons]
  refine ⟨fun y hy => ?_, ?_⟩
  ·rcases List.mem_cons.1 hy with rfl | hy
   ·exact hw.add (hw.mul hx)
   ·exact h1 y hy
  ·rw [List.map_cons, h2, List.map_cons, List.map_cons, hw.E_add (hw.mul hx), hw.E_mul hx, R2.mulAdd, R2.mulOne]
theorem row_E {level : Int} {x : S28} (hx : Good level x) {l : List S28} (hl : ∀ y ∈ l, Good level y) : (rowS level x l).map E = (l.map E).map fun o => o * E x := by
 unfold rowS
 rw [List.map_map, List.map_map]
 exact List.map_congr_left fun w hw => (hl w hw).E_mul hx
theorem wts_E {level : Int} : ∀ (p out : List S28), (∀ y ∈ p, Good level y) → (∀ y ∈ out, Good level y) → (∀ y ∈ wtsS level p out, Good level y) ∧ (wtsS level p out).map E = wE (p.map E) (out.map E)
 | [], out, _, ho => ⟨ho, rfl⟩
 | x :: r, out, hp, ho => by
  have hx := hp x List.mem_cons_self
  obtain ⟨z1, z2⟩ := zip_row hx ho
  have hr := good_row hx ho
  have := wts_E r (List.zipWith xorE out (rowS level x out) ++ rowS level x out) (fun y hy => hp y (List.mem_cons_of_mem _ hy)) (fun y hy => by
   rcases List.mem_append.1 hy with hy | hy
   ·exact z1 y hy
   ·exact hr y hy)
  rw [wtsS]
  refine ⟨this.1, ?_⟩
  rw [this.2, List.map_append, z2, row_E hx ho, List.map_cons, wE]
theorem Weights_eq {level : Int} {p : List S28} (h0 : 0 ≤ level) (h7 : level ≤ 7) (hp : p.length ≤ 16) (hg : ∀ y ∈ p, Good level y) : WeightsS level p = wtsS level p [⟨0, 1⟩] := by
 unfold WeightsS
 have hw : ¬ wideS level = 0 := fun h => by have := (wide_zero level).1 h; omega
 rw [if_neg hw, if_neg (by omega)]
 have ha : ¬ (p.any fun x => !ofB level x.f0 x.f1) = true := by
  intro h
  obtain ⟨x, hx, hb⟩ := List.any_eq_true.1 h
  have := (hg x hx).2
  unfold ofE at this
  rw [this] at hb
  cases hb
 rw [if_neg ha]
theorem wsum_lin {level : Int} {conds : List (List S149)} {ts : List (List S28)} {a : S28} {ws : List S28} {N : Nat} (hw : ∀ y ∈ ws, Good level y) (hl : ws.length = N) (hg : ∀ j, j < N → Good level (atS level conds ts a j)) : ∀ (f j : Nat) (acc : S28), f + j = N → Q28 acc →
  E (wsum level conds ts a ws f j acc) = E acc + lin ((ws.drop j).map E) (fun i => E (atS level conds ts a (j + i))) ∧ Q28 (wsum level conds ts a ws f j acc)
 | 0, j, acc, h, hq => by
  rw [List.drop_eq_nil_of_le (by omega)]
  exact ⟨by rw [List.map_nil, lin, R2.addZero]; rfl, hq⟩
 | f + 1, j, acc, h, hq => by
  have hj : j < ws.length := by omega
  have hwj : rd_T28 ws (j : Int) = ws[j] := by
   unfold rd_T28
   rw [List.getD_eq_getElem?_getD, Int.toNat_natCast, List.getElem?_eq_getElem hj]
   rfl
  have hgw : Good level ws[j] := hw _ (List.getElem_mem _)
  have hm := hgw.mul (hg j (by omega))
  obtain ⟨e1, e2⟩ := E_add hq hm.1
  obtain ⟨r1, r2⟩ := wsum_lin hw hl hg f (j + 1) _ (by omega) e2
  rw [wsum, hwj]
  refine ⟨?_, r2⟩
  rw [r1, e1, hgw.E_mul (hg j (by omega)), List.drop_eq_getElem_cons hj, List.map_cons, lin, R2.addAssoc, Nat.add_zero]
  congr 2
  congr 1
  funext i
  congr 2
  omega
theorem SumZ_mle {level : Int} {conds : List (List S149)} {ts : List (List S28)} {a : S28} {p : List S28} (hq : ∀ t ∈ ts, ∀ x ∈ t, Q28 x) (hc : ∀ c ∈ conds, ∀ o ∈ c, Q149 o) (ha : Q28 a) (hp : ∀ x ∈ p, Q28 x) (h : (SumZ level conds ts a p).2 = 0) :
  E (SumZ level conds ts a p).1 = mle (p.map E).reverse (fun i => E (atS level conds ts a i)) ∧ Q28 (SumZ level conds ts a p).1 := by
 obtain ⟨n, hn, hpl, e1, hT, hT', hoa, hmn, hk, hmx, hs⟩ := SumZ_wsum h
 have hL := of_level hoa
 have hpo := (SumZ_ok h).2.2.2.1
 rw [List.all_eq_true] at hpo
 have hgp : ∀ y ∈ p, Good level y := fun y hy => ⟨hp y hy, hpo y hy⟩
 have hW := Weights_eq hL.1 hL.2 (by omega) hgp
 obtain ⟨w1, w2⟩ := wts_E p [⟨0, 1⟩] hgp (fun y hy => by rw [List.mem_singleton.1 hy]; exact Good.one hL.1 hL.2)
 have hlen : (WeightsS level p).length = 2 ^ n := by
  have := hT'.2 (WeightsS level p) (by simp)
  exact this.1
 rw [← hW] at w1 w2
 have hg : ∀ j, j < 2 ^ n → Good level (atS level conds ts a j) := fun j hj => at_good ⟨ha, hoa⟩ hT hq hc hk hj
 obtain ⟨r1, r2⟩ := wsum_lin w1 hlen hg (2 ^ n) 0 ⟨0, 0⟩ rfl q_zero
 rw [hs]
 refine ⟨?_, r2⟩
 rw [r1, E_zero, R2.zeroAdd, List.drop_zero, w2]
 have e2 : ([(⟨0, 1⟩ : S28)].map E) = [(1 : Lv 7)] := by rw [List.map_cons, E_one]; rfl
 rw [e2, ← List.reverse_reverse (p.map E), lin_wE, List.reverse_reverse]
 congr 1
 funext i
 rw [Nat.zero_add]
theorem mixV_E {level : Int} {a : S28} (ha : Good level a) : ∀ (l : List S28) (b S : S28), (∀ x ∈ l, Good level x) → Good level b → Good level S → E (mixV level a l b S) = E S + E b * (E a * ev (l.map E) (E a))
 | [], b, S, hl, hb, hS => by rw [mixV, List.map_nil, ev, R2.mulZero, R2.mulZero, R2.addZero]
 | x :: r, b, S, hl, hb, hS => by
  have hx := hl x List.mem_cons_self
  have hba := hb.mul ha
  rw [mixV, mixV_E ha r _ _ (fun y hy => hl y (List.mem_cons_of_mem _ hy)) hba (hS.add (hba.mul hx)), hS.E_add (hba.mul hx), hba.E_mul hx, hb.E_mul ha, List.map_cons, ev]
  simp only [R2.mulAdd, R2.addMul, R2.addAssoc, R2.addComm, R2.addLeft, R2.mulAssoc, R2.mulComm, R2.mulLeft]
theorem mixV0_E {level : Int} {a : S28} (ha : Good level a) (l : List S28) (hl : ∀ x ∈ l, Good level x) : E (mixV0 level a l) = ev (l.map E) (E a) := by
 have hL := of_level ha.2
 cases l with
 | nil => rw [mixV0, List.map_nil, ev, E_zero]
 | cons x r => rw [mixV0, mixV_E ha r _ _ (fun y hy => hl y (List.mem_cons_of_mem _ hy)) (Good.one hL.1 hL.2) (hl x List.mem_cons_self), E_one, R2.oneMul, List.map_cons, ev]
def elS (d : Nat) : S28 := ⟨0, (d : Int)⟩
def digL (q : Nat) : Nat → Nat → List S28
 | 0, _ => []
 | n + 1, m => elS (m % q) :: digL q n (m / q)
theorem digL_len (q : Nat) : ∀ n m, (digL q n m).length = n
 | 0, _ => rfl
 | n + 1, m => by rw [digL, List.length_cons, digL_len q n]
theorem digL_snoc (q : Nat) (hq : 0 < q) : ∀ n m, m < q ^ (n + 1) → digL q (n + 1) m = digL q n (m % q ^ n) ++ [elS (m / q ^ n)]
 | 0, m, h => by
  rw [Nat.pow_succ, Nat.pow_zero, Nat.one_mul] at h
  show [elS (m % q)] = [elS (m / q ^ 0)]
  rw [Nat.pow_zero, Nat.div_one, Nat.mod_eq_of_lt h]
 | n + 1, m, h => by
  have h1 : m / q < q ^ (n + 1) := by
   rw [Nat.pow_succ] at h
   exact Nat.div_lt_of_lt_mul (by rwa [Nat.mul_comm] at h)
  have e1 : m % q ^ (n + 1) % q = m % q := Nat.mod_mod_of_dvd m (by rw [Nat.pow_succ]; exact Nat.dvd_mul_left q (q ^ n))
  have e2 : m % q ^ (n + 1) / q = m / q % q ^ n := by
   rw [Nat.pow_succ, Nat.mul_comm, Nat.mod_mul_right_div_self]
  have e3 : m / q / q ^ n = m / q ^ (n + 1) := by rw [Nat.div_div_eq_div_mul, Nat.pow_succ, Nat.mul_comm]
  rw [digL, digL_snoc q hq n (m / q) h1, e3]
  show elS (m % q) :: (digL q n (m / q % q ^ n) ++ [elS (m / q ^ (n + 1))]) = digL q (n + 1) (m % q ^ (n + 1)) ++ [elS (m / q ^ (n + 1))]
  rw [digL, e1, e2]
  rfl
theorem digL_rev (q : Nat) (hq : 0 < q) : ∀ n m, m < q ^ n → ((digL q n m).map E).reverse = digs q (fun d => E (elS d)) n m
 | 0, m, h => rfl
 | n + 1, m, h => by
  rw [digL_snoc q hq n m h, List.map_append, List.reverse_append, digL_rev q hq n _ (Nat.mod_lt _ (Nat.pow_pos hq))]
  rfl
theorem el_good {d : Nat} (h : d < 2 ^ 64) : Q28 (elS d) := q28.2 ⟨0, d, by decide, h, rfl⟩
theorem digL_good {q : Nat} (hq : 0 < q) (h4 : q ≤ 4) : ∀ n m, ∀ x ∈ digL q n m, Q28 x
 | 0, m, x, hx => by cases hx
 | n + 1, m, x, hx => by
  rw [digL] at hx
  rcases List.mem_cons.1 hx with rfl | hx
  ·have := Nat.mod_lt m hq
   exact el_good (by omega)
  ·exact digL_good hq h4 n _ x hx
theorem el_inj {q : Nat} (h4 : q ≤ 4) : ∀ a b, a < q → b < q → E (elS a) = E (elS b) → a = b := by
 intro a b ha hb h
 have := E_inj (el_good (d := a) (by omega)) (el_good (d := b) (by omega)) h
 have h2 : (a : Int) = (b : Int) := congrArg S28.f1 this
 omega
theorem tmod_w {x q : Nat} (hq : 0 < q) (h4 : q ≤ 4) : IntKind.u64.wrap (Int.tmod (x : Int) (q : Int)) = ((x % q : Nat) : Int) := by
 have hm := Nat.mod_lt x hq
 exact u64_wrap (n := x % q) (Nat.lt_of_lt_of_le hm (Nat.le_trans h4 (by decide)))
theorem tdiv_w {x q : Nat} (hx : x < 1000) : wrap64 (Int.tdiv (x : Int) (q : Int)) = ((x / q : Nat) : Int) := by
 have hd := Nat.lt_of_le_of_lt (Nat.div_le_self x q) hx
 show wrap64 ((x / q : Nat) : Int) = ((x / q : Nat) : Int)
 generalize x / q = y at hd ⊢
 exact w64_id (by omega) (by omega)
section
variable (level : Int) (conds : List (List S149)) (ts : List (List S28)) (q n : Nat)
def sumAt (k : Nat) : S28 × Int := SumZ level conds ts (elS (k % q)) (digL q n (k / q))
theorem not_holds {N : Nat} : ∀ (f i : Nat), holdsL level conds ts f i = false → ∃ j, i ≤ j ∧ j < i + f ∧ ∃ c ∈ conds, (EvalS level c (colS ts (j : Int))).1 ≠ ⟨0, 0⟩
 | 0, i, h => by cases h
 | f + 1, i, h => by
  rw [holdsL, Bool.and_eq_false_iff] at h
  rcases h with h | h
  ·rw [List.all_eq_false] at h
   obtain ⟨c, hc, hz⟩ := h
   exact ⟨i, Nat.le_refl _, by omega, c, hc, fun e => hz (isZ_iff.2 e)⟩
  ·obtain ⟨j, h1, h2, h3⟩ := not_holds (N := N) f (i + 1) h
   exact ⟨j, by omega, by omega, h3⟩
theorem few_zeros (hq : 0 < q) (h4 : q ≤ 4) (hqt : ∀ t ∈ ts, ∀ x ∈ t, Q28 x) (hcs : ∀ c ∈ conds, ∀ o ∈ c, Q149 o) (hk : askS level conds ts = 0) (hh : holdsL level conds ts (rdR ts 0).length 0 = false) (hok : ∀ k, k < q * q ^ n → (sumAt level conds ts q n k).2 = 0) : cn (q * q ^ n) (fun k => isZ (sumAt level conds ts q n k).1) ≤ (conds.length - 1 + n) * q ^ n := by
 have hp : 0 < q ^ n := Nat.pow_pos hq
 obtain ⟨N, hN⟩ : ∃ N, (rdR ts 0).length = N := ⟨_, rfl⟩
 rw [hN] at hh
 obtain ⟨j0, _, hj0, c0, hc0, hne⟩ := not_holds level conds ts (N := N) N 0 hh
 rw [Nat.zero_add] at hj0
 have h00 := hok 0 (Nat.mul_pos hq hp)
 obtain ⟨ν, _, hpl, e1, hT, _, hoa, hmn, hkk, _, _⟩ := SumZ_wsum h00
 rw [digL_len] at hpl
 subst hpl
 rw [hN] at e1
 subst e1
 have hL := of_level hoa
 have hcl : (colS ts (j0 : Int)).length = ts.length := by simp [colS]
 have hvals : ∀ x ∈ conds.map fun c => evalS level c (colS ts (j0 : Int)), Good level x := by
  intro x hx
  obtain ⟨c, hcc, rfl⟩ := List.mem_map.1 hx
  exact eval_good (col_good hT hqt hj0) (by rw [hcl]; exact hkk c hcc) (hcs c hcc)
 have hnz : ¬ AllZ ((conds.map fun c => evalS level c (colS ts (j0 : Int))).map E) := by
  intro hz
  have hx : evalS level c0 (colS ts (j0 : Int)) ∈ conds.map fun c => evalS level c (colS ts (j0 : Int)) := List.mem_map.2 ⟨c0, hc0, rfl⟩
  have h1 := hz _ (List.mem_map.2 ⟨_, hx, rfl⟩)
  have h2 : evalS level c0 (colS ts (j0 : Int)) = ⟨0, 0⟩ := E_inj (hvals _ hx).1 q_zero (by rw [h1, E_zero])
  apply hne
  unfold EvalS
  rw [hcl, if_pos (hkk c0 hc0), if_pos (col_all hT hj0)]
  exact h2
 have hgel : ∀ a, a < q → Good level (elS a) := by
  intro a ha
  have hlt : a < q * q ^ n := Nat.lt_of_lt_of_le ha (Nat.le_mul_of_pos_right q hp)
  have := hok a hlt
  unfold sumAt at this
  rw [Nat.mod_eq_of_lt ha] at this
  obtain ⟨_, _, _, _, _, _, ho, _⟩ := SumZ_wsum this
  exact ⟨el_good (by omega), ho⟩
 have hat : ∀ a, a < q → E (atS level conds ts (elS a) j0) = ev ((conds.map fun c => evalS level c (colS ts (j0 : Int))).map E) (E (elS a)) := fun a ha => mixV0_E (hgel a ha) _ hvals
 obtain ⟨B, hB⟩ : ∃ B : Nat → Bool, ∀ a, B a = true ↔ E (atS level conds ts (elS a) j0) = 0 := ⟨fun a => @decide (E (atS level conds ts (elS a) j0) = 0) (Classical.propDecidable _), fun a => by simp⟩
 have hBn : cn q B < conds.length := by
  have := cn_roots (c := (conds.map fun c => evalS level c (colS ts (j0 : Int))).map E) (el_inj h4) hnz (P := B) (fun a ha hb => by rw [← hat a ha]; exact (hB a).1 hb)
  simpa using this
 have hP : ∀ a m, a < q → m < q ^ n → isZ (sumAt level conds ts q n (a + q * m)).1 = true → mle (digs q (fun d => E (elS d)) n m) (fun i => E (atS level conds ts (elS a) i)) = 0 := by
  intro a m ha hm hz
  have e1 : (a + q * m) % q = a := by rw [Nat.add_mul_mod_self_left, Nat.mod_eq_of_lt ha]
  have e2 : (a + q * m) / q = m := by rw [Nat.add_mul_div_left _ _ hq, Nat.div_eq_of_lt ha, Nat.zero_add]
  have hlt : a + q * m < q * q ^ n := by
   calc a + q * m < q + q * m := by omega
    _ = q * (m + 1) := by rw [Nat.mul_add, Nat.mul_one, Nat.add_comm]
    _ ≤ q * q ^ n := Nat.mul_le_mul_left _ hm
  have ho := hok _ hlt
  unfold sumAt at hz ho
  rw [e1, e2] at hz ho
  have := (SumZ_mle hqt hcs (hgel a ha).1 (digL_good hq h4 n m) ho).1
  rw [digL_rev q hq n m hm, isZ_iff.1 hz, E_zero] at this
  exact this.symm
 rw [cn_prod, sumN_swap (q ^ n) q (fun a m => isZ (sumAt level conds ts q n (a + q * m)).1)]
 have hle : ∀ a, a < q → q * (cn (q ^ n) fun m => isZ (sumAt level conds ts q n (a + q * m)).1) ≤ (if B a = true then q * q ^ n else 0) + n * q ^ n := by
  intro a ha
  by_cases hb : B a = true
  ·rw [if_pos hb]
   have := Nat.mul_le_mul_left q (cn_le (q ^ n) fun m => isZ (sumAt level conds ts q n (a + q * m)).1)
   omega
  ·rw [if_neg hb, Nat.zero_add]
   refine cn_mle (el_inj h4) n (fun i => E (atS level conds ts (elS a) i)) _ ⟨j0, hj0, fun h0 => hb ((hB a).2 h0)⟩ (fun m hm hz => hP a m ha hm hz)
 have hs : q * sumN q (fun a => cn (q ^ n) fun m => isZ (sumAt level conds ts q n (a + q * m)).1) ≤ cn q B * (q * q ^ n) + q * (n * q ^ n) := by
  have h1 : ∀ (k : Nat) (f : Nat → Nat), q * sumN k f = sumN k fun j => q * f j := by
   intro k f
   induction k with
   | zero => rfl
   | succ k ih => rw [sumN, sumN, Nat.mul_add, ih]
  rw [h1]
  have h2 := sumN_le hle
  rw [sumN_add, sumN_ite, sumN_const] at h2
  exact h2
 have hfin : cn q B * (q * q ^ n) + q * (n * q ^ n) ≤ q * ((conds.length - 1 + n) * q ^ n) := by
  rw [Nat.add_mul, Nat.mul_add]
  refine Nat.add_le_add_right ?_ _
  rw [Nat.mul_left_comm]
  exact Nat.mul_le_mul_left q (Nat.mul_le_mul_right _ (by omega))
 exact Nat.le_of_mul_le_mul_left (Nat.le_trans hs hfin) hq
def cntF (k : Nat) : Nat → Nat
 | 0 => 0
 | f + 1 => (if isZ (sumAt level conds ts q n k).1 = true then 1 else 0) + cntF (k + 1) f
theorem cntF_eq : ∀ (f k : Nat), cntF level conds ts q n k f = cn f fun j => isZ (sumAt level conds ts q n (k + j)).1
 | 0, k => rfl
 | f + 1, k => by
  rw [cntF, cntF_eq f (k + 1), show f + 1 = 1 + f by omega, cn_add]
  congr 1
  ·by_cases h : isZ (sumAt level conds ts q n k).1 = true
   ·rw [if_pos h]; simp [cn, h]
   ·rw [if_neg h]; simp [cn, h]
  ·congr 1
   funext j
   rw [show k + 1 + j = k + (1 + j) by omega]
theorem counts_l3 (hq : 0 < q) (h4 : q ≤ 4) (hts : ts.length ≤ 5) (all z k : Nat) (hk : k < 1000) (hz : z < 1000)
  (hr : (sumAt level conds ts q n k).2 = 0 → Ev (fun m => steeplelaw21_ZeroCounts.l2 m level (q : Int) (n : Int) (all : Int) ((z + (if isZ (sumAt level conds ts q n k).1 = true then 1 else 0) : Nat) : Int) (wrap64 ((k : Int) + 1)) conds ts) true) :
  ∀ (r x : Nat) (p : List S28), p.length + r = n → n ≤ 2 → x < 1000 → p ++ digL q r x = digL q n (k / q) → Ev (fun m => steeplelaw21_ZeroCounts.l3 m level (q : Int) (n : Int) (all : Int) (z : Int) (k : Int) p (x : Int) (p.length : Int) conds ts (elS (k % q)).f0 (elS (k % q)).f1) true
 | 0, x, p, hl, hn, hx, hp => by
  refine Ev.succ ?_
  simp only [steeplelaw21_ZeroCounts.l3]
  refine Ev.neg (by omega) ?_
  rw [digL, List.append_nil] at hp
  rw [hp]
  refine Ev.bind (SumZ_ev level conds ts (elS (k % q)) (digL q n (k / q)) (by omega)) ?_
  by_cases h : (sumAt level conds ts q n k).2 = 0
  ·have hr' := hr h
   unfold sumAt at h hr'
   refine Ev.pos h ?_
   by_cases hzz : isZ (SumZ level conds ts (elS (k % q)) (digL q n (k / q))).1 = true
   ·rw [if_pos hzz] at hr'
    refine Ev.pos hzz ?_
    rw [w64_succ (n := z) (by omega)]
    exact hr'
   ·rw [if_neg hzz] at hr'
    exact Ev.neg hzz hr'
  ·exact Ev.neg h (Ev.bind awake21_ev (Ev.pure _))
 | r + 1, x, p, hl, hn, hx, hp => by
  refine Ev.succ ?_
  simp only [steeplelaw21_ZeroCounts.l3]
  refine Ev.pos (by omega) (Ev.neg (by omega) (Ev.pos (by omega) ?_))
  rw [tmod_w hq h4, tdiv_w hx, w64_succ (by omega)]
  have := counts_l3 hq h4 hts all z k hk hz hr r (x / q) (p ++ [elS (x % q)]) (by simp; omega) hn (Nat.lt_of_le_of_lt (Nat.div_le_self x q) hx) (by rw [← hp, digL]; simp)
  rw [show (p ++ [elS (x % q)]).length = p.length + 1 by simp] at this
  exact this
theorem counts_l2 (hq : 0 < q) (h4 : q ≤ 4) (hts : ts.length ≤ 5) (hn : n ≤ 2) (hc : conds.length ≤ 50) (h0 : 0 < conds.length) (hall : q * q ^ n ≤ 100) : ∀ (f k z : Nat), f + k = q * q ^ n → z ≤ k →
  ((∀ j, k ≤ j → j < q * q ^ n → (sumAt level conds ts q n j).2 = 0) → z + cntF level conds ts q n k f ≤ (conds.length - 1 + n) * q ^ n) →
  Ev (fun m => steeplelaw21_ZeroCounts.l2 m level (q : Int) (n : Int) ((q * q ^ n : Nat) : Int) (z : Int) (k : Int) conds ts) true
 | 0, k, z, hf, hz, hb => by
  refine Ev.succ ?_
  simp only [steeplelaw21_ZeroCounts.l2]
  refine Ev.neg (by omega) (Ev.bind awake21_ev (Ev.pos rfl (Ev.neg (by omega) (Ev.const ?_))))
  have hle := hb (fun j h1 h2 => by omega)
  rw [cntF, Nat.add_zero] at hle
  have hp : 0 < q ^ n := Nat.pow_pos hq
  have hqn : q ^ n ≤ 100 := Nat.le_trans (Nat.le_mul_of_pos_left _ hq) hall
  have e1 : wrap64 (Int.tdiv ((q * q ^ n : Nat) : Int) (q : Int)) = ((q ^ n : Nat) : Int) := by
   have : Int.tdiv ((q * q ^ n : Nat) : Int) (q : Int) = ((q * q ^ n / q : Nat) : Int) := rfl
   rw [this, Nat.mul_div_cancel_left _ hq]
   exact w64_id (by omega) (by omega)
  have e2 : wrap64 (wrap64 ((conds.length : Int) - 1) + (n : Int)) = ((conds.length - 1 + n : Nat) : Int) := by
   rw [w64_id (n := (conds.length : Int) - 1) (by omega) (by omega), w64_id (by omega) (by omega)]
   omega
  have hprod : (conds.length - 1 + n) * q ^ n ≤ 100 * 100 := Nat.mul_le_mul (by omega) hqn
  have e3 : wrap64 (((conds.length - 1 + n : Nat) : Int) * ((q ^ n : Nat) : Int)) = (((conds.length - 1 + n) * q ^ n : Nat) : Int) := by
   rw [← Int.natCast_mul]
   obtain ⟨X, hX⟩ : ∃ X, (conds.length - 1 + n) * q ^ n = X := ⟨_, rfl⟩
   rw [hX] at hprod ⊢
   exact w64_id (by omega) (by omega)
  rw [e1, e2, e3]
  congr 1
  exact decide_eq_true (by exact_mod_cast hle)
 | f + 1, k, z, hf, hz, hb => by
  refine Ev.succ ?_
  simp only [steeplelaw21_ZeroCounts.l2]
  refine Ev.pos (by omega) (Ev.neg (by omega) ?_)
  have hk1 : k < 1000 := by omega
  rw [tmod_w hq h4, tdiv_w hk1]
  refine counts_l3 level conds ts q n hq h4 hts (q * q ^ n) z k hk1 (by omega) ?_ n (k / q) [] (by simp) hn (Nat.lt_of_le_of_lt (Nat.div_le_self k q) hk1) rfl
  intro hok
  rw [w64_succ (by omega)]
  refine counts_l2 hq h4 hts hn hc h0 hall f (k + 1) _ (by omega) (by split <;> omega) ?_
  intro hrest
  have := hb (fun j h1 h2 => by
   rcases Nat.lt_or_ge k j with h | h
   ·exact hrest j h h2
   ·rw [show j = k by omega]; exact hok)
  rw [cntF] at this
  omega
theorem counts_l1 (hq : 0 < q) (h4 : q ≤ 4) (hn : n ≤ 2) (H : Ev (fun m => steeplelaw21_ZeroCounts.l2 m level (q : Int) (n : Int) ((q * q ^ n : Nat) : Int) 0 0 conds ts) true) : ∀ (r i : Nat), i + r = n → Ev (fun m => steeplelaw21_ZeroCounts.l1 m level (q : Int) (n : Int) ((q * q ^ i : Nat) : Int) 0 (i : Int) conds ts) true
 | 0, i, hi => by
  refine Ev.succ ?_
  simp only [steeplelaw21_ZeroCounts.l1]
  refine Ev.neg (by omega) ?_
  have : i = n := by omega
  subst this
  exact H
 | r + 1, i, hi => by
  refine Ev.succ ?_
  simp only [steeplelaw21_ZeroCounts.l1]
  refine Ev.pos (by omega) ?_
  have hb : q * q ^ (i + 1) ≤ 4 * 4 ^ 2 := Nat.mul_le_mul h4 (Nat.le_trans (Nat.pow_le_pow_left h4 _) (Nat.pow_le_pow_right (by decide) (by omega)))
  have e : wrap64 (((q * q ^ i : Nat) : Int) * (q : Int)) = ((q * q ^ (i + 1) : Nat) : Int) := by
   rw [← Int.natCast_mul, show q * q ^ i * q = q * q ^ (i + 1) by rw [Nat.pow_succ, Nat.mul_assoc]]
   obtain ⟨X, hX⟩ : ∃ X, q * q ^ (i + 1) = X := ⟨_, rfl⟩
   rw [hX] at hb ⊢
   exact w64_id (by omega) (by omega)
  rw [e, w64_succ (by omega)]
  exact counts_l1 hq h4 hn H r (i + 1) (by omega)
end
theorem counts_l0 (level : Int) (conds : List (List S149)) (ts : List (List S28)) (q : Nat) (h0 : 0 < ts.length) (hN : (rd_L11 ts 0).length ≤ 4) (H : ∀ n : Nat, n ≤ 2 → Ev (fun m => steeplelaw21_ZeroCounts.l1 m level (q : Int) (n : Int) (q : Int) 0 0 conds ts) true) : ∀ (r i : Nat), i + r = 2 → Ev (fun m => steeplelaw21_ZeroCounts.l0 m level (q : Int) (i : Int) conds ts) true
 | 0, i, hi => by
  have : i = 2 := by omega
  subst this
  refine Ev.succ ?_
  simp only [steeplelaw21_ZeroCounts.l0]
  refine Ev.pos (by omega) (Ev.pos (by decide) (Ev.neg ?_ (H 2 (by omega))))
  have : shl .i64 1 (IntKind.u64.wrap ((2 : Nat) : Int)) = 4 := by decide +kernel
  rw [this]
  omega
 | r + 1, i, hi => by
  have IH := counts_l0 level conds ts q h0 hN H r (i + 1) (by omega)
  refine Ev.succ ?_
  simp only [steeplelaw21_ZeroCounts.l0]
  rw [u64_wrap (n := i) (by omega)]
  refine Ev.pos (by omega) (Ev.pos (by omega) ?_)
  by_cases hc : ((rd_L11 ts 0).length : Int) > shl .i64 1 (i : Int)
  ·refine Ev.pos hc ?_
   rw [w64_succ (by omega)]
   exact IH
  ·exact Ev.neg hc (H i (by omega))
theorem few09_ok {ts : List (List S28)} {a m : Int} (h : few09 ts a m = true) : ∀ t ∈ ts, (t.length : Int) ≤ m := by
 unfold few09 at h
 by_cases h3 : (ts.length : Int) > a
 ·rw [if_pos h3] at h; cases h
 ·rw [if_neg h3, List.all_eq_true] at h
  exact fun t ht => of_decide_eq_true (h t ht)
theorem zeroCounts_pure : ∀ (a0 : Int) (x1_0 : (List (List S149))) (x1_1 : (List (List S28))), InK .i64 a0 → (QL (QL Q149)) x1_0 → (QL (QL Q28)) x1_1 → ∃ k, steeplelaw21_ZeroCounts.f k a0 x1_0 x1_1 = some true := by
 intro level conds ts _ qc qt
 refine Ev.get ?_
 have J1 : ∀ b : Bool, (b = false → (level = 0 ∨ level = 1) ∧ ts.length ≤ 5 ∧ (∀ t ∈ ts, (t.length : Int) ≤ 4) ∧ askS level conds ts = 0 ∧ holdsL level conds ts (rdR ts 0).length 0 = false) → Ev (fun k => steeplelaw21_ZeroCounts.j1 k level b conds ts) true := by
  intro b hb
  refine Ev.succ ?_
  simp only [steeplelaw21_ZeroCounts.j1, Option.bind_some]
  cases b with
  | true => exact Ev.pos rfl (Ev.bind awake21_ev (Ev.pure _))
  | false =>
   obtain ⟨hl, hts, hlen, hask, hh⟩ := hb rfl
   obtain ⟨c1, c2, _⟩ := ask_ok hask
   obtain ⟨ν, _, _, _, hT⟩ := ask_tables hask
   have h0 := List.length_pos_iff.2 hT.1
   have hN : (rd_L11 ts 0).length ≤ 4 := by
    have := hlen (rd_L11 ts 0) (by
     unfold rd_L11
     rw [List.getD_eq_getElem?_getD, List.getElem?_eq_getElem (by exact h0)]
     exact List.getElem_mem _)
    omega
   obtain ⟨q, hq2, hq0, h4⟩ : ∃ q : Nat, rd [2, 4] level = (q : Int) ∧ 0 < q ∧ q ≤ 4 := by
    rcases hl with rfl | rfl
    ·exact ⟨2, rfl, by omega, by omega⟩
    ·exact ⟨4, rfl, by omega, by omega⟩
   refine Ev.neg (by simp) (Ev.pos (by omega) (Ev.pos (by simp; omega) ?_))
   rw [hq2]
   refine counts_l0 level conds ts q h0 hN ?_ 2 0 rfl
   intro n hn
   have hall : q * q ^ n ≤ 100 := Nat.le_trans (Nat.mul_le_mul h4 (Nat.le_trans (Nat.pow_le_pow_left h4 n) (Nat.pow_le_pow_right (by decide) hn))) (by decide)
   have H2 := counts_l2 level conds ts q n hq0 h4 hts hn (by omega) c1 hall (q * q ^ n) 0 0 rfl (Nat.le_refl _) (fun hok => by
    rw [Nat.zero_add, cntF_eq]
    have := few_zeros level conds ts q n hq0 h4 (fun t ht => (qt.2 t ht).2) (fun c hc => (qc.2 c hc).2) hask hh (fun k hk => hok k (Nat.zero_le _) hk)
    simpa using this)
   have := counts_l1 level conds ts q n hq0 h4 hn H2 n 0 (by omega)
   rw [Nat.pow_zero, Nat.mul_one] at this
   exact this
 have J0 : ∀ b : Bool, (b = false → (level = 0 ∨ level = 1) ∧ ts.length ≤ 5 ∧ (∀ t ∈ ts, (t.length : Int) ≤ 4)) → Ev (fun k => steeplelaw21_ZeroCounts.j0 k level b conds ts) true := by
  intro b hb
  refine Ev.succ ?_
  simp only [steeplelaw21_ZeroCounts.j0]
  cases b with
  | true => exact Ev.pos rfl (Ev.bind awake21_ev (Ev.pure _))
  | false =>
   obtain ⟨hl, hts, hlen⟩ := hb rfl
   refine Ev.neg (by simp) (Ev.bind (Holds_ev level conds ts (by omega)) ?_)
   by_cases h : (HoldsS level conds ts).2 = 0
   ·refine Ev.pos h (J1 _ (fun hf => ⟨hl, hts, hlen, ?_⟩))
    unfold HoldsS at h hf
    by_cases ha : askS level conds ts = 0
    ·rw [if_pos ha] at hf
     exact ⟨ha, hf⟩
    ·rw [if_neg ha] at h
     exact absurd h ha
   ·exact Ev.neg h (J1 _ (fun hf => by cases hf))
 simp only [steeplelaw21_ZeroCounts.f]
 refine Ev.bind (few21_ev conds ts) ?_
 by_cases h : few21 conds ts = true
 ·refine Ev.pos h ?_
  by_cases h0 : level < 0
  ·exact Ev.pos h0 (J0 _ (fun h => by cases h))
  ·refine Ev.neg h0 ?_
   by_cases h1 : level > 1
   ·exact Ev.pos h1 (J0 _ (fun h => by cases h))
   ·refine Ev.neg h1 (Ev.bind (few09_ev ts 5 4 (by omega)) (J0 _ (fun hb => ⟨by omega, few21_ok h, few09_ok (by simpa using hb)⟩)))
 ·exact Ev.neg h (J0 _ (fun h => by cases h))
end Go.Proofs.Ytoaepfgfbfgcdaa.Q
namespace Go.Proofs.Ytoaepfgfbfgcdaa.zeroCounts
open Go.RowKit Go.ChangeShapes Go.WideShapes Go.ChangeAt Go.Proofs.Ytoaepfgfbfgcdaa.Q Go.Proofs.YtoaepfgfbfgcdaaW.PrintWords Go.Proofs.YtoaepfgfbfgcdaaW.PrintLast Go.Proofs.YtoaepfgfbfgcdaaW.PrintMore
set_option linter.unusedVariables false
set_option linter.unusedSimpArgs false
theorem own : ownKnob Try.prog.godebug = none := by kernel_rfl
theorem laidOut : laidOutB Try.prog = true := by kernel_rfl
set_option maxRecDepth 100000 in
theorem lifted (os : Os) (started : os.Started) (H : Type) (enc : TypeId × Value → H) :
  ReturnsInHanded {} Try.checked os 6 .any (Rows.zeroCountsSpec.pre6 enc Try.prog Try.f6 Rows.zeroCountsRow.domain false) (Rows.zeroCountsSpec.post enc Try.prog Try.f6 false true false false) := by
 refine returnsInHanded_of_change_sized (C := Try.checked) own started (by kernel_rfl) Try.func6
  (ChangeSpec.witness6 (enc := enc) (C := Try.checked) false ⟨#[], #[.int .i64 0, .agg #[.slice none 0 0, .slice none 0 0]], []⟩ 8 (by kernel_rfl) (by kernel_rfl) (by kernel_rfl) (by kernel_rfl)) ?_
 intro W base args ds gs before hval0 hW hcnd hsz0 _
 have hval : ∀ (j : Nat) t v, Try.f6.params[j]? = some t → args[j]? = some v → Value.okWide Try.prog W .any base t v := hval0
 have hW' := hW
 obtain ⟨p, q, hA0, hV, rfl, hfz, hnd⟩ := hW
 have hA : DataW.TrodAll enc Try.prog W 0 (fun _ => true) true Try.f6.params.toList args.toList ds p := hA0
 rw [Try.params6] at hA hval
 obtain ⟨v0, vs0, d0, ds0, p0, q0, hargs, rfl, rfl, h0, r0⟩ := trodAll_cons hA
 obtain ⟨v1, vs1, d1, ds1, p1, q1, rfl, rfl, rfl, h1, r1⟩ := trodAll_cons r0
 obtain ⟨rfl, rfl, rfl⟩ := trodAll_nil r1
 obtain rfl : args = #[v0, v1] := by cases args; simp_all
 obtain ⟨rfl, rfl⟩ := trodVars_none hV
 obtain ⟨a0, rfl⟩ := okWide_int Try.underlying3 (hval 0 3 v0 rfl rfl)
 have Q0_0 : InK .i64 a0 := by
  obtain ⟨m, hm⟩ := h0
  obtain ⟨n', hq, e2⟩ := opens_int Try.underlying3 hm
  obtain rfl : a0 = n' := by simpa [Value.cells, Kd.int, Kd.scalar] using e2
  exact hq
 obtain ⟨cs1, rfl, _⟩ := okWide_struct Try.underlying59 (hval 1 59 v1 rfl rfl)
 obtain ⟨m1, hm1⟩ := id h1
 obtain ⟨x1_0, x1_1, A1_0, d1_0, A1_1, d1_1, Q1_0, Q1_1, e1, hc1_0, hr1_0, hc1_1, hr1_1⟩ := opens59 hm1
 obtain rfl : cs1 = #[.slice A1_0 x1_0.length d1_0, .slice A1_1 x1_1.length d1_1] := by rw [← Array.toList_inj]; exact e1
 clear hA0 hval0 hsz0
 obtain ⟨k, hk⟩ := zeroCounts_pure a0 x1_0 x1_1 Q0_0 Q1_0 Q1_1
 refine (steeplelaw21_ZeroCounts.calls k a0 A1_0 d1_0 x1_0 A1_1 d1_1 x1_1 true W hr1_0 hc1_0 hr1_1 hc1_1 hk).mono fun e W' ⟨he, bel⟩ => ?_
 subst he
 exact ⟨_, rfl, _, _, _, [], _, [], hW', trodAll_mk1 (shut_bool Try.underlying4 _), (trodAll_cons_mk (Below.trod laidOut (by kernel_rfl) (of_decide_eq_true (by kernel_rfl)) h0 bel (by obtain ⟨m, hm⟩ := h0; exact DataW.trod_lt m _ _ _ hm)) (trodAll_cons_mk (Below.trod laidOut (by kernel_rfl) (of_decide_eq_true (by kernel_rfl)) h1 bel (by obtain ⟨m, hm⟩ := h1; exact DataW.trod_lt m _ _ _ hm)) trodAll_mk0)), rfl, bel.frame _, fun h => by cases h⟩
theorem over : Rows.zeroCountsRow.holds Try.pinned (OpenSpec.ofChange Rows.zeroCountsSpec) :=
 OpenClaim.holds_of_wide 6 Try.f6 rfl rfl rfl rfl rfl rfl rfl ⟨rfl, rfl, rfl, rfl, rfl⟩ rfl rfl rfl rfl rfl (by kernel_rfl) Try.func6 (by kernel_rfl)
  (of_decide_eq_true (by kernel_rfl)) (by unfold Func.isWrapper; first | (rw [if_pos (by decide +kernel)]; kernel_rfl) | (rw [if_neg (by decide +kernel)]; exact ⟨rfl, rfl⟩))
  (fun os started H enc _ => lifted os started H enc)
theorem proved : Rows.ZeroCountsSaid := over
#print axioms proved
end Go.Proofs.Ytoaepfgfbfgcdaa.zeroCounts
namespace Go.Proofs.Ytoaepfgfbfgcdaa
theorem zeroCounts_holds : Rows.ZeroCountsSaid := zeroCounts.proved
end Go.Proofs.Ytoaepfgfbfgcdaa
