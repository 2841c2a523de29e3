import Derived.Test.YtpkoldfmbebmgaaGreatDoorPart11
namespace Go.Proofs.YtpkoldfmbebmgaaGreatDoor
open Go Go.RowKit
set_option linter.unusedVariables false
set_option linter.unusedSimpArgs false
def absQ (a : Rat) : Rat := if a.num < 0 then -a else a
theorem absQ_num (a : Rat) : (absQ a).num = mkI false a.num.natAbs := by
  unfold absQ mkI
  by_cases h : a.num < 0
  · simp [h, Rat.neg_num]; omega
  · simp [h]; omega
theorem absQ_den (a : Rat) : (absQ a).den = a.den := by
  unfold absQ
  by_cases h : a.num < 0
  · simp [h, Rat.neg_den]
  · simp [h]
theorem Sz_abs (a : Rat) : Sz (absQ a) = Sz a := by
  unfold Sz
  rw [absQ_num, absQ_den, mkI_natAbs]
theorem absQ_ne {a : Rat} (h : a ≠ 0) : absQ a ≠ 0 := by
  unfold absQ
  split
  · intro e; exact h (by rw [← Rat.neg_neg a, e]; rfl)
  · exact h
theorem sign_ne {q : Rat} (h : q ≠ 0) : q.num.sign ≠ 0 := fun e => h (Rat.num_eq_zero.1 (Int.sign_eq_zero_iff_zero.1 e))
theorem two_ne {q : Rat} (h : q ≠ 0) : ((2 : Int) : Rat) * q ≠ 0 := by
  intro e
  rcases Rat.mul_eq_zero.1 e with h1 | h1
  · exact absurd h1 (by decide +kernel)
  · exact h h1
theorem SzP_right (v : Pt) : SzP (⟨v.y, -v.x⟩ : Pt) ≤ SzP v := SzP_le (SzP_y v) (by show Sz (-v.x) ≤ _; rw [Sz_neg]; exact SzP_x v)
def zq (q : Rat) : Nat := if q.num.sign = 0 then 1 else 0
def whereN (x y z : Rat) : Nat := if x.num.sign = -1 ∨ y.num.sign = -1 ∨ z.num.sign = -1 then 0 else 1 + zq x + zq y + zq z
theorem where_neg0 {x y z : Rat} (h : x.num.sign = -1) : whereN x y z = 0 := if_pos (.inl h)
theorem where_neg1 {x y z : Rat} (h : y.num.sign = -1) : whereN x y z = 0 := if_pos (.inr (.inl h))
theorem where_neg2 {x y z : Rat} (h : z.num.sign = -1) : whereN x y z = 0 := if_pos (.inr (.inr h))
theorem where_ok {x y z : Rat} (h1 : ¬ x.num.sign = -1) (h2 : ¬ y.num.sign = -1) (h3 : ¬ z.num.sign = -1) : whereN x y z = 1 + zq x + zq y + zq z := if_neg (by simp [h1, h2, h3])
theorem zq_one {x : Rat} (h : x.num.sign = 0) : zq x = 1 := if_pos h
theorem zq_zero {x : Rat} (h : ¬ x.num.sign = 0) : zq x = 0 := if_neg h
theorem zq_le (x : Rat) : zq x ≤ 1 := by unfold zq; split <;> omega
end Go.Proofs.YtpkoldfmbebmgaaGreatDoor
