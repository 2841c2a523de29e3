/- Whole numbers and fractions as cells: laws in plain Lean. -/
import Derived.Test.YtpkoldfmbebmgaaGreatDoorLong
namespace Go.Proofs.YtpkoldfmbebmgaaGreatDoor
open Go Go.RowKit
set_option linter.unusedVariables false
set_option linter.unusedSimpArgs false

def mkI (neg : Bool) (n : Nat) : Int := if neg then -(n : Int) else (n : Int)
theorem intL_neg (n : Nat) : intL (mkI true n) = natL n ++ [.bool (!(decide (n = 0)))] := by
  simp only [intL, natL, mkI, if_true, Int.natAbs_neg, Int.natAbs_natCast, List.cons_append, List.nil_append]
  have e : decide (-(n : Int) < 0) = !(decide (n = 0)) := by
    by_cases h : n = 0
    · subst h; rfl
    · simp [h]; omega
  rw [e]
theorem intL_pos (n : Nat) : intL (mkI false n) = natL n ++ [.bool false] := by
  simp only [intL, natL, mkI, Int.natAbs_natCast, List.cons_append, List.nil_append]
  have e : decide ((n : Int) < 0) = false := by simp
  simp [e]
theorem eqB_size (D a b : Nat) : EqB Tryz.prog (D + 3) 32 (.agg (natL a).toArray) (.agg (natL b).toArray) (decide (a = b)) := by
  have h := EqB.struct (D := D + 2) (xs := natL a) (ys := natL b) Tryz.underlying32 Tryz.stoodInHeld32 (EqF.agg (us := natL a) (bs := natL b) (by decide) Tryz.isAgg30 Tryz.sizeOf30 rfl rfl (eqB_nat D a b) EqF.nil)
  simpa using h
theorem mkI_natAbs (neg : Bool) (n : Nat) : (mkI neg n).natAbs = n := by cases neg <;> simp [mkI]
theorem mkI_self (a : Int) : mkI (decide (a < 0)) a.natAbs = a := by
  unfold mkI
  by_cases h : a < 0
  · simp [h]; omega
  · simp [h]; omega
theorem mkI_not (a : Int) : mkI (!(decide (a < 0))) a.natAbs = -a := by
  unfold mkI
  by_cases h : a < 0
  · simp [h]; omega
  · simp [h]; omega
theorem mkI_mul (a b : Int) : mkI (!(decide (a < 0) == decide (b < 0))) (a.natAbs * b.natAbs) = a * b := by
  rw [← Int.natAbs_mul]
  unfold mkI
  by_cases h : a < 0 <;> by_cases h' : b < 0
  · have := Int.mul_pos_of_neg_of_neg h h'; simp [h, h']; omega
  · have : a * b ≤ 0 := Int.mul_nonpos_of_nonpos_of_nonneg (by omega) (by omega)
    simp [h, h']; omega
  · have : a * b ≤ 0 := Int.mul_nonpos_of_nonneg_of_nonpos (by omega) (by omega)
    simp [h, h']; omega
  · have : 0 ≤ a * b := Int.mul_nonneg (by omega) (by omega)
    simp [h, h']; omega
theorem mkI_add_same {a b : Int} (h : (decide (a < 0) == decide (b < 0)) = true) : mkI (decide (a < 0)) (a.natAbs + b.natAbs) = a + b := by
  unfold mkI
  by_cases h1 : a < 0 <;> by_cases h2 : b < 0 <;> simp [h1, h2] at h ⊢ <;> omega
theorem mkI_add_ge {a b : Int} (h : (decide (a < 0) == decide (b < 0)) = false) (h3 : b.natAbs ≤ a.natAbs) : mkI (decide (a < 0)) (a.natAbs - b.natAbs) = a + b := by
  unfold mkI
  by_cases h1 : a < 0 <;> by_cases h2 : b < 0 <;> simp [h1, h2] at h ⊢ <;> omega
theorem mkI_add_lt {a b : Int} (h : (decide (a < 0) == decide (b < 0)) = false) (h3 : ¬ b.natAbs ≤ a.natAbs) : mkI (decide (b < 0)) (b.natAbs - a.natAbs) = a + b := by
  unfold mkI
  by_cases h1 : a < 0 <;> by_cases h2 : b < 0 <;> simp [h1, h2] at h ⊢ <;> omega
theorem negU {z : Int} (h : z < 0) (h2 : -9223372036854775808 ≤ z) : IntKind.u64.wrap (-(IntKind.u64.wrap z)) = ((z.natAbs : Nat) : Int) := by
  simp only [IntKind.wrap, IntKind.bits, IntKind.signed]; simp; omega
theorem natAbs_small {z : Int} (h : -9223372036854775808 ≤ z) (h2 : z < 9223372036854775808) : z.natAbs < 18446744073709551616 := by omega
theorem mkI_natAbs_neg {z : Int} (h : z < 0) : mkI true z.natAbs = z := by unfold mkI; simp; omega
theorem mkI_toNat {z : Int} (h : ¬ z < 0) : mkI false z.natAbs = z := by unfold mkI; simp; omega

end Go.Proofs.YtpkoldfmbebmgaaGreatDoor
