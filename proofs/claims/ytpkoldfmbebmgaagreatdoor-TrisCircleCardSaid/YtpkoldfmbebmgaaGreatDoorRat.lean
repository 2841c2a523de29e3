/- Fractions as cells: laws in plain Lean. -/
import Derived.Test.YtpkoldfmbebmgaaGreatDoorInt
namespace Go.Proofs.YtpkoldfmbebmgaaGreatDoor
open Go Go.RowKit
set_option linter.unusedVariables false
set_option linter.unusedSimpArgs false

/-- A fraction's size: the words of the greater of its two numbers. -/
def Sz (q : Rat) : Nat := max (nw q.num.natAbs) (nw q.den)
theorem Sz_num (q : Rat) : nw q.num.natAbs ≤ Sz q := Nat.le_max_left ..
theorem Sz_den (q : Rat) : nw q.den ≤ Sz q := Nat.le_max_right ..
theorem Sz_more (q : Rat) : nw (q.den - 1) ≤ Sz q := Nat.le_trans (nw_mono (Nat.sub_le _ _)) (Sz_den q)
theorem Sz_le {q : Rat} {k : Nat} (h1 : nw q.num.natAbs ≤ k) (h2 : nw q.den ≤ k) : Sz q ≤ k := Nat.max_le.2 ⟨h1, h2⟩
theorem nw_one : nw 1 = 1 := by decide
theorem Sz_pos (q : Rat) : 1 ≤ Sz q := Nat.le_trans (by rw [← nw_one]; exact nw_mono q.den_pos) (Sz_den q)
theorem Sz_mkRat {n : Int} {d k : Nat} (h1 : nw n.natAbs ≤ k) (h2 : nw d ≤ k) (hk : 1 ≤ k) : Sz (mkRat n d) ≤ k := by
  refine Sz_le ?_ ?_
  · rw [Rat.num_mkRat]
    split
    · exact Nat.zero_le _
    · refine Nat.le_trans (nw_mono ?_) h1
      rw [Int.natAbs_ediv_of_dvd (by rw [Int.ofNat_dvd_left]; exact Nat.gcd_dvd_right ..)]
      exact Nat.div_le_self _ _
  · rw [Rat.den_mkRat]
    split
    · rw [nw_one]; exact hk
    · exact Nat.le_trans (nw_mono (Nat.div_le_self _ _)) h2
theorem nwI_mul (a b : Int) : nw (a * b).natAbs ≤ nw a.natAbs + nw b.natAbs := by rw [Int.natAbs_mul]; exact nw_mul _ _
theorem nwI_add (a b : Int) : nw (a + b).natAbs ≤ max (nw a.natAbs) (nw b.natAbs) + 1 := Nat.le_trans (nw_mono (Int.natAbs_add_le a b)) (nw_add _ _)
theorem nwI_sub (a b : Int) : nw (a - b).natAbs ≤ max (nw a.natAbs) (nw b.natAbs) + 1 := by
  have := nwI_add a (-b)
  rwa [Int.natAbs_neg, ← Int.sub_eq_add_neg] at this
/-- What the parts of a sum and of a product fit into. -/
theorem cross_nw (a b : Rat) : nw (a.num * ((b.den : Nat) : Int)).natAbs ≤ Sz a + Sz b := by
  have h1 := nwI_mul a.num ((b.den : Nat) : Int)
  have h2 := Sz_num a
  have h3 := Sz_den b
  rw [Int.natAbs_natCast] at h1
  omega
theorem den_nw (a b : Rat) : nw (a.den * b.den) ≤ Sz a + Sz b := by
  have h1 := nw_mul a.den b.den
  have h2 := Sz_den a
  have h3 := Sz_den b
  omega
theorem num_nw (a b : Rat) : nw (a.num * b.num).natAbs ≤ Sz a + Sz b := by
  have h1 := nwI_mul a.num b.num
  have h2 := Sz_num a
  have h3 := Sz_num b
  omega
theorem add_mkRat (a b : Rat) : mkRat (a.num * ((b.den : Nat) : Int) + b.num * ((a.den : Nat) : Int)) (a.den * b.den) = a + b := by rw [Rat.add_def, Rat.normalize_eq_mkRat]
theorem mul_mkRat (a b : Rat) : mkRat (a.num * b.num) (a.den * b.den) = a * b := by rw [Rat.mul_def, Rat.normalize_eq_mkRat]
theorem whole_eq {a : Rat} (h : a.den - 1 = 0) : a = ((a.num : Int) : Rat) := by
  have h1 : a.den = 1 := by have := a.den_pos; omega
  exact Rat.ext rfl h1
theorem add_whole {a b : Rat} (ha : a.den - 1 = 0) (hb : b.den - 1 = 0) : ((a.num + b.num : Int) : Rat) = a + b := by
  rw [Rat.intCast_add, ← whole_eq ha, ← whole_eq hb]
theorem mul_whole {a b : Rat} (ha : a.den - 1 = 0) (hb : b.den - 1 = 0) : ((a.num * b.num : Int) : Rat) = a * b := by
  rw [Rat.intCast_mul, ← whole_eq ha, ← whole_eq hb]
theorem den_same {a b : Rat} (h : a.den - 1 = b.den - 1) : a.den = b.den := by
  have h1 := a.den_pos
  have h2 := b.den_pos
  omega
theorem add_same {a b : Rat} (h : a.den - 1 = b.den - 1) : mkRat (a.num + b.num) a.den = a + b := by
  have h1 := den_same h
  have h2 : a + b = mkRat a.num a.den + mkRat b.num a.den := by rw [Rat.mkRat_self]; conv => lhs; rw [← Rat.mkRat_self b, ← h1]
  rw [h2, Rat.mkRat_eq_div, Rat.mkRat_eq_div, Rat.mkRat_eq_div, Rat.intCast_add, Rat.div_def, Rat.div_def, Rat.div_def, Rat.add_mul]
theorem Sz_add (a b : Rat) : Sz (a + b) ≤ Sz a + Sz b + 1 := by
  rw [← add_mkRat]
  have h1 := cross_nw a b
  have h2 := cross_nw b a
  have h3 := nwI_add (a.num * ((b.den : Nat) : Int)) (b.num * ((a.den : Nat) : Int))
  have h4 := den_nw a b
  exact Sz_mkRat (by omega) (by omega) (by omega)
theorem Sz_mul (a b : Rat) : Sz (a * b) ≤ Sz a + Sz b := by
  rw [← mul_mkRat]
  have := Sz_pos a
  exact Sz_mkRat (num_nw a b) (den_nw a b) (by omega)
theorem Sz_neg (a : Rat) : Sz (-a) = Sz a := by unfold Sz; rw [Rat.neg_num, Rat.neg_den, Int.natAbs_neg]
theorem Sz_sub (a b : Rat) : Sz (a - b) ≤ Sz a + Sz b + 1 := by rw [Rat.sub_eq_add_neg, ← Sz_neg b]; exact Sz_add a (-b)
/-- The turned fraction. -/
theorem inv_mkRat {b : Rat} (h : b ≠ 0) : mkRat (mkI (decide (b.num.sign < 0)) b.den) b.num.natAbs = b⁻¹ := by
  have hn : b.num ≠ 0 := fun e => h (Rat.num_eq_zero.1 e)
  have hb : b = (b.num : Rat) / ((b.den : Nat) : Rat) := by rw [← Rat.mkRat_eq_div, Rat.mkRat_self]
  have hd : ((b.den : Nat) : Rat) ≠ 0 := by
    intro e
    have := b.den_pos
    have h2 : b.den = 0 := by exact_mod_cast e
    omega
  have hn2 : ((b.num : Int) : Rat) ≠ 0 := by
    intro e
    exact hn (by exact_mod_cast e)
  rw [Rat.mkRat_eq_div]
  conv => rhs; rw [hb]
  by_cases hs : b.num < 0
  · have e1 : decide (b.num.sign < 0) = true := by simp [Int.sign_eq_neg_one_of_neg hs]
    have e2 : ((b.num.natAbs : Nat) : Rat) = -((b.num : Int) : Rat) := by
      have : ((b.num.natAbs : Nat) : Int) = -b.num := by omega
      rw [← Rat.intCast_natCast, this, Rat.intCast_neg]
    rw [e1, e2]
    simp only [mkI, if_true, Rat.intCast_neg, Rat.intCast_natCast]
    grind
  · have e1 : decide (b.num.sign < 0) = false := by
      have : 0 ≤ b.num.sign := Int.sign_nonneg_iff.2 (by omega)
      exact decide_eq_false (by omega)
    have e2 : ((b.num.natAbs : Nat) : Rat) = ((b.num : Int) : Rat) := by
      have : ((b.num.natAbs : Nat) : Int) = b.num := by omega
      rw [← Rat.intCast_natCast, this]
    rw [e1, e2]
    simp only [mkI, Bool.false_eq_true, if_false, Rat.intCast_natCast]
    grind
theorem Sz_inv {b : Rat} (h : b ≠ 0) : Sz b⁻¹ ≤ Sz b := by
  rw [← inv_mkRat h]
  exact Sz_mkRat (by rw [mkI_natAbs]; exact Sz_den b) (Sz_num b) (Sz_pos b)
theorem Sz_div {a b : Rat} (h : b ≠ 0) : Sz (a / b) ≤ Sz a + Sz b := by
  rw [Rat.div_def]
  have h1 := Sz_mul a b⁻¹
  have h2 := Sz_inv h
  omega
/-- Comparing. -/
def cmpQ (a b : Rat) : Int := if a < b then -1 else if a = b then 0 else 1
theorem cmpQ_cross (a b : Rat) : (a.num * ((b.den : Nat) : Int) - b.num * ((a.den : Nat) : Int)).sign = cmpQ a b := by
  have h1 := Rat.lt_iff a b
  have h2 := @Rat.eq_iff_mul_eq_mul a b
  unfold cmpQ
  split
  · rename_i h; exact Int.sign_eq_neg_one_of_neg (by have := h1.1 h; omega)
  · rename_i h
    split
    · rename_i h'; rw [h2.1 h']; simp
    · rename_i h'
      have h3 : ¬ a.num * ((b.den : Nat) : Int) < b.num * ((a.den : Nat) : Int) := fun e => h (h1.2 e)
      have h4 : ¬ a.num * ((b.den : Nat) : Int) = b.num * ((a.den : Nat) : Int) := fun e => h' (h2.2 e)
      exact Int.sign_eq_one_of_pos (by omega)
theorem cmpQ_same {a b : Rat} (h : a.den - 1 = b.den - 1) : (a.num - b.num).sign = cmpQ a b := by
  rw [← cmpQ_cross, ← den_same h, ← Int.sub_mul, Int.sign_mul]
  have := a.den_pos
  rw [show ((a.den : Nat) : Int).sign = 1 from Int.sign_eq_one_of_pos (by omega)]
  simp
theorem cmpQ_lt {a b : Rat} : cmpQ a b < 0 ↔ a < b := by
  unfold cmpQ; split
  · simp [*]
  · split <;> simp [*]
theorem cmpQ_eq {a b : Rat} : cmpQ a b = 0 ↔ a = b := by
  unfold cmpQ; split
  · rename_i h
    constructor
    · intro e; cases e
    · intro e; subst e; exact absurd h (by simp)
  · split <;> simp [*]
/-! cells -/
theorem fracL_parts (q : Rat) : fracL q = intL q.num ++ natL (q.den - 1) := rfl
theorem low_num {n : Int} {d : Nat} (hd : d ≠ 0) : (mkRat n d).num = mkI (decide (n.sign < 0)) (n.natAbs / Nat.gcd n.natAbs d) := by
  rw [Rat.num_mkRat, if_neg hd, Nat.gcd_comm]
  unfold mkI
  by_cases h : n < 0
  · rw [Int.sign_eq_neg_one_of_neg h]
    have e : n = -((n.natAbs : Nat) : Int) := by omega
    simp only [show decide ((-1 : Int) < 0) = true from rfl, if_true]
    conv => lhs; rw [e]
    rw [Int.natAbs_neg, Int.natAbs_natCast, Int.neg_ediv_of_dvd (by rw [Int.natCast_dvd_natCast]; exact Nat.gcd_dvd_left ..)]
    rfl
  · have h0 : 0 ≤ n.sign := Int.sign_nonneg_iff.2 (by omega)
    have e : n = ((n.natAbs : Nat) : Int) := by omega
    rw [if_neg (by simp; omega)]
    conv => lhs; rw [e]
    rw [Int.natAbs_natCast]
    rfl
theorem low_den {n : Int} {d : Nat} (hd : d ≠ 0) : (mkRat n d).den = d / Nat.gcd n.natAbs d := by rw [Rat.den_mkRat, if_neg hd, Nat.gcd_comm]

end Go.Proofs.YtpkoldfmbebmgaaGreatDoor
