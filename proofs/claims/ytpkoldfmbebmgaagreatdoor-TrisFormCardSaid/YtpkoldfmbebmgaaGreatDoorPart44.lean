import Derived.Test.YtpkoldfmbebmgaaGreatDoorPart39
import Derived.Test.YtpkoldfmbebmgaaGreatDoorPart40
import Derived.Test.YtpkoldfmbebmgaaGreatDoorPart43
namespace Go.Proofs.YtpkoldfmbebmgaaGreatDoor
open Go Go.RowKit
set_option linter.unusedVariables false
set_option linter.unusedSimpArgs false
theorem grad_ref {a b c : Pt} (h : turnP a b c ≠ 0) : (gradR a b c).1 = ⟨-(c - b).y / turnP a b c, (c - b).x / turnP a b c⟩ ∧ (gradR a b c).2.1 = ⟨-(a - c).y / turnP a b c, (a - c).x / turnP a b c⟩ ∧ (gradR a b c).2.2 = ⟨-(b - a).y / turnP a b c, (b - a).x / turnP a b c⟩ := by
  have e : ∀ p q r : Pt, areaR p q r / areaR a b c = turnP p q r / turnP a b c := fun p q r => bary_ref (p, q, r) h
  have d : ∀ x y T : Rat, x / T - y / T = (x - y) / T := fun x y T => by rw [Rat.div_def, Rat.div_def, Rat.div_def]; generalize T⁻¹ = k; grind
  have i1 : ((1 : Int) : Rat) = 1 := rfl
  have i0 : ((0 : Int) : Rat) = 0 := rfl
  simp only [gradR, e, d, i1, i0]
  refine ⟨Pt.ext ?_ ?_, Pt.ext ?_ ?_, Pt.ext ?_ ?_⟩ <;> refine congrArg (· / turnP a b c) ?_ <;> simp only [turn_def, add_x, add_y, sub_x, sub_y] <;> grind
theorem absR_eq (q : Rat) : absR q = absQ q := by
  unfold absR absQ
  have e : q.num.sign < 0 ↔ q.num < 0 := by
    rcases Int.lt_trichotomy q.num 0 with h | h | h
    · rw [Int.sign_eq_neg_one_of_neg h]; omega
    · rw [h]; simp
    · rw [Int.sign_eq_one_of_pos h]; omega
  by_cases h : q.num < 0
  · rw [if_pos (e.2 h), if_pos h]
  · rw [if_neg (fun k => h (e.1 k)), if_neg h]
theorem cot_ref (a b c : Pt) : cotR a b c = dotP (b - a) (c - a) / absQ (turnP a b c) := by unfold cotR; rw [absR_eq]; rfl
theorem dot_turn (x y : Pt) : dotP (x - y) (x - y) = dotP (y - x) (y - x) := by simp only [dot_def, sub_x, sub_y]; grind
theorem shape_ref (a b c : Pt) : shapeR a b c = shapeS a b c := by unfold shapeR shapeS; rw [dot_turn a b, dot_turn b c, dot_turn c a]
theorem mid_ref (a b c : Pt) : midR a b c = midP a b c := by
  unfold midR midP
  have i1 : ((1 : Int) : Rat) = 1 := rfl
  generalize ((2 : Int) : Rat) * crossP (b - a) (c - a) = A
  generalize dotP (b - a) (b - a) = U
  generalize dotP (c - a) (c - a) = V
  refine Pt.ext ?_ ?_
  · simp only [add_x, sub_x, sub_y, scale_x, i1, Rat.div_def]; grind
  · simp only [add_y, sub_x, sub_y, scale_y, i1, Rat.div_def]; grind
theorem Sz_shape (a b c : Pt) (k : Nat) (h : 4 * (SzP a + SzP b + SzP c) + 16 ≤ k) : Sz ((shapeS a b c).1 / (shapeS a b c).2.2) ≤ 2 * k ∧ Sz ((shapeS a b c).2.1 / (shapeS a b c).2.2) ≤ 2 * k := by
  have d1 := SzP_sub b a; have d2 := SzP_sub c b; have d3 := SzP_sub a c; have q1 := Sz_dot (b - a) (b - a); have q2 := Sz_dot (c - b) (c - b); have q3 := Sz_dot (a - c) (a - c)
  obtain ⟨z1, z2, z3⟩ := sort3_Sz (dotP (b - a) (b - a)) (dotP (c - b) (c - b)) (dotP (a - c) (a - c)) k ⟨by omega, by omega, by omega⟩
  have r1 := Sz_divR (shapeS a b c).1 (shapeS a b c).2.2
  have r2 := Sz_divR (shapeS a b c).2.1 (shapeS a b c).2.2
  unfold shapeS at *
  exact ⟨by omega, by omega⟩
theorem info_pt : ∃ i, Tryz.prog.info? 38 = some i := Option.isSome_iff_exists.1 (by kernel_rfl)
theorem cells_pt : Tryz.prog.cellsOf 38 = 10 := by kernel_rfl
theorem eqB_pt3 (D : Nat) (a b c a' b' c' : Pt) : EqB Tryz.prog (D + 7) 49 (.agg (ptL a ++ ptL b ++ ptL c).toArray) (.agg (ptL a' ++ ptL b' ++ ptL c').toArray) (decide (a = a') && (decide (b = b') && (decide (c = c') && true))) :=
  EqB.array Tryz.underlying49 info_pt cells_pt (EqI.cons Tryz.isAgg38 Tryz.sizeOf38 rfl rfl (eqB_pt D _ _) (EqI.cons Tryz.isAgg38 Tryz.sizeOf38 rfl rfl (eqB_pt D _ _) (EqI.cons Tryz.isAgg38 Tryz.sizeOf38 rfl rfl (eqB_pt D _ _) EqI.nil)))
theorem eqB_pt3_t (D : Nat) {a b c a' b' c' : Pt} (h : a = a' ∧ b = b' ∧ c = c') : EqB Tryz.prog (D + 7) 49 (.agg (ptL a ++ ptL b ++ ptL c).toArray) (.agg (ptL a' ++ ptL b' ++ ptL c').toArray) true := by
  have := eqB_pt3 D a b c a' b' c'; rwa [decide_eq_true h.1, decide_eq_true h.2.1, decide_eq_true h.2.2] at this
end Go.Proofs.YtpkoldfmbebmgaaGreatDoor
