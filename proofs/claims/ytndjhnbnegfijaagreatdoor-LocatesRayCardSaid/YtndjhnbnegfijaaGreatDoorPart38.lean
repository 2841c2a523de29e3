import Derived.Test.YtndjhnbnegfijaaGreatDoorPart33
import Derived.Test.YtndjhnbnegfijaaGreatDoorPart35
namespace Go.Proofs.YtndjhnbnegfijaaGreatDoor
open Go Go.RowKit
set_option linter.unusedVariables false
set_option linter.unusedSimpArgs false
theorem pos_ne {q : Rat} (h : 0 < q) : q ≠ 0 := by grind
theorem findAt_cases (ps : List Pt) (q : Pt) : ∀ (ts : List (Nat × Nat × Nat)) (i : Nat), (findAt ps q ts i = (-1, 0) ∧ ∀ j, j < ts.length → whereT ps q (ts.getD j (0, 0, 0)) = 0) ∨
    ∃ j k, j < ts.length ∧ findAt ps q ts i = (((i + j : Nat) : Int), k) ∧ k ≠ 0 ∧ whereT ps q (ts.getD j (0, 0, 0)) ≠ 0 ∧ ∀ l, l < j → whereT ps q (ts.getD l (0, 0, 0)) = 0
  | [], i => .inl ⟨rfl, fun j h => absurd h (Nat.not_lt_zero _)⟩
  | t :: r, i => by
    unfold findAt
    by_cases h : whereT ps q t = 0
    · rw [if_pos h]
      rcases findAt_cases ps q r (i + 1) with ⟨h1, h2⟩ | ⟨j, k, h1, h2, h3, h4, h5⟩
      · exact .inl ⟨h1, fun j hj => by cases j with | zero => exact h | succ j => exact h2 j (by simpa using hj)⟩
      · refine .inr ⟨j + 1, k, by simpa using h1, by rw [h2]; congr 2; omega, h3, h4, fun l hl => ?_⟩
        cases l with
        | zero => exact h
        | succ l => exact h5 l (by omega)
    · rw [if_neg h]
      exact .inr ⟨0, _, by simp, rfl, h, h, fun l hl => absurd hl (Nat.not_lt_zero _)⟩
theorem find_ne {ps : List Pt} {ts : List (Nat × Nat × Nat)} {q : Pt} (hn : numB ps.length ts = true) {j : Nat} (hj : j < ts.length) (h : whereT ps q (ts.getD j (0, 0, 0)) ≠ 0) : ¬ findB ps ts q = (-1, 0) := by
  unfold findB
  rw [if_pos hn]
  rcases findAt_cases ps q ts 0 with ⟨_, h2⟩ | ⟨j, k, h1, h2, h3⟩
  · exact absurd (h2 j hj) h
  · rw [h2]
    intro e
    have e1 := congrArg Prod.fst e
    simp only at e1
    omega
section
theorem sgn_one {q : Rat} : q.num.sign = 1 ↔ 0 < q := by
  rw [sgn_eq, sgnQ]
  split
  · exact ⟨fun h => by simp at h, fun h => by grind⟩
  · split
    · exact ⟨fun h => by simp at h, fun h => by grind⟩
    · exact ⟨fun _ => by grind, fun _ => rfl⟩
theorem sgn_neg1 {q : Rat} : q.num.sign = -1 ↔ q < 0 := by
  rw [sgn_eq, sgnQ]
  split
  · exact ⟨fun _ => by assumption, fun _ => rfl⟩
  · split
    · exact ⟨fun h => by simp at h, fun h => by grind⟩
    · exact ⟨fun h => by simp at h, fun h => by grind⟩
theorem sgn_nil {q : Rat} : q.num.sign = 0 ↔ q = 0 := by
  rw [sgn_eq, sgnQ]
  split
  · exact ⟨fun h => by simp at h, fun h => by grind⟩
  · split
    · exact ⟨fun _ => by assumption, fun _ => rfl⟩
    · exact ⟨fun h => by simp at h, fun h => by grind⟩
theorem gtQ_cases (x y : Rat) : (x < y ∧ gtQ x y = y) ∨ (y ≤ x ∧ gtQ x y = x) := by
  unfold gtQ
  by_cases h : x < y
  · rw [if_pos (cmpQ_lt.2 h)]; exact .inl ⟨h, rfl⟩
  · rw [if_neg (fun e => h (cmpQ_lt.1 e))]; exact .inr ⟨by grind, rfl⟩
theorem div_root {u d : Rat} (h : d ≠ 0) : (-u / d) * d = -u := Rat.div_mul_cancel h
theorem root_pos {u d s k : Rat} (hd : 0 < d) (hk : k * d = -u) : (k ≤ s ↔ 0 ≤ u + d * s) ∧ (k < s ↔ 0 < u + d * s) := by
  have e : u + d * s = (s - k) * d := by grind
  rw [e]
  refine ⟨⟨fun h => Rat.mul_nonneg (by grind) (by grind), fun h => ?_⟩, ⟨fun h => Rat.mul_pos (by grind) hd, fun h => ?_⟩⟩
  · rcases lt_or_leQ s k with h1 | h1
    · have := Rat.mul_pos (show 0 < k - s by grind) hd; grind
    · exact h1
  · rcases lt_or_leQ k s with h1 | h1
    · exact h1
    · have := Rat.mul_nonneg (show 0 ≤ k - s by grind) (show 0 ≤ d by grind); grind
theorem root_neg {u d s k : Rat} (hd : d < 0) (hk : k * d = -u) : (s ≤ k ↔ 0 ≤ u + d * s) ∧ (s < k ↔ 0 < u + d * s) := by
  have h := root_pos (u := u) (d := -d) (s := -s) (k := -k) (by grind) (by grind)
  have e : u + -d * -s = u + d * s := by grind
  rw [e] at h
  exact ⟨⟨fun a => h.1.1 (by grind), fun a => by have := h.1.2 a; grind⟩, ⟨fun a => h.2.1 (by grind), fun a => by have := h.2.2 a; grind⟩⟩
theorem bad_no {u v : Rat} (h : badS u v = false) (h1 : ¬ 0 < v - u) (h2 : ¬ v - u < 0) : v - u = 0 ∧ 0 ≤ u := by
  refine ⟨by grind, ?_⟩
  unfold badS at h
  rw [decide_eq_false (fun e => h1 (sgn_one.1 e)), decide_eq_false (fun e => h2 (sgn_neg1.1 e))] at h
  have h3 : ¬ u.num.sign < 0 := by simpa using h
  have h4 : ¬ u.num.sign = -1 := fun e => h3 (by rw [e]; decide)
  rw [sgn_neg1] at h4
  grind
theorem bad_no' {u v s : Rat} (h : 0 ≤ u + (v - u) * s) : badS u v = false := by
  cases hb : badS u v with
  | false => rfl
  | true =>
    unfold badS at hb
    simp only [Bool.and_eq_true, Bool.not_eq_true', decide_eq_false_iff_not, decide_eq_true_eq] at hb
    obtain ⟨⟨h1, h2⟩, h3⟩ := hb
    rw [sgn_one] at h1
    rw [sgn_neg1] at h2
    have h4 : u.num.sign = -1 := by rcases sgn_three u.num with e | e | e <;> omega
    rw [sgn_neg1] at h4
    have e : v - u = 0 := by grind
    rw [e] at h
    grind
theorem stS_spec {u v f t : Rat} (hb : badS u v = false) :
    (∀ s, (stS u v (f, t)).1 ≤ s → s ≤ (stS u v (f, t)).2 → f ≤ s ∧ s ≤ t ∧ 0 ≤ u + (v - u) * s) ∧
    (∀ s, f ≤ s → s ≤ t → (f = s → s = 0) → (t = s → s = 1) → 0 < u + (v - u) * s → (stS u v (f, t)).1 ≤ s ∧ s ≤ (stS u v (f, t)).2 ∧ ((stS u v (f, t)).1 = s → s = 0) ∧ ((stS u v (f, t)).2 = s → s = 1)) := by
  unfold stS
  by_cases h1 : 0 < v - u
  · rw [if_pos (sgn_one.2 h1)]
    have hk := div_root (u := u) (d := v - u) (by grind)
    generalize -u / (v - u) = k at *
    have r := fun s => root_pos (u := u) (s := s) h1 hk
    dsimp only
    rcases gtQ_cases f k with ⟨g1, g2⟩ | ⟨g1, g2⟩ <;> rw [g2]
    · exact ⟨fun s a b => ⟨by grind, b, (r s).1.1 a⟩, fun s a b c d e => ⟨by have := (r s).2.2 e; grind, b, fun e2 => by have := (r s).2.2 e; grind, d⟩⟩
    · exact ⟨fun s a b => ⟨a, b, (r s).1.1 (by grind)⟩, fun s a b c d e => ⟨a, b, c, d⟩⟩
  · rw [if_neg (fun e => h1 (sgn_one.1 e))]
    by_cases h2 : v - u < 0
    · rw [if_pos (sgn_neg1.2 h2)]
      have hk := div_root (u := u) (d := v - u) (by grind)
      generalize -u / (v - u) = k at *
      have r := fun s => root_neg (u := u) (s := s) h2 hk
      dsimp only
      rcases gtQ_cases (-t) (-k) with ⟨g1, g2⟩ | ⟨g1, g2⟩ <;> rw [g2]
      · exact ⟨fun s a b => ⟨a, by grind, (r s).1.1 (by grind)⟩, fun s a b c d e => ⟨a, by have := (r s).2.2 e; grind, c, fun e2 => by have := (r s).2.2 e; grind⟩⟩
      · exact ⟨fun s a b => ⟨a, by grind, (r s).1.1 (by grind)⟩, fun s a b c d e => ⟨a, by grind, c, fun e2 => d (by grind)⟩⟩
    · rw [if_neg (fun e => h2 (sgn_neg1.1 e))]
      obtain ⟨e0, e1⟩ := bad_no hb h1 h2
      exact ⟨fun s a b => ⟨a, b, by rw [e0]; grind⟩, fun s a b c d e => ⟨a, b, c, d⟩⟩
section
variable {u0 v0 u1 v1 u2 v2 : Rat}
theorem span_yes (h : (spanQ u0 v0 u1 v1 u2 v2).2.2 = true) : badS u0 v0 = false ∧ badS u1 v1 = false ∧ badS u2 v2 = false ∧ spanQ u0 v0 u1 v1 u2 v2 = ((stS u2 v2 (stS u1 v1 (stS u0 v0 (0, 1)))).1, (stS u2 v2 (stS u1 v1 (stS u0 v0 (0, 1)))).2, true) ∧ (stS u2 v2 (stS u1 v1 (stS u0 v0 (0, 1)))).1 < (stS u2 v2 (stS u1 v1 (stS u0 v0 (0, 1)))).2 := by
  unfold spanQ at h ⊢
  cases h0 : badS u0 v0 with
  | true => rw [h0] at h; cases h
  | false =>
    cases h1 : badS u1 v1 with
    | true => rw [h0, h1] at h; cases h
    | false =>
      cases h2 : badS u2 v2 with
      | true => rw [h0, h1, h2] at h; cases h
      | false =>
        rw [h0, h1, h2] at h
        have h3 : decide (cmpQ (stS u2 v2 (stS u1 v1 (stS u0 v0 (0, 1)))).1 (stS u2 v2 (stS u1 v1 (stS u0 v0 (0, 1)))).2 < 0) = true := h
        refine ⟨rfl, rfl, rfl, ?_, cmpQ_lt.1 (of_decide_eq_true h3)⟩
        simp only [Bool.false_eq_true, if_false, h3]
theorem span_some (h : (spanQ u0 v0 u1 v1 u2 v2).2.2 = true) : 0 ≤ (spanQ u0 v0 u1 v1 u2 v2).1 ∧ (spanQ u0 v0 u1 v1 u2 v2).1 < (spanQ u0 v0 u1 v1 u2 v2).2.1 ∧ (spanQ u0 v0 u1 v1 u2 v2).2.1 ≤ 1 ∧
    ∀ s, (spanQ u0 v0 u1 v1 u2 v2).1 ≤ s → s ≤ (spanQ u0 v0 u1 v1 u2 v2).2.1 → 0 ≤ u0 + (v0 - u0) * s ∧ 0 ≤ u1 + (v1 - u1) * s ∧ 0 ≤ u2 + (v2 - u2) * s := by
  obtain ⟨b0, b1, b2, e, hlt⟩ := span_yes h
  rw [e]
  dsimp only
  have a2 := (stS_spec (f := (stS u1 v1 (stS u0 v0 (0, 1))).1) (t := (stS u1 v1 (stS u0 v0 (0, 1))).2) b2).1
  have a1 := (stS_spec (f := (stS u0 v0 (0, 1)).1) (t := (stS u0 v0 (0, 1)).2) b1).1
  have a0 := (stS_spec (f := 0) (t := 1) b0).1
  have all : ∀ s, (stS u2 v2 (stS u1 v1 (stS u0 v0 (0, 1)))).1 ≤ s → s ≤ (stS u2 v2 (stS u1 v1 (stS u0 v0 (0, 1)))).2 → (0 ≤ s ∧ s ≤ 1) ∧ 0 ≤ u0 + (v0 - u0) * s ∧ 0 ≤ u1 + (v1 - u1) * s ∧ 0 ≤ u2 + (v2 - u2) * s := fun s h1 h2 => by
    obtain ⟨c1, c2, c3⟩ := a2 s h1 h2
    obtain ⟨d1, d2, d3⟩ := a1 s c1 c2
    obtain ⟨e1, e2, e3⟩ := a0 s d1 d2
    exact ⟨⟨e1, e2⟩, e3, d3, c3⟩
  exact ⟨(all _ (by grind) (by grind)).1.1, hlt, (all _ (by grind) (by grind)).1.2, fun s h1 h2 => (all s h1 h2).2⟩
theorem span_in {s : Rat} (h0 : 0 ≤ s) (h1 : s ≤ 1) (l0 : 0 < u0 + (v0 - u0) * s) (l1 : 0 < u1 + (v1 - u1) * s) (l2 : 0 < u2 + (v2 - u2) * s) : (spanQ u0 v0 u1 v1 u2 v2).2.2 = true ∧ (spanQ u0 v0 u1 v1 u2 v2).1 ≤ s ∧ s ≤ (spanQ u0 v0 u1 v1 u2 v2).2.1 := by
  have b0 := bad_no' (u := u0) (v := v0) (s := s) (by grind)
  have b1 := bad_no' (u := u1) (v := v1) (s := s) (by grind)
  have b2 := bad_no' (u := u2) (v := v2) (s := s) (by grind)
  obtain ⟨c1, c2, c3, c4⟩ := (stS_spec (f := 0) (t := 1) b0).2 s h0 h1 (fun e => e.symm) (fun e => e.symm) l0
  obtain ⟨d1, d2, d3, d4⟩ := (stS_spec (f := (stS u0 v0 (0, 1)).1) (t := (stS u0 v0 (0, 1)).2) b1).2 s c1 c2 c3 c4 l1
  obtain ⟨e1, e2, e3, e4⟩ := (stS_spec (f := (stS u1 v1 (stS u0 v0 (0, 1))).1) (t := (stS u1 v1 (stS u0 v0 (0, 1))).2) b2).2 s d1 d2 d3 d4 l2
  have e : spanQ u0 v0 u1 v1 u2 v2 = ((stS u2 v2 (stS u1 v1 (stS u0 v0 (0, 1)))).1, (stS u2 v2 (stS u1 v1 (stS u0 v0 (0, 1)))).2, decide (cmpQ (stS u2 v2 (stS u1 v1 (stS u0 v0 (0, 1)))).1 (stS u2 v2 (stS u1 v1 (stS u0 v0 (0, 1)))).2 < 0)) := by
    rw [spanQ, b0, b1, b2]; rfl
  rw [e]
  refine ⟨decide_eq_true (cmpQ_lt.2 ?_), e1, e2⟩
  rcases lt_or_leQ (stS u2 v2 (stS u1 v1 (stS u0 v0 (0, 1)))).1 (stS u2 v2 (stS u1 v1 (stS u0 v0 (0, 1)))).2 with h | h
  · exact h
  · have x1 := e3 (by grind)
    have x2 := e4 (by grind)
    grind
end
theorem bad_rev (u v : Rat) : badS v u = badS u v := by
  by_cases h1 : 0 < v - u
  · rw [bad_pos (sgn_one.2 h1), bad_neg (sgn_neg1.2 (by grind))]
  · by_cases h2 : v - u < 0
    · rw [bad_neg (sgn_neg1.2 h2), bad_pos (sgn_one.2 (by grind))]
    · have : v = u := by grind
      rw [this]
theorem gtQ_shift (x y z : Rat) : gtQ (x - z) (y - z) = gtQ x y - z := by
  rcases gtQ_cases x y with ⟨h1, h2⟩ | ⟨h1, h2⟩ <;> rcases gtQ_cases (x - z) (y - z) with ⟨h3, h4⟩ | ⟨h3, h4⟩ <;> grind
theorem stS_rev (u v f t : Rat) : stS v u (1 - t, 1 - f) = (1 - (stS u v (f, t)).2, 1 - (stS u v (f, t)).1) := by
  have root : ∀ {d : Rat}, d = v - u → d ≠ 0 → -v / (u - v) = 1 - -u / (v - u) := fun {d} e h => by
    have e1 := div_root (u := u) (d := v - u) (by grind)
    have e2 := div_root (u := v) (d := u - v) (by grind)
    generalize -v / (u - v) = a at *
    generalize -u / (v - u) = b at *
    have e3 : (a - (1 - b)) * (v - u) = 0 := by grind
    rcases Rat.mul_eq_zero.1 e3 with h3 | h3 <;> grind
  unfold stS
  by_cases h1 : 0 < v - u
  · rw [if_pos (sgn_one.2 h1), if_neg (fun e => by have := sgn_one.1 e; grind), if_pos (sgn_neg1.2 (by grind)), root rfl (by grind)]
    dsimp only
    have := gtQ_shift f (-u / (v - u)) 1
    rw [show -(1 - f) = f - 1 by grind, show -(1 - -u / (v - u)) = -u / (v - u) - 1 by grind, this]
    exact Prod.ext rfl (by grind)
  · rw [if_neg (fun e => h1 (sgn_one.1 e))]
    by_cases h2 : v - u < 0
    · rw [if_pos (sgn_neg1.2 h2), if_pos (sgn_one.2 (by grind)), root rfl (by grind)]
      dsimp only
      have := gtQ_shift (-t) (-(-u / (v - u))) (-1)
      rw [show -t - -1 = 1 - t by grind, show -(-u / (v - u)) - -1 = 1 - -u / (v - u) by grind] at this
      rw [this]
      exact Prod.ext (by grind) rfl
    · rw [if_neg (fun e => h2 (sgn_neg1.1 e)), if_neg (fun e => by have := sgn_one.1 e; grind), if_neg (fun e => by have := sgn_neg1.1 e; grind)]
theorem span_rev (u0 v0 u1 v1 u2 v2 : Rat) : (spanQ v0 u0 v1 u1 v2 u2).2.2 = (spanQ u0 v0 u1 v1 u2 v2).2.2 ∧ ((spanQ u0 v0 u1 v1 u2 v2).2.2 = true → (spanQ v0 u0 v1 u1 v2 u2).1 = 1 - (spanQ u0 v0 u1 v1 u2 v2).2.1 ∧ (spanQ v0 u0 v1 u1 v2 u2).2.1 = 1 - (spanQ u0 v0 u1 v1 u2 v2).1) := by
  have e : stS v2 u2 (stS v1 u1 (stS v0 u0 (0, 1))) = (1 - (stS u2 v2 (stS u1 v1 (stS u0 v0 (0, 1)))).2, 1 - (stS u2 v2 (stS u1 v1 (stS u0 v0 (0, 1)))).1) := by
    have z : ((0 : Rat), (1 : Rat)) = (1 - 1, 1 - 0) := Prod.ext (by grind) (by grind)
    have a0 := stS_rev u0 v0 0 1
    rw [← z] at a0
    rw [a0, stS_rev, stS_rev]
  unfold spanQ
  rw [bad_rev u0 v0, bad_rev u1 v1, bad_rev u2 v2, e]
  generalize stS u2 v2 (stS u1 v1 (stS u0 v0 (0, 1))) = q
  obtain ⟨f, t⟩ := q
  cases badS u0 v0 with
  | true => exact ⟨rfl, fun h => by cases h⟩
  | false =>
    cases badS u1 v1 with
    | true => exact ⟨rfl, fun h => by cases h⟩
    | false =>
      cases badS u2 v2 with
      | true => exact ⟨rfl, fun h => by cases h⟩
      | false =>
        simp only [Bool.false_eq_true, if_false]
        have : (cmpQ (1 - t) (1 - f) < 0) ↔ (cmpQ f t < 0) := by rw [cmpQ_lt, cmpQ_lt]; grind
        simp only [this, and_self, implies_true]
end
section
def ptS (a b : Pt) (s : Rat) : Pt := a + scaleP (b - a) s
section
variable (a b A B C : Pt) (s : Rat)
theorem turn_lin1 : turnP (ptS a b s) B C = turnP a B C + (turnP b B C - turnP a B C) * s := by simp only [ptS, turn_def, add_x, add_y, scale_x, scale_y, sub_x, sub_y]; grind
theorem turn_lin2 : turnP A (ptS a b s) C = turnP A a C + (turnP A b C - turnP A a C) * s := by simp only [ptS, turn_def, add_x, add_y, scale_x, scale_y, sub_x, sub_y]; grind
theorem turn_lin3 : turnP A B (ptS a b s) = turnP A B a + (turnP A B b - turnP A B a) * s := by simp only [ptS, turn_def, add_x, add_y, scale_x, scale_y, sub_x, sub_y]; grind
theorem pt_rev : ptS b a (1 - s) = ptS a b s := by refine Pt.ext ?_ ?_ <;> simp only [ptS, add_x, add_y, scale_x, scale_y, sub_x, sub_y] <;> grind
end
theorem midR_eq (a b : Pt) (f t : Rat) : midR a b f t = ptS a b ((f + t) * (1 / 2)) := by
  unfold midR ptS
  rw [show (((1 : Int) : Rat) / ((2 : Int) : Rat)) * (f + t) = (f + t) * (1 / 2) by rw [show ((1 : Int) : Rat) = 1 from rfl, show ((2 : Int) : Rat) = 2 from rfl]; grind]
theorem lin_div (x y S s : Rat) : x / S + (y / S - x / S) * s = (x + (y - x) * s) / S := by simp only [Rat.div_def]; grind
theorem div_pos_iff {z S : Rat} (h : 0 < S) : 0 < z / S ↔ 0 < z := by
  have e : z / S * S = z := Rat.div_mul_cancel (by grind)
  generalize z / S = q at *
  exact ⟨fun k => by rw [← e]; exact Rat.mul_pos k h, fun k => by rw [← e] at k; exact pos_of h (by grind)⟩
theorem div_nn_iff {z S : Rat} (h : 0 < S) : 0 ≤ z / S ↔ 0 ≤ z := by
  have e : z / S * S = z := Rat.div_mul_cancel (by grind)
  generalize z / S = q at *
  exact ⟨fun k => by rw [← e]; exact Rat.mul_nonneg k (by grind), fun k => by rw [← e] at k; exact nn_of h (by grind)⟩
section
variable {ps : List Pt} {T : Nat × Nat × Nat} {a b q : Pt}
def Lft (ps : List Pt) (T : Nat × Nat × Nat) : Prop := 0 < turnP (ps.getD T.1 ⟨0, 0⟩) (ps.getD T.2.1 ⟨0, 0⟩) (ps.getD T.2.2 ⟨0, 0⟩)
theorem TriO.c (h : TriO ps T q) : TriC ps T q := by
  obtain ⟨h1, h2, h3⟩ := h
  exact ⟨by grind, by grind, by grind⟩
theorem spanV_some (hS : Lft ps T) (h : (spanV (corT ps T) a b).2.2 = true) : 0 ≤ (spanV (corT ps T) a b).1 ∧ (spanV (corT ps T) a b).1 < (spanV (corT ps T) a b).2.1 ∧ (spanV (corT ps T) a b).2.1 ≤ 1 ∧
    ∀ s, (spanV (corT ps T) a b).1 ≤ s → s ≤ (spanV (corT ps T) a b).2.1 → TriC ps T (ptS a b s) := by
  obtain ⟨h1, h2, h3, h4⟩ := span_some h
  refine ⟨h1, h2, h3, fun s k1 k2 => ?_⟩
  obtain ⟨m1, m2, m3⟩ := h4 s k1 k2
  rw [lin_div, ← turn_lin1] at m1
  rw [lin_div, ← turn_lin2] at m2
  rw [lin_div, ← turn_lin3] at m3
  exact ⟨(div_nn_iff hS).1 m1, (div_nn_iff hS).1 m2, (div_nn_iff hS).1 m3⟩
theorem spanV_in {s : Rat} (hS : Lft ps T) (h0 : 0 ≤ s) (h1 : s ≤ 1) (h : TriO ps T (ptS a b s)) : (spanV (corT ps T) a b).2.2 = true ∧ (spanV (corT ps T) a b).1 ≤ s ∧ s ≤ (spanV (corT ps T) a b).2.1 := by
  obtain ⟨m1, m2, m3⟩ := h
  refine span_in h0 h1 ?_ ?_ ?_
  · rw [lin_div, ← turn_lin1]; exact (div_pos_iff hS).2 m1
  · rw [lin_div, ← turn_lin2]; exact (div_pos_iff hS).2 m2
  · rw [lin_div, ← turn_lin3]; exact (div_pos_iff hS).2 m3
theorem where_un (hS : Lft ps T) : whereT ps q T = whereN (turnP q (ps.getD T.2.1 ⟨0, 0⟩) (ps.getD T.2.2 ⟨0, 0⟩) / turnP (ps.getD T.1 ⟨0, 0⟩) (ps.getD T.2.1 ⟨0, 0⟩) (ps.getD T.2.2 ⟨0, 0⟩)) (turnP (ps.getD T.1 ⟨0, 0⟩) q (ps.getD T.2.2 ⟨0, 0⟩) / turnP (ps.getD T.1 ⟨0, 0⟩) (ps.getD T.2.1 ⟨0, 0⟩) (ps.getD T.2.2 ⟨0, 0⟩))
    (turnP (ps.getD T.1 ⟨0, 0⟩) (ps.getD T.2.1 ⟨0, 0⟩) q / turnP (ps.getD T.1 ⟨0, 0⟩) (ps.getD T.2.1 ⟨0, 0⟩) (ps.getD T.2.2 ⟨0, 0⟩)) :=
  if_neg (show ¬ turnP (ps.getD T.1 ⟨0, 0⟩) (ps.getD T.2.1 ⟨0, 0⟩) (ps.getD T.2.2 ⟨0, 0⟩) = 0 from fun e => by unfold Lft at hS; rw [e] at hS; grind)
theorem whereN_zero {x y z : Rat} : whereN x y z = 0 ↔ ¬ (0 ≤ x ∧ 0 ≤ y ∧ 0 ≤ z) := by
  unfold whereN
  split
  · rename_i h
    rw [sgn_neg1, sgn_neg1, sgn_neg1] at h
    exact ⟨fun _ => by grind, fun _ => rfl⟩
  · rename_i h
    rw [sgn_neg1, sgn_neg1, sgn_neg1] at h
    exact ⟨fun h => by omega, fun h => by exfalso; apply h; grind⟩
theorem zq_pos {x : Rat} (h : 0 ≤ x) : zq x = 0 ↔ 0 < x := by
  by_cases e : x = 0
  · rw [zq_one (sgn_nil.2 e)]; grind
  · rw [zq_zero (fun k => e (sgn_nil.1 k))]; grind
theorem whereN_one {x y z : Rat} : whereN x y z = 1 ↔ 0 < x ∧ 0 < y ∧ 0 < z := by
  unfold whereN
  split
  · rename_i h
    rw [sgn_neg1, sgn_neg1, sgn_neg1] at h
    exact ⟨fun h => by omega, fun h => by grind⟩
  · rename_i h
    rw [sgn_neg1, sgn_neg1, sgn_neg1] at h
    have hx := zq_pos (x := x) (by grind)
    have hy := zq_pos (x := y) (by grind)
    have hz := zq_pos (x := z) (by grind)
    rw [← hx, ← hy, ← hz]
    omega
theorem where_one (hS : Lft ps T) : whereT ps q T = 1 ↔ TriO ps T q := by
  rw [where_un hS, whereN_one, div_pos_iff hS, div_pos_iff hS, div_pos_iff hS]
  exact Iff.rfl
theorem where_zero (hS : Lft ps T) : whereT ps q T = 0 ↔ ¬ TriC ps T q := by
  rw [where_un hS, whereN_zero, div_nn_iff hS, div_nn_iff hS, div_nn_iff hS]
  exact Iff.rfl
theorem lin_pos {u d lo hi s : Rat} (h1 : 0 ≤ u + d * lo) (h2 : 0 ≤ u + d * hi) (h3 : 0 < u + d * ((lo + hi) * (1 / 2))) (h4 : lo < s) (h5 : s < hi) : 0 < u + d * s := by
  rcases lt_or_leQ 0 d with h | h
  · have := Rat.mul_pos h (show 0 < s - lo by grind); grind
  · rcases lt_or_leQ d 0 with k | k
    · have := Rat.mul_pos (show 0 < -d by grind) (show 0 < hi - s by grind); grind
    · have : d = 0 := by grind
      subst this; grind
theorem TriO_between {lo hi s : Rat} (h1 : TriC ps T (ptS a b lo)) (h2 : TriC ps T (ptS a b hi)) (h3 : TriO ps T (ptS a b ((lo + hi) * (1 / 2)))) (h4 : lo < s) (h5 : s < hi) : TriO ps T (ptS a b s) := by
  unfold TriC at h1 h2
  unfold TriO at h3 ⊢
  rw [turn_lin1, turn_lin2, turn_lin3] at *
  exact ⟨lin_pos h1.1 h2.1 h3.1 h4 h5, lin_pos h1.2.1 h2.2.1 h3.2.1 h4 h5, lin_pos h1.2.2 h2.2.2 h3.2.2 h4 h5⟩
theorem lin_mid {u d lo hi s : Rat} (h1 : 0 ≤ u + d * lo) (h2 : 0 ≤ u + d * hi) (h3 : 0 < u + d * s) (h4 : lo ≤ s) (h5 : s ≤ hi) (h6 : lo < hi) : 0 < u + d * ((lo + hi) * (1 / 2)) := by
  rcases lt_or_leQ 0 d with h | h
  · have := Rat.mul_pos h (show 0 < (lo + hi) * (1 / 2) - lo by grind); grind
  · rcases lt_or_leQ d 0 with k | k
    · have := Rat.mul_pos (show 0 < -d by grind) (show 0 < hi - (lo + hi) * (1 / 2) by grind); grind
    · have : d = 0 := by grind
      subst this; grind
theorem TriO_mid {lo hi s : Rat} (h1 : TriC ps T (ptS a b lo)) (h2 : TriC ps T (ptS a b hi)) (h3 : TriO ps T (ptS a b s)) (h4 : lo ≤ s) (h5 : s ≤ hi) (h6 : lo < hi) : TriO ps T (ptS a b ((lo + hi) * (1 / 2))) := by
  unfold TriC at h1 h2
  unfold TriO at h3 ⊢
  rw [turn_lin1, turn_lin2, turn_lin3] at *
  exact ⟨lin_mid h1.1 h2.1 h3.1 h4 h5 h6, lin_mid h1.2.1 h2.2.1 h3.2.1 h4 h5 h6, lin_mid h1.2.2 h2.2.2 h3.2.2 h4 h5 h6⟩
end
structure PcOk (ps : List Pt) (ts : List (Nat × Nat × Nat)) (a b : Pt) (p : Pc) : Prop where
  lt : p.tri < ts.length
  lo0 : 0 ≤ p.lo
  lh : p.lo < p.hi
  hi1 : p.hi ≤ 1
  ins : ∀ s, p.lo < s → s < p.hi → TriO ps (ts.getD p.tri (0, 0, 0)) (ptS a b s)
  mid : TriO ps (ts.getD p.tri (0, 0, 0)) (ptS a b ((p.lo + p.hi) * (1 / 2)))
section
variable {ps : List Pt} {ts : List (Nat × Nat × Nat)} {a b : Pt}
theorem GoodM.lft (g : GoodM ps ts) {j : Nat} (hj : j < ts.length) : Lft ps (ts.getD j (0, 0, 0)) := (g.tri j hj).pos
theorem pcAt_ok (g : GoodM ps ts) {t : Nat} (ht : t < ts.length) {p : Pc} (hp : p ∈ pcAt ps a b t (ts.getD t (0, 0, 0))) : p.tri = t ∧ PcOk ps ts a b p := by
  unfold pcAt at hp
  split at hp
  · rename_i h1
    split at hp
    · rename_i h2
      rcases List.mem_singleton.1 hp with rfl
      obtain ⟨c1, c2, c3, c4⟩ := spanV_some (g.lft ht) h1
      rw [where_one (g.lft ht), midR_eq] at h2
      exact ⟨rfl, ht, c1, c2, c3, fun s k1 k2 => TriO_between (c4 _ (by grind) (by grind)) (c4 _ (by grind) (by grind)) h2 k1 k2, h2⟩
    · cases hp
  · cases hp
theorem pcAt_in (g : GoodM ps ts) {t : Nat} (ht : t < ts.length) {s : Rat} (h0 : 0 ≤ s) (h1 : s ≤ 1) (h : TriO ps (ts.getD t (0, 0, 0)) (ptS a b s)) : ∃ p ∈ pcAt ps a b t (ts.getD t (0, 0, 0)), p.tri = t ∧ p.lo ≤ s ∧ s ≤ p.hi := by
  obtain ⟨c1, c2, c3⟩ := spanV_in (g.lft ht) h0 h1 h
  obtain ⟨d1, d2, d3, d4⟩ := spanV_some (g.lft ht) c1
  unfold pcAt
  rw [if_pos c1, if_pos (by rw [where_one (g.lft ht), midR_eq]; exact TriO_mid (d4 _ (by grind) (by grind)) (d4 _ (by grind) (by grind)) h c2 c3 d2)]
  exact ⟨_, List.mem_cons_self, rfl, c2, c3⟩
theorem rayL_mem (g : GoodM ps ts) : ∀ n, n ≤ ts.length → ∀ p ∈ rayL ps ts a b n, p.tri < n ∧ PcOk ps ts a b p
  | 0, _, p, hp => by cases hp
  | n + 1, hn, p, hp => by
    rcases List.mem_append.1 hp with h | h
    · obtain ⟨h1, h2⟩ := rayL_mem g n (by omega) p h; exact ⟨by omega, h2⟩
    · obtain ⟨h1, h2⟩ := pcAt_ok g (by omega) h; exact ⟨by omega, h2⟩
theorem rayL_has (g : GoodM ps ts) : ∀ n, n ≤ ts.length → ∀ t, t < n → ∀ p ∈ pcAt ps a b t (ts.getD t (0, 0, 0)), p ∈ rayL ps ts a b n
  | n + 1, hn, t, ht, p, hp => by
    rcases Nat.lt_or_ge t n with h | h
    · exact List.mem_append_left _ (rayL_has g n (by omega) t h p hp)
    · obtain rfl : t = n := by omega
      exact List.mem_append_right _ hp
theorem rayL_tri (g : GoodM ps ts) : ∀ n, n ≤ ts.length → (rayL ps ts a b n).Pairwise (fun x y => x.tri ≠ y.tri)
  | 0, _ => List.Pairwise.nil
  | n + 1, hn => List.pairwise_append.2 ⟨rayL_tri g n (by omega), by
      have h := pcAt_len (ps := ps) (a := a) (b := b) (t := n) (ts.getD n (0, 0, 0))
      match pcAt ps a b n (ts.getD n (0, 0, 0)), h with
      | [], _ => exact List.Pairwise.nil
      | [x], _ => exact List.pairwise_singleton _ _, fun x hx y hy e => by
      have h1 := (rayL_mem g n (by omega) x hx).1
      have h2 := (pcAt_ok g (by omega) hy).1
      omega⟩
theorem pieces_apart (g : GoodM ps ts) {p q : Pc} (hp : PcOk ps ts a b p) (hq : PcOk ps ts a b q) (hne : p.tri ≠ q.tri) : p.hi ≤ q.lo ∨ q.hi ≤ p.lo := by
  rcases lt_or_leQ q.lo p.hi with h1 | h1
  · rcases lt_or_leQ p.lo q.hi with h2 | h2
    · exfalso
      have k1 := hp.lh
      have k2 := hq.lh
      obtain ⟨s, m1, m2, m3, m4⟩ : ∃ s, p.lo < s ∧ s < p.hi ∧ q.lo < s ∧ s < q.hi := by
        rcases lt_or_leQ p.lo q.lo with a1 | a1 <;> rcases lt_or_leQ p.hi q.hi with a2 | a2
        · exact ⟨(q.lo + p.hi) * (1 / 2), by grind, by grind, by grind, by grind⟩
        · exact ⟨(q.lo + q.hi) * (1 / 2), by grind, by grind, by grind, by grind⟩
        · exact ⟨(p.lo + p.hi) * (1 / 2), by grind, by grind, by grind, by grind⟩
        · exact ⟨(p.lo + q.hi) * (1 / 2), by grind, by grind, by grind, by grind⟩
      exact g.apart _ _ hp.lt hq.lt hne _ (hp.ins s m1 m2) (hq.ins s m3 m4).c
    · exact .inr h2
  · exact .inl h1
end
def revP (p : Pc) : Pc := ⟨p.tri, 1 - p.hi, 1 - p.lo⟩
section
variable {ps : List Pt} {ts : List (Nat × Nat × Nat)} {a b : Pt}
theorem pcAt_rev (t : Nat) (T : Nat × Nat × Nat) : pcAt ps b a t T = (pcAt ps a b t T).map revP := by
  have h := span_rev (turnP a (corT ps T).2.1 (corT ps T).2.2 / turnP (corT ps T).1 (corT ps T).2.1 (corT ps T).2.2) (turnP b (corT ps T).2.1 (corT ps T).2.2 / turnP (corT ps T).1 (corT ps T).2.1 (corT ps T).2.2) (turnP (corT ps T).1 a (corT ps T).2.2 / turnP (corT ps T).1 (corT ps T).2.1 (corT ps T).2.2) (turnP (corT ps T).1 b (corT ps T).2.2 / turnP (corT ps T).1 (corT ps T).2.1 (corT ps T).2.2) (turnP (corT ps T).1 (corT ps T).2.1 a / turnP (corT ps T).1 (corT ps T).2.1 (corT ps T).2.2) (turnP (corT ps T).1 (corT ps T).2.1 b / turnP (corT ps T).1 (corT ps T).2.1 (corT ps T).2.2)
  have h : (spanV (corT ps T) b a).2.2 = (spanV (corT ps T) a b).2.2 ∧ ((spanV (corT ps T) a b).2.2 = true → (spanV (corT ps T) b a).1 = 1 - (spanV (corT ps T) a b).2.1 ∧ (spanV (corT ps T) b a).2.1 = 1 - (spanV (corT ps T) a b).1) := h
  unfold pcAt
  rw [h.1]
  by_cases h1 : (spanV (corT ps T) a b).2.2 = true
  · obtain ⟨e1, e2⟩ := h.2 h1
    rw [if_pos h1, if_pos h1, e1, e2, midR_eq, midR_eq, show (1 - (spanV (corT ps T) a b).2.1 + (1 - (spanV (corT ps T) a b).1)) * (1 / 2) = 1 - ((spanV (corT ps T) a b).1 + (spanV (corT ps T) a b).2.1) * (1 / 2) by grind, pt_rev]
    split <;> rfl
  · rw [if_neg h1, if_neg h1]; rfl
theorem rayL_rev : ∀ n, rayL ps ts b a n = (rayL ps ts a b n).map revP
  | 0 => rfl
  | n + 1 => by rw [rayL, rayL, rayL_rev n, pcAt_rev, List.map_append]
end
theorem cmpP_neg {x y : Pc} : cmpP x y < 0 ↔ x.lo < y.lo ∨ (x.lo = y.lo ∧ x.tri < y.tri) := by
  unfold cmpP
  by_cases h : cmpQ x.lo y.lo = 0
  · rw [if_neg (by simpa using h)]
    have e := cmpQ_eq.1 h
    unfold cmpI
    constructor
    · intro k; refine .inr ⟨e, ?_⟩; by_cases h1 : x.tri < y.tri
      · exact h1
      · rw [if_neg h1] at k; split at k <;> omega
    · rintro (k | ⟨_, k⟩)
      · rw [e] at k; exact absurd k (by grind)
      · rw [if_pos k]; decide
  · rw [if_pos h, cmpQ_lt]
    exact ⟨fun k => .inl k, fun k => k.elim id fun k => absurd (cmpQ_eq.2 k.1) h⟩
def insP (x : Pc) : List Pc → List Pc
  | [] => [x]
  | y :: r => if cmpP x y < 0 then x :: y :: r else y :: insP x r
def srtP : List Pc → List Pc
  | [] => []
  | x :: r => insP x (srtP r)
def LeP (x y : Pc) : Prop := ¬ cmpP y x < 0
theorem insP_perm (x : Pc) : ∀ l, (insP x l).Perm (x :: l)
  | [] => List.Perm.refl _
  | y :: r => by
    unfold insP
    split
    · exact List.Perm.refl _
    · exact (List.Perm.cons y (insP_perm x r)).trans (List.Perm.swap x y r)
theorem srtP_perm : ∀ l, (srtP l).Perm l
  | [] => List.Perm.refl _
  | x :: r => (insP_perm x (srtP r)).trans (List.Perm.cons x (srtP_perm r))
theorem leP_iff {x y : Pc} : LeP x y ↔ x.lo < y.lo ∨ (x.lo = y.lo ∧ x.tri ≤ y.tri) := by
  unfold LeP
  rw [cmpP_neg]
  constructor
  · intro h
    rcases lt_or_leQ x.lo y.lo with k | k
    · exact .inl k
    · refine .inr ?_
      have h1 : ¬ y.lo < x.lo := fun e => h (.inl e)
      have e : x.lo = y.lo := by grind
      exact ⟨e, by rcases Nat.lt_or_ge y.tri x.tri with k2 | k2
                   · exact absurd (.inr ⟨e.symm, k2⟩) h
                   · exact k2⟩
  · rintro h (k | ⟨k1, k2⟩)
    · rcases h with h | ⟨h, _⟩ <;> grind
    · rcases h with h | ⟨_, h⟩
      · grind
      · omega
theorem LeP.trans {x y z : Pc} (h : LeP x y) (k : LeP y z) : LeP x z := by
  rw [leP_iff] at *
  rcases h with h | ⟨h1, h2⟩ <;> rcases k with k | ⟨k1, k2⟩
  · exact .inl (by grind)
  · exact .inl (by grind)
  · exact .inl (by grind)
  · exact .inr ⟨by grind, by omega⟩
theorem insP_sorted (x : Pc) : ∀ l, l.Pairwise LeP → (insP x l).Pairwise LeP
  | [], _ => List.pairwise_singleton _ _
  | y :: r, h => by
    obtain ⟨h1, h2⟩ := List.pairwise_cons.1 h
    unfold insP
    split
    · rename_i k
      have hxy : LeP x y := by
        rw [leP_iff]
        rcases cmpP_neg.1 k with k | ⟨k1, k2⟩
        · exact .inl k
        · exact .inr ⟨k1, by omega⟩
      refine List.pairwise_cons.2 ⟨fun z hz => ?_, h⟩
      rcases List.mem_cons.1 hz with rfl | hz
      · exact hxy
      · exact hxy.trans (h1 z hz)
    · rename_i k
      refine List.pairwise_cons.2 ⟨fun z hz => ?_, insP_sorted x r h2⟩
      rcases List.mem_cons.1 ((insP_perm x r).mem_iff.1 hz) with rfl | hz
      · exact k
      · exact h1 z hz
theorem srtP_sorted : ∀ l, (srtP l).Pairwise LeP
  | [] => List.Pairwise.nil
  | x :: r => insP_sorted x _ (srtP_sorted r)
theorem tri_same : ∀ {l : List Pc}, l.Pairwise (fun x y => x.tri ≠ y.tri) → ∀ x ∈ l, ∀ y ∈ l, x.tri = y.tri → x = y
  | z :: r, h, x, hx, y, hy, e => by
    obtain ⟨h1, h2⟩ := List.pairwise_cons.1 h
    rcases List.mem_cons.1 hx with ex | hx' <;> rcases List.mem_cons.1 hy with ey | hy'
    · rw [ex, ey]
    · rw [ex] at e; exact absurd e (h1 y hy')
    · rw [ey] at e; exact absurd e.symm (h1 x hx')
    · exact tri_same h2 x hx' y hy' e
theorem srtP_uniq {l l' : List Pc} (hp : l'.Perm l) (hs : l'.Pairwise LeP) (hn : l.Pairwise (fun x y => x.tri ≠ y.tri)) : l' = srtP l := by
  refine List.Perm.eq_of_pairwise (le := LeP) (fun x y hx hy h1 h2 => ?_) hs (srtP_sorted l) (hp.trans (srtP_perm l).symm)
  refine tri_same hn x (hp.mem_iff.1 hx) y ((srtP_perm l).mem_iff.1 hy) ?_
  rw [leP_iff] at h1 h2
  rcases h1 with h1 | ⟨e1, h1⟩ <;> rcases h2 with h2 | ⟨e2, h2⟩ <;> first | omega | (exfalso; grind)
section
variable {ps : List Pt} {ts : List (Nat × Nat × Nat)} {a b : Pt} {n : Nat}
def rayS (ps : List Pt) (ts : List (Nat × Nat × Nat)) (a b : Pt) (n : Nat) : List Pc := srtP (rayL ps ts a b n)
theorem rayS_mem (g : GoodM ps ts) (hn : n ≤ ts.length) {p : Pc} (hp : p ∈ rayS ps ts a b n) : PcOk ps ts a b p := (rayL_mem g n hn p ((srtP_perm _).mem_iff.1 hp)).2
theorem rayS_apart (g : GoodM ps ts) (hn : n ≤ ts.length) : (rayS ps ts a b n).Pairwise (fun x y => x.hi ≤ y.lo) := by
  have h1 : (rayS ps ts a b n).Pairwise (fun x y => x.tri ≠ y.tri) := (srtP_perm _).symm.pairwise (rayL_tri g n hn) (fun {x y} h => h.symm)
  refine List.Pairwise.imp_of_mem (fun {x y} hx hy h => ?_) (List.Pairwise.and (srtP_sorted (rayL ps ts a b n)) h1)
  have kx := rayS_mem g hn hx
  have ky := rayS_mem g hn hy
  have := leP_iff.1 h.1
  have h2 := ky.lh
  rcases pieces_apart g kx ky h.2 with k | k
  · exact k
  · exfalso; rcases this with h3 | ⟨h3, _⟩ <;> grind
theorem rayS_rev (g : GoodM ps ts) (hn : n ≤ ts.length) : rayS ps ts b a n = ((rayS ps ts a b n).map revP).reverse := by
  refine (srtP_uniq ?_ ?_ ?_).symm
  · rw [rayL_rev]
    exact (List.reverse_perm _).trans ((srtP_perm _).map _)
  · rw [List.pairwise_reverse, List.pairwise_map]
    refine List.Pairwise.imp_of_mem (fun {x y} hx hy h => ?_) (rayS_apart g hn)
    rw [leP_iff]
    have h1 := (rayS_mem g hn hy).lh
    exact .inl (by show 1 - y.hi < 1 - x.hi; grind)
  · exact rayL_tri g n hn
theorem rayS_len (g : GoodM ps ts) (hn : n ≤ ts.length) : (rayS ps ts b a n).length = (rayS ps ts a b n).length := by rw [rayS_rev g hn]; simp
theorem rayS_back (g : GoodM ps ts) (hn : n ≤ ts.length) {i : Nat} (hi : i < (rayS ps ts a b n).length) (d : Pc) : (rayS ps ts b a n).getD ((rayS ps ts a b n).length - 1 - i) d = revP ((rayS ps ts a b n).getD i d) := by
  rw [rayS_rev g hn, List.getD, List.getElem?_reverse (by simp; omega), List.getElem?_map, List.length_map, show (rayS ps ts a b n).length - 1 - ((rayS ps ts a b n).length - 1 - i) = i by omega, List.getD, List.getElem?_eq_getElem hi]
  rfl
theorem rayS_at (g : GoodM ps ts) (hn : n ≤ ts.length) {i : Nat} (hi : i < (rayS ps ts a b n).length) (d : Pc) : PcOk ps ts a b ((rayS ps ts a b n).getD i d) := by
  rw [List.getD, List.getElem?_eq_getElem hi]; exact rayS_mem g hn (List.getElem_mem hi)
theorem rayS_next (g : GoodM ps ts) (hn : n ≤ ts.length) {i : Nat} (hi : i + 1 < (rayS ps ts a b n).length) (d : Pc) : ((rayS ps ts a b n).getD i d).hi ≤ ((rayS ps ts a b n).getD (i + 1) d).lo := by
  have h := List.pairwise_iff_getElem.1 (rayS_apart (a := a) (b := b) g hn) i (i + 1) (by omega) hi (by omega)
  rw [List.getD, List.getElem?_eq_getElem (show i < (rayS ps ts a b n).length by omega), List.getD, List.getElem?_eq_getElem hi]
  exact h
end
section
variable {ps : List Pt} {ts : List (Nat × Nat × Nat)} {a b q : Pt}
theorem findAt_full (ps : List Pt) (q : Pt) : ∀ (ts : List (Nat × Nat × Nat)) (i : Nat), (findAt ps q ts i = (-1, 0)) ∨
    ∃ j, j < ts.length ∧ findAt ps q ts i = (((i + j : Nat) : Int), whereT ps q (ts.getD j (0, 0, 0))) ∧ whereT ps q (ts.getD j (0, 0, 0)) ≠ 0
  | [], i => .inl rfl
  | t :: r, i => by
    unfold findAt
    by_cases h : whereT ps q t = 0
    · rw [if_pos h]
      rcases findAt_full ps q r (i + 1) with h1 | ⟨j, h1, h2, h3⟩
      · exact .inl h1
      · exact .inr ⟨j + 1, by simpa using h1, by rw [h2]; exact Prod.ext (by show ((i + 1 + j : Nat) : Int) = ((i + (j + 1) : Nat) : Int); omega) rfl, h3⟩
    · rw [if_neg h]
      exact .inr ⟨0, by simp, rfl, h⟩
theorem find_full (g : GoodM ps ts) (q : Pt) : findB ps ts q = (-1, 0) ∨ ∃ j, j < ts.length ∧ findB ps ts q = ((j : Int), whereT ps q (ts.getD j (0, 0, 0))) ∧ whereT ps q (ts.getD j (0, 0, 0)) ≠ 0 := by
  unfold findB
  rw [if_pos (numB_good g)]
  rcases findAt_full ps q ts 0 with h | ⟨j, h1, h2, h3⟩
  · exact .inl h
  · exact .inr ⟨j, h1, by rw [h2]; exact Prod.ext (by show ((0 + j : Nat) : Int) = (j : Int); omega) rfl, h3⟩
theorem find_inside (g : GoodM ps ts) {j : Nat} (hj : j < ts.length) (h : TriO ps (ts.getD j (0, 0, 0)) q) : findB ps ts q = ((j : Int), 1) := by
  have h1 := (where_one (g.lft hj)).2 h
  rcases find_full g q with e | ⟨k, hk, e, hne⟩
  · exact absurd e (find_ne (numB_good g) hj (by rw [h1]; decide))
  · by_cases hkj : k = j
    · subst hkj; rw [e, h1]
    · exact absurd ((where_zero (g.lft hk)).2 (g.apart j k hj hk (fun e => hkj e.symm) q h)) hne
theorem found_ok (g : GoodM ps ts) {s : Rat} {t : Int} {w : Nat} (h0 : 0 ≤ s) (h1 : s ≤ 1) (h : findB ps ts (ptS a b s) = (t, w)) (hw : w = 1) : ∃ p ∈ rayS ps ts a b ts.length, (p.tri : Int) = t ∧ p.lo ≤ s ∧ s ≤ p.hi := by
  subst hw
  rcases find_full g (ptS a b s) with e | ⟨k, hk, e, hne⟩
  · rw [h] at e; cases e
  · rw [h] at e
    injection e with e1 e2
    have h2 := (where_one (g.lft hk)).1 e2.symm
    obtain ⟨p, hp, e3, h3, h4⟩ := pcAt_in g hk h0 h1 h2
    exact ⟨p, (srtP_perm _).mem_iff.2 (rayL_has g _ (Nat.le_refl _) k hk p hp), by rw [e3, e1], h3, h4⟩
end
end
end Go.Proofs.YtndjhnbnegfijaaGreatDoor
