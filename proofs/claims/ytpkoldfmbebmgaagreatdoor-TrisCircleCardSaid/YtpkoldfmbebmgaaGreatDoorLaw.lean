/- The laws of triangles, in plain Lean: what the statements of layer 24 say, of fractions. -/
import Derived.Test.YtpkoldfmbebmgaaGreatDoorNumZ
namespace Go.Proofs.YtpkoldfmbebmgaaGreatDoor
open Go Go.RowKit
set_option linter.unusedVariables false
set_option linter.unusedSimpArgs false

theorem add_x (a b : Pt) : (a + b).x = a.x + b.x := rfl
theorem add_y (a b : Pt) : (a + b).y = a.y + b.y := rfl
theorem sub_x (a b : Pt) : (a - b).x = a.x - b.x := rfl
theorem sub_y (a b : Pt) : (a - b).y = a.y - b.y := rfl
theorem scale_x (a : Pt) (k : Rat) : (scaleP a k).x = a.x * k := rfl
theorem scale_y (a : Pt) (k : Rat) : (scaleP a k).y = a.y * k := rfl
theorem turn_def (a b c : Pt) : turnP a b c = (b.x - a.x) * (c.y - a.y) - (b.y - a.y) * (c.x - a.x) := rfl
theorem dot_def (a b : Pt) : dotP a b = a.x * b.x + a.y * b.y := rfl
theorem cross_def (a b : Pt) : crossP a b = a.x * b.y - a.y * b.x := rfl

theorem back_at {a b c p : Pt} (h : turnP a b c ≠ 0) : scaleP a (turnP p b c / turnP a b c) + scaleP b (turnP a p c / turnP a b c) + scaleP c (turnP a b p / turnP a b c) = p := by
  have kx : a.x * turnP p b c + b.x * turnP a p c + c.x * turnP a b p = p.x * turnP a b c := by simp only [turn_def]; grind
  have ky : a.y * turnP p b c + b.y * turnP a p c + c.y * turnP a b p = p.y * turnP a b c := by simp only [turn_def]; grind
  generalize turnP a b c = T at *
  refine Pt.ext ?_ ?_
  · simp only [add_x, scale_x]; grind
  · simp only [add_y, scale_y]; grind
theorem back_sum {a b c p : Pt} (h : turnP a b c ≠ 0) : turnP p b c / turnP a b c + turnP a p c / turnP a b c + turnP a b p / turnP a b c = 1 := by
  have k : turnP p b c + turnP a p c + turnP a b p = turnP a b c := by simp only [turn_def]; grind
  generalize turnP a b c = T at *
  grind
theorem back_bary {a b c : Pt} (h : turnP a b c ≠ 0) (u v : Rat) :
    turnP (scaleP a u + scaleP b v + scaleP c (1 - u - v)) b c / turnP a b c = u ∧ turnP a (scaleP a u + scaleP b v + scaleP c (1 - u - v)) c / turnP a b c = v ∧ turnP a b (scaleP a u + scaleP b v + scaleP c (1 - u - v)) / turnP a b c = 1 - u - v := by
  have k1 : turnP (scaleP a u + scaleP b v + scaleP c (1 - u - v)) b c = u * turnP a b c := by simp only [turn_def, add_x, add_y, scale_x, scale_y]; grind
  have k2 : turnP a (scaleP a u + scaleP b v + scaleP c (1 - u - v)) c = v * turnP a b c := by simp only [turn_def, add_x, add_y, scale_x, scale_y]; grind
  have k3 : turnP a b (scaleP a u + scaleP b v + scaleP c (1 - u - v)) = (1 - u - v) * turnP a b c := by simp only [turn_def, add_x, add_y, scale_x, scale_y]; grind
  rw [k1, k2, k3]
  generalize turnP a b c = T at *
  exact ⟨by grind, by grind, by grind⟩
/- parts -/
theorem parts_sum (a b c p : Pt) : turnP p b c * (1 / 2) + turnP a p c * (1 / 2) + turnP a b p * (1 / 2) = turnP a b c * (1 / 2) := by simp only [turn_def]; grind
theorem parts_neg (a b c : Pt) : turnP b a c * (1 / 2) = -(turnP a b c * (1 / 2)) := by simp only [turn_def]; grind
theorem parts_turn (a b c : Pt) : turnP b c a * (1 / 2) = turnP a b c * (1 / 2) := by simp only [turn_def]; grind
/- angles -/
theorem grads_sum {a b c : Pt} (_h : turnP a b c ≠ 0) : (⟨-(c - b).y / turnP a b c, (c - b).x / turnP a b c⟩ : Pt) + ⟨-(a - c).y / turnP a b c, (a - c).x / turnP a b c⟩ + ⟨-(b - a).y / turnP a b c, (b - a).x / turnP a b c⟩ = ⟨0, 0⟩ := by
  generalize turnP a b c = T at *
  refine Pt.ext ?_ ?_
  · simp only [add_x, sub_x, sub_y]; grind
  · simp only [add_y, sub_x, sub_y]; grind
/- the gradient of the corner a against the edge b c -/
theorem grad_one {a b c : Pt} (h : turnP a b c ≠ 0) : dotP ⟨-(c - b).y / turnP a b c, (c - b).x / turnP a b c⟩ (a - b) = 1 := by
  have k : turnP a b c = -(c.y - b.y) * (a.x - b.x) + (c.x - b.x) * (a.y - b.y) := by simp only [turn_def]; grind
  simp only [dot_def, sub_x, sub_y] 
  generalize turnP a b c = T at *
  grind
theorem grad_zero {a b c : Pt} (_h : turnP a b c ≠ 0) : dotP ⟨-(c - b).y / turnP a b c, (c - b).x / turnP a b c⟩ (c - b) = 0 := by
  simp only [dot_def, sub_x, sub_y] 
  generalize turnP a b c = T at *
  grind
theorem cots_one {a b c : Pt} (h : turnP a b c ≠ 0) (S : Rat) (hS : S * S = turnP a b c * turnP a b c) :
   (dotP (b - a) (c - a) / S) * (dotP (c - b) (a - b) / S) + (dotP (c - b) (a - b) / S) * (dotP (a - c) (b - c) / S) + (dotP (a - c) (b - c) / S) * (dotP (b - a) (c - a) / S) = 1 := by
  have k : dotP (b - a) (c - a) * dotP (c - b) (a - b) + dotP (c - b) (a - b) * dotP (a - c) (b - c) + dotP (a - c) (b - c) * dotP (b - a) (c - a) = turnP a b c * turnP a b c := by
    simp only [turn_def, dot_def, sub_x, sub_y]; grind
  generalize turnP a b c = T at *
  grind
theorem angle_dot {a b c : Pt} (h : turnP a b c ≠ 0) (S : Rat) (hS : S * S = turnP a b c * turnP a b c) :
   (S * (1 / 2)) * dotP ⟨-(c - b).y / turnP a b c, (c - b).x / turnP a b c⟩ ⟨-(a - c).y / turnP a b c, (a - c).x / turnP a b c⟩ = (-1 / 2) * (dotP (a - c) (b - c) / S) := by
  have k : (c.y - b.y) * (a.y - c.y) + (c.x - b.x) * (a.x - c.x) = - dotP (a - c) (b - c) := by simp only [dot_def, sub_x, sub_y]; grind
  simp only [dot_def, sub_x, sub_y] at *
  generalize turnP a b c = T at *
  generalize (a.x - c.x) * (b.x - c.x) + (a.y - c.y) * (b.y - c.y) = D at *
  grind

/-- The circumcentre. -/
def midP (a b c : Pt) : Pt := a + scaleP (scaleP ⟨(c - a).y, -(c - a).x⟩ (dotP (b - a) (b - a)) - scaleP ⟨(b - a).y, -(b - a).x⟩ (dotP (c - a) (c - a))) (((1 : Int) : Rat) / (((2 : Int) : Rat) * crossP (b - a) (c - a)))
theorem mid_eq {a b c : Pt} (h : turnP a b c ≠ 0) : 2 * turnP a b c * (midP a b c - a).x = (c.y - a.y) * dotP (b - a) (b - a) - (b.y - a.y) * dotP (c - a) (c - a) ∧ 2 * turnP a b c * (midP a b c - a).y = -(c.x - a.x) * dotP (b - a) (b - a) + (b.x - a.x) * dotP (c - a) (c - a) := by
  have e : crossP (b - a) (c - a) = turnP a b c := rfl
  simp only [midP, e, add_x, add_y, sub_x, sub_y, scale_x, scale_y, Rat.intCast_ofNat]
  generalize turnP a b c = T at *
  generalize dotP (b - a) (b - a) = U at *
  generalize dotP (c - a) (c - a) = V at *
  constructor <;> grind
theorem mid_b {a b c : Pt} (h : turnP a b c ≠ 0) : dotP (b - midP a b c) (b - midP a b c) = dotP (a - midP a b c) (a - midP a b c) := by
  obtain ⟨h1, h2⟩ := mid_eq h
  have k : 2 * turnP a b c * (dotP (b - midP a b c) (b - midP a b c) - dotP (a - midP a b c) (a - midP a b c)) = 0 := by
    simp only [turn_def, dot_def, sub_x, sub_y] at *
    generalize midP a b c = m at *
    grind
  grind
theorem mid_c {a b c : Pt} (h : turnP a b c ≠ 0) : dotP (c - midP a b c) (c - midP a b c) = dotP (a - midP a b c) (a - midP a b c) := by
  obtain ⟨h1, h2⟩ := mid_eq h
  have k : 2 * turnP a b c * (dotP (c - midP a b c) (c - midP a b c) - dotP (a - midP a b c) (a - midP a b c)) = 0 := by
    simp only [turn_def, dot_def, sub_x, sub_y] at *
    generalize midP a b c = m at *
    grind
  grind
theorem mid_right {a b c : Pt} (h : turnP a b c ≠ 0) (h0 : dotP (b - a) (c - a) = 0) : midP a b c = scaleP (b + c) (1 / 2) := by
  obtain ⟨h1, h2⟩ := mid_eq h
  have k1 : 2 * turnP a b c * ((midP a b c).x - (b.x + c.x) * (1 / 2)) = 0 := by
    simp only [turn_def, dot_def, sub_x, sub_y] at *
    generalize midP a b c = m at *
    grind
  have k2 : 2 * turnP a b c * ((midP a b c).y - (b.y + c.y) * (1 / 2)) = 0 := by
    simp only [turn_def, dot_def, sub_x, sub_y] at *
    generalize midP a b c = m at *
    grind
  refine Pt.ext ?_ ?_
  · simp only [scale_x, add_x]; grind
  · simp only [scale_y, add_y]; grind
theorem circle_eq {a b c p : Pt} (h : turnP a b c ≠ 0) : dotP (a - p) (a - p) * crossP (b - p) (c - p) + dotP (b - p) (b - p) * crossP (c - p) (a - p) + dotP (c - p) (c - p) * crossP (a - p) (b - p) =
    turnP a b c * (dotP (a - midP a b c) (a - midP a b c) - dotP (p - midP a b c) (p - midP a b c)) := by
  obtain ⟨h1, h2⟩ := mid_eq h
  have e1 : (p.x - a.x) * (2 * turnP a b c * (midP a b c - a).x) + (p.y - a.y) * (2 * turnP a b c * (midP a b c - a).y) = (p.x - a.x) * ((c.y - a.y) * dotP (b - a) (b - a) - (b.y - a.y) * dotP (c - a) (c - a)) + (p.y - a.y) * (-(c.x - a.x) * dotP (b - a) (b - a) + (b.x - a.x) * dotP (c - a) (c - a)) := by rw [h1, h2]
  have e2 : turnP a b c * (dotP (a - midP a b c) (a - midP a b c) - dotP (p - midP a b c) (p - midP a b c)) = ((p.x - a.x) * (2 * turnP a b c * (midP a b c - a).x) + (p.y - a.y) * (2 * turnP a b c * (midP a b c - a).y)) - turnP a b c * dotP (p - a) (p - a) := by
    generalize midP a b c = m at *
    generalize turnP a b c = T at *
    simp only [dot_def, sub_x, sub_y]
    grind
  rw [e2, e1]
  simp only [turn_def, dot_def, cross_def, sub_x, sub_y]
  grind
theorem triQ (a b : Rat) : a < b ∨ a = b ∨ b < a := by grind
theorem sgn_neg {q : Rat} (h : q < 0) : q.num.sign = -1 := by
  have h1 : ¬ 0 ≤ q.num := fun e => by have := Rat.num_nonneg.1 e; grind
  exact Int.sign_eq_neg_one_of_neg (by omega)
theorem sgn_pos {q : Rat} (h : 0 < q) : q.num.sign = 1 := by
  have h1 : 0 ≤ q.num := Rat.num_nonneg.2 (by grind)
  have h2 : q.num ≠ 0 := fun e => by have := Rat.num_eq_zero.1 e; grind
  exact Int.sign_eq_one_of_pos (by omega)
theorem sgn_zero {q : Rat} (h : q = 0) : q.num.sign = 0 := by subst h; rfl
/-- A number's sign. -/
def sgnQ (q : Rat) : Int := if q < 0 then -1 else if q = 0 then 0 else 1
theorem sgn_eq (q : Rat) : q.num.sign = sgnQ q := by
  unfold sgnQ
  split
  · exact sgn_neg ‹_›
  · split
    · exact sgn_zero ‹_›
    · exact sgn_pos (by grind)
theorem sign_cmp (s t : Rat) : (s - t).num.sign = cmpQ s t := by
  rw [sgn_eq]; unfold sgnQ cmpQ
  by_cases h : s < t
  · rw [if_pos h, if_pos (by grind)]
  · by_cases h2 : s = t
    · rw [if_neg h, if_pos h2, if_neg (by grind), if_pos (by grind)]
    · rw [if_neg h, if_neg h2, if_neg (by grind), if_neg (by grind)]
theorem sign_mulQ (a b : Rat) : (a * b).num.sign = a.num.sign * b.num.sign := by
  rcases triQ a 0 with h | h | h
  · rcases triQ b 0 with k | k | k
    · have h3 := Rat.mul_pos (a := -a) (b := -b) (by grind) (by grind)
      rw [sgn_neg h, sgn_neg k, sgn_pos (q := a * b) (by grind)]; rfl
    · subst k; rw [Rat.mul_zero]; simp
    · have h3 := Rat.mul_pos (a := -a) (b := b) (by grind) (by grind)
      rw [sgn_neg h, sgn_pos k, sgn_neg (q := a * b) (by grind)]; rfl
  · subst h; rw [Rat.zero_mul]; simp
  · rcases triQ b 0 with k | k | k
    · have h3 := Rat.mul_pos (a := a) (b := -b) (by grind) (by grind)
      rw [sgn_pos h, sgn_neg k, sgn_neg (q := a * b) (by grind)]; rfl
    · subst k; rw [Rat.mul_zero]; simp
    · have h3 := Rat.mul_pos (a := a) (b := b) (by grind) (by grind)
      rw [sgn_pos h, sgn_pos k, sgn_pos (q := a * b) (by grind)]; rfl
theorem circle_law {a b c p : Pt} (h : turnP a b c ≠ 0) : (dotP (a - p) (a - p) * crossP (b - p) (c - p) + dotP (b - p) (b - p) * crossP (c - p) (a - p) + dotP (c - p) (c - p) * crossP (a - p) (b - p)).num.sign * (turnP a b c).num.sign =
    cmpQ (dotP (a - midP a b c) (a - midP a b c)) (dotP (p - midP a b c) (p - midP a b c)) := by
  rw [circle_eq h, ← sign_cmp, ← sign_mulQ, Rat.mul_comm, ← Rat.mul_assoc, sign_mulQ]
  have : 0 < turnP a b c * turnP a b c := by
    rcases triQ (turnP a b c) 0 with h1 | h1 | h1
    · have := Rat.mul_pos (a := -turnP a b c) (b := -turnP a b c) (by grind) (by grind); grind
    · exact absurd h1 h
    · exact Rat.mul_pos h1 h1
  rw [sgn_pos this, Int.one_mul]

/-! shape -/
theorem sort3_scale (k x y z : Rat) (hk : 0 < k) : sort3 (k * x) (k * y) (k * z) = (k * (sort3 x y z).1, k * (sort3 x y z).2.1, k * (sort3 x y z).2.2) := by
  have e : ∀ u v : Rat, (k * u < k * v) = (u < v) := fun u v => by
    refine propext ⟨fun h => ?_, fun h => ?_⟩
    · rcases triQ u v with h1 | h1 | h1
      · exact h1
      · subst h1; grind
      · have := Rat.mul_pos hk (b := u - v) (by grind); grind
    · have := Rat.mul_pos hk (b := v - u) (by grind); grind
  unfold sort3
  simp only [e]
  split <;> split <;> first | rfl | (split <;> rfl)
theorem sort3_turn (x y z : Rat) : sort3 y z x = sort3 x y z := by
  unfold sort3
  grind
theorem sort3_le (x y z : Rat) : (sort3 x y z).1 ≤ (sort3 x y z).2.1 ∧ (sort3 x y z).2.1 ≤ (sort3 x y z).2.2 := by
  unfold sort3
  grind
theorem sort3_pos {x y z : Rat} (hx : 0 < x) (hy : 0 < y) (hz : 0 < z) : 0 < (sort3 x y z).1 := by
  unfold sort3
  grind
theorem sq_nonneg (x : Rat) : 0 ≤ x * x := by
  rcases triQ x 0 with h | h | h
  · have := Rat.mul_pos (a := -x) (b := -x) (by grind) (by grind); grind
  · subst h; grind
  · have := Rat.mul_pos h h; grind
theorem dot_pos {p : Pt} (h : p.x ≠ 0 ∨ p.y ≠ 0) : 0 < dotP p p := by
  have h1 := sq_nonneg p.x
  have h2 := sq_nonneg p.y
  rw [dot_def]
  rcases h with h | h
  · have h3 : p.x * p.x ≠ 0 := fun e => by rcases Rat.mul_eq_zero.1 e with e | e <;> exact h e
    grind
  · have h3 : p.y * p.y ≠ 0 := fun e => by rcases Rat.mul_eq_zero.1 e with e | e <;> exact h e
    grind
theorem side_pos {a b c : Pt} (h : turnP a b c ≠ 0) : 0 < dotP (b - a) (b - a) := by
  refine dot_pos ?_
  apply Classical.byContradiction
  intro e
  refine h ?_
  have h1 : (b - a).x = 0 := Classical.byContradiction fun k => e (.inl k)
  have h2 : (b - a).y = 0 := Classical.byContradiction fun k => e (.inr k)
  show (b - a).x * (c - a).y - (b - a).y * (c - a).x = 0
  rw [h1, h2]; grind
theorem turn_cyc (a b c : Pt) : turnP b c a = turnP a b c := by simp only [turn_def]; grind
theorem sides_pos {a b c : Pt} (h : turnP a b c ≠ 0) : 0 < dotP (b - a) (b - a) ∧ 0 < dotP (c - b) (c - b) ∧ 0 < dotP (a - c) (a - c) :=
  ⟨side_pos h, side_pos (c := a) (by rw [turn_cyc]; exact h), side_pos (c := b) (by rw [turn_cyc, turn_cyc]; exact h)⟩
def shapeS (a b c : Pt) : Rat × Rat × Rat := sort3 (dotP (b - a) (b - a)) (dotP (c - b) (c - b)) (dotP (a - c) (a - c))
theorem shape_pos {a b c : Pt} (h : turnP a b c ≠ 0) : 0 < (shapeS a b c).1 ∧ (shapeS a b c).1 ≤ (shapeS a b c).2.1 ∧ (shapeS a b c).2.1 ≤ (shapeS a b c).2.2 := by
  obtain ⟨h1, h2, h3⟩ := sides_pos h
  exact ⟨sort3_pos h1 h2 h3, sort3_le _ _ _⟩
theorem divQ_same {k s t : Rat} (hk : k ≠ 0) : k * s / (k * t) = s / t := by
  by_cases ht : t = 0
  · subst ht; rw [Rat.mul_zero]; simp [Rat.div_def]
  · grind
theorem divQ_le {s t u : Rat} (hu : 0 < u) (h : s ≤ t) : s / u ≤ t / u := by
  have := Rat.mul_le_mul_of_nonneg_right (c := u⁻¹) h (Rat.le_of_lt (Rat.inv_pos.2 hu))
  rwa [← Rat.div_def, ← Rat.div_def] at this
theorem divQ_pos {s u : Rat} (hs : 0 < s) (hu : 0 < u) : 0 < s / u := by
  rw [Rat.div_def]; exact Rat.mul_pos hs (Rat.inv_pos.2 hu)
theorem shape_of {a b c a' b' c' : Pt} {k : Rat} (hk : 0 < k) (h1 : dotP (b' - a') (b' - a') = k * dotP (b - a) (b - a)) (h2 : dotP (c' - b') (c' - b') = k * dotP (c - b) (c - b)) (h3 : dotP (a' - c') (a' - c') = k * dotP (a - c) (a - c)) :
    (shapeS a' b' c').1 / (shapeS a' b' c').2.2 = (shapeS a b c).1 / (shapeS a b c).2.2 ∧ (shapeS a' b' c').2.1 / (shapeS a' b' c').2.2 = (shapeS a b c).2.1 / (shapeS a b c).2.2 := by
  have e : shapeS a' b' c' = (k * (shapeS a b c).1, k * (shapeS a b c).2.1, k * (shapeS a b c).2.2) := by
    unfold shapeS; rw [h1, h2, h3, sort3_scale _ _ _ _ hk]
  have hk0 : k ≠ 0 := by grind
  rw [e]
  exact ⟨divQ_same hk0, divQ_same hk0⟩
theorem shapeS_turn (a b c : Pt) : shapeS b c a = shapeS a b c := sort3_turn _ _ _
/-- A point carried along. -/
def mirY (m : Bool) (y : Rat) : Rat := if m then -y else y
def moveP (m : Bool) (way t p : Pt) : Pt := way + ⟨p.x * t.x - mirY m p.y * t.y, p.x * t.y + mirY m p.y * t.x⟩
theorem move_dot (m : Bool) (way t a b : Pt) : dotP (moveP m way t b - moveP m way t a) (moveP m way t b - moveP m way t a) = dotP t t * dotP (b - a) (b - a) := by
  simp only [moveP, dot_def, sub_x, sub_y, add_x, add_y]
  cases m <;> simp only [mirY] <;> grind
theorem move_turn (m : Bool) (way t a b c : Pt) : turnP (moveP m way t a) (moveP m way t b) (moveP m way t c) = dotP t t * (if m then -turnP a b c else turnP a b c) := by
  simp only [moveP, dot_def, turn_def, add_x, add_y]
  cases m <;> simp only [mirY] <;> grind
theorem move_ne {m : Bool} {way t a b c : Pt} (ht : 0 < dotP t t) (h : turnP a b c ≠ 0) : turnP (moveP m way t b) (moveP m way t c) (moveP m way t a) ≠ 0 := by
  rw [turn_cyc, move_turn]
  intro e
  rcases Rat.mul_eq_zero.1 e with e | e
  · grind
  · cases m <;> grind
theorem shape_move {m : Bool} {way t a b c : Pt} (ht : 0 < dotP t t) :
    (shapeS (moveP m way t b) (moveP m way t c) (moveP m way t a)).1 / (shapeS (moveP m way t b) (moveP m way t c) (moveP m way t a)).2.2 = (shapeS a b c).1 / (shapeS a b c).2.2 ∧ (shapeS (moveP m way t b) (moveP m way t c) (moveP m way t a)).2.1 / (shapeS (moveP m way t b) (moveP m way t c) (moveP m way t a)).2.2 = (shapeS a b c).2.1 / (shapeS a b c).2.2 := by
  rw [shapeS_turn]
  exact shape_of ht (move_dot ..) (move_dot ..) (move_dot ..)
theorem mids_turn (a b c : Pt) : turnP (scaleP (a + b) (1 / 2)) (scaleP (b + c) (1 / 2)) (scaleP (c + a) (1 / 2)) = turnP a b c * (1 / 4) := by
  simp only [turn_def, scale_x, scale_y, add_x, add_y]; grind
theorem mids_dot (a b c : Pt) : dotP (scaleP (b + c) (1 / 2) - scaleP (a + b) (1 / 2)) (scaleP (b + c) (1 / 2) - scaleP (a + b) (1 / 2)) = 1 / 4 * dotP (a - c) (a - c) := by
  simp only [dot_def, scale_x, scale_y, add_x, add_y, sub_x, sub_y]; grind
theorem shape_mids (a b c : Pt) :
    (shapeS (scaleP (a + b) (1 / 2)) (scaleP (b + c) (1 / 2)) (scaleP (c + a) (1 / 2))).1 / (shapeS (scaleP (a + b) (1 / 2)) (scaleP (b + c) (1 / 2)) (scaleP (c + a) (1 / 2))).2.2 = (shapeS a b c).1 / (shapeS a b c).2.2 ∧ (shapeS (scaleP (a + b) (1 / 2)) (scaleP (b + c) (1 / 2)) (scaleP (c + a) (1 / 2))).2.1 / (shapeS (scaleP (a + b) (1 / 2)) (scaleP (b + c) (1 / 2)) (scaleP (c + a) (1 / 2))).2.2 = (shapeS a b c).2.1 / (shapeS a b c).2.2 := by
  have e : shapeS c a b = shapeS a b c := (shapeS_turn b c a).trans (shapeS_turn a b c)
  rw [← e]
  exact shape_of (by decide +kernel) (mids_dot a b c) (mids_dot b c a) (mids_dot c a b)

/-! places -/
theorem where_of {x y z x' y' z' : Rat} {n : Nat} (hx : x = x') (hy : y = y') (hz : z = z') (h : whereN x' y' z' = n) : whereN x y z = n := by rw [hx, hy, hz]; exact h
theorem where_a {a b c : Pt} (h : turnP a b c ≠ 0) : whereN (turnP a b c / turnP a b c) (turnP a a c / turnP a b c) (turnP a b a / turnP a b c) = 3 := by
  refine where_of (x' := 1) (y' := 0) (z' := 0) (by grind) ?_ ?_ (by decide +kernel)
  · have : turnP a a c = 0 := by simp only [turn_def]; grind
    rw [this]; grind
  · have : turnP a b a = 0 := by simp only [turn_def]; grind
    rw [this]; grind
theorem where_c {a b c : Pt} (h : turnP a b c ≠ 0) : whereN (turnP c b c / turnP a b c) (turnP a c c / turnP a b c) (turnP a b c / turnP a b c) = 3 := by
  refine where_of (x' := 0) (y' := 0) (z' := 1) ?_ ?_ (by grind) (by decide +kernel)
  · have : turnP c b c = 0 := by simp only [turn_def]; grind
    rw [this]; grind
  · have : turnP a c c = 0 := by simp only [turn_def]; grind
    rw [this]; grind
theorem where_ab {a b c : Pt} (h : turnP a b c ≠ 0) : whereN (turnP (scaleP (a + b) (1 / 2)) b c / turnP a b c) (turnP a (scaleP (a + b) (1 / 2)) c / turnP a b c) (turnP a b (scaleP (a + b) (1 / 2)) / turnP a b c) = 2 := by
  refine where_of (x' := 1 / 2) (y' := 1 / 2) (z' := 0) ?_ ?_ ?_ (by decide +kernel)
  · have : turnP (scaleP (a + b) (1 / 2)) b c = turnP a b c * (1 / 2) := by simp only [turn_def, scale_x, scale_y, add_x, add_y]; grind
    rw [this]; grind
  · have : turnP a (scaleP (a + b) (1 / 2)) c = turnP a b c * (1 / 2) := by simp only [turn_def, scale_x, scale_y, add_x, add_y]; grind
    rw [this]; grind
  · have : turnP a b (scaleP (a + b) (1 / 2)) = 0 := by simp only [turn_def, scale_x, scale_y, add_x, add_y]; grind
    rw [this]; grind
theorem where_bc {a b c : Pt} (h : turnP a b c ≠ 0) : whereN (turnP (scaleP (b + c) (1 / 2)) b c / turnP a b c) (turnP a (scaleP (b + c) (1 / 2)) c / turnP a b c) (turnP a b (scaleP (b + c) (1 / 2)) / turnP a b c) = 2 := by
  refine where_of (x' := 0) (y' := 1 / 2) (z' := 1 / 2) ?_ ?_ ?_ (by decide +kernel)
  · have : turnP (scaleP (b + c) (1 / 2)) b c = 0 := by simp only [turn_def, scale_x, scale_y, add_x, add_y]; grind
    rw [this]; grind
  · have : turnP a (scaleP (b + c) (1 / 2)) c = turnP a b c * (1 / 2) := by simp only [turn_def, scale_x, scale_y, add_x, add_y]; grind
    rw [this]; grind
  · have : turnP a b (scaleP (b + c) (1 / 2)) = turnP a b c * (1 / 2) := by simp only [turn_def, scale_x, scale_y, add_x, add_y]; grind
    rw [this]; grind
def centreP (a b c : Pt) : Pt := scaleP a (((1 : Int) : Rat) / ((3 : Int) : Rat)) + scaleP b (((1 : Int) : Rat) / ((3 : Int) : Rat)) + scaleP c (((1 : Int) : Rat) / ((3 : Int) : Rat))
theorem where_mid {a b c : Pt} (h : turnP a b c ≠ 0) : whereN (turnP (centreP a b c) b c / turnP a b c) (turnP a (centreP a b c) c / turnP a b c) (turnP a b (centreP a b c) / turnP a b c) = 1 := by
  have e3 : ((1 : Int) : Rat) / ((3 : Int) : Rat) = 1 / 3 := by decide +kernel
  unfold centreP
  rw [e3]
  refine where_of (x' := 1 / 3) (y' := 1 / 3) (z' := 1 / 3) ?_ ?_ ?_ (by decide +kernel)
  · have : turnP (scaleP a (1 / 3) + scaleP b (1 / 3) + scaleP c (1 / 3)) b c = turnP a b c * (1 / 3) := by simp only [turn_def, scale_x, scale_y, add_x, add_y]; grind
    rw [this]; grind
  · have : turnP a (scaleP a (1 / 3) + scaleP b (1 / 3) + scaleP c (1 / 3)) c = turnP a b c * (1 / 3) := by simp only [turn_def, scale_x, scale_y, add_x, add_y]; grind
    rw [this]; grind
  · have : turnP a b (scaleP a (1 / 3) + scaleP b (1 / 3) + scaleP c (1 / 3)) = turnP a b c * (1 / 3) := by simp only [turn_def, scale_x, scale_y, add_x, add_y]; grind
    rw [this]; grind
theorem abs_cases (a : Rat) : a < 0 ∧ absQ a = -a ∨ 0 ≤ a ∧ absQ a = a := by
  unfold absQ
  split
  · left
    refine ⟨?_, rfl⟩
    apply Classical.byContradiction
    intro e
    have := Rat.num_nonneg.2 (show 0 ≤ a by grind)
    omega
  · exact .inr ⟨Rat.num_nonneg.1 (by omega), rfl⟩
theorem abs_sq (a : Rat) : absQ a * absQ a = a * a := by rcases abs_cases a with ⟨_, h⟩ | ⟨_, h⟩ <;> rw [h] <;> grind
theorem abs_half (a : Rat) : absQ (a * (1 / 2)) = absQ a * (1 / 2) := by rcases abs_cases a with ⟨_, h⟩ | ⟨_, h⟩ <;> rcases abs_cases (a * (1 / 2)) with ⟨_, k⟩ | ⟨_, k⟩ <;> rw [h, k] <;> grind

theorem half_zero {t : Rat} (h : t * (1 / 2) = 0) : t = 0 := by grind
theorem quo_zero {d t : Rat} (ht : t ≠ 0) (h : d / t = 0) : d = 0 := by grind
theorem SzP_mid {a b c : Pt} (h : turnP a b c ≠ 0) (ha : SzP a ≤ 4) (hb : SzP b ≤ 4) (hc : SzP c ≤ 4) : SzP (midP a b c) ≤ 200 := by
  have h2 := two_ne h
  have e : crossP (b - a) (c - a) = turnP a b c := rfl
  unfold midP
  rw [e]
  have u := SzP_sub b a
  have v := SzP_sub c a
  have uu := Sz_dot (b - a) (b - a)
  have vv := Sz_dot (c - a) (c - a)
  have r1 := SzP_right (c - a)
  have r2 := SzP_right (b - a)
  have k1 := SzP_scale ⟨(c - a).y, -(c - a).x⟩ (dotP (b - a) (b - a))
  have k2 := SzP_scale ⟨(b - a).y, -(b - a).x⟩ (dotP (c - a) (c - a))
  have w := SzP_sub (scaleP ⟨(c - a).y, -(c - a).x⟩ (dotP (b - a) (b - a))) (scaleP ⟨(b - a).y, -(b - a).x⟩ (dotP (c - a) (c - a)))
  have t := Sz_turn a b c
  have s1 := Sz_int (z := 1) (by omega) (by omega)
  have s2 := Sz_int (z := 2) (by omega) (by omega)
  have m := Sz_mul ((2 : Int) : Rat) (turnP a b c)
  have d := Sz_div (a := ((1 : Int) : Rat)) h2
  have k := SzP_scale (scaleP ⟨(c - a).y, -(c - a).x⟩ (dotP (b - a) (b - a)) - scaleP ⟨(b - a).y, -(b - a).x⟩ (dotP (c - a) (c - a))) (((1 : Int) : Rat) / (((2 : Int) : Rat) * turnP a b c))
  have z := SzP_add a (scaleP (scaleP ⟨(c - a).y, -(c - a).x⟩ (dotP (b - a) (b - a)) - scaleP ⟨(b - a).y, -(b - a).x⟩ (dotP (c - a) (c - a))) (((1 : Int) : Rat) / (((2 : Int) : Rat) * turnP a b c)))
  omega

theorem SzP_grad {T : Rat} (h : T ≠ 0) (d : Pt) : SzP ⟨-d.y / T, d.x / T⟩ ≤ SzP d + Sz T := by
  have h1 := SzP_x d
  have h2 := SzP_y d
  have h3 := Sz_div (a := -d.y) h
  have h4 := Sz_div (a := d.x) h
  rw [Sz_neg] at h3
  exact SzP_le (by show Sz (-d.y / T) ≤ _; omega) (by show Sz (d.x / T) ≤ _; omega)
theorem mhalf : ((-1 : Int) : Rat) / ((2 : Int) : Rat) = -1 / 2 := by decide +kernel
theorem pt_ne {p : Pt} (h : ¬ p = ⟨0, 0⟩) : p.x ≠ 0 ∨ p.y ≠ 0 := by
  by_cases hx : p.x = 0
  · by_cases hy : p.y = 0
    · exact absurd (Pt.ext hx hy) h
    · exact .inr hy
  · exact .inl hx
theorem cmpQ_le {a b : Rat} (h : a ≤ b) : cmpQ a b ≤ 0 := by
  unfold cmpQ
  split
  · decide
  · split
    · decide
    · exfalso; grind
theorem divQ_one {s u : Rat} (hu : 0 < u) (h : s ≤ u) : s / u ≤ 1 := by
  have h1 := divQ_le hu h
  have h2 : u / u = 1 := by grind
  rwa [h2] at h1

theorem Sz_mir (m : Bool) (y : Rat) : Sz (mirY m y) = Sz y := by cases m <;> simp [mirY, Sz_neg]
theorem SzP_move {m : Bool} {way t p : Pt} (hw : SzP way ≤ 4) (ht : SzP t ≤ 4) (hp : SzP p ≤ 4) : SzP (moveP m way t p) ≤ 64 := by
  have h1 := SzP_x t
  have h2 := SzP_y t
  have h3 := SzP_x p
  have h4 := SzP_y p
  have h5 := Sz_mir m p.y
  have a1 := Sz_mul p.x t.x
  have a2 := Sz_mul (mirY m p.y) t.y
  have a3 := Sz_mul p.x t.y
  have a4 := Sz_mul (mirY m p.y) t.x
  have b1 := Sz_sub (p.x * t.x) (mirY m p.y * t.y)
  have b2 := Sz_add (p.x * t.y) (mirY m p.y * t.x)
  have k : SzP (⟨p.x * t.x - mirY m p.y * t.y, p.x * t.y + mirY m p.y * t.x⟩ : Pt) ≤ 20 := SzP_le (by show Sz (p.x * t.x - mirY m p.y * t.y) ≤ 20; omega) (by show Sz (p.x * t.y + mirY m p.y * t.x) ≤ 20; omega)
  have c1 := SzP_add way ⟨p.x * t.x - mirY m p.y * t.y, p.x * t.y + mirY m p.y * t.x⟩
  unfold moveP
  omega

/-! counting signs -/
def ng (q : Rat) : Nat := if q.num.sign < 0 then 1 else 0
theorem ng_one {x : Rat} (h : x.num.sign < 0) : ng x = 1 := if_pos h
theorem ng_zero {x : Rat} (h : ¬ x.num.sign < 0) : ng x = 0 := if_neg h
theorem ng_le (x : Rat) : ng x ≤ 1 := by unfold ng; split <;> omega
theorem sgn_three (z : Int) : z.sign = -1 ∨ z.sign = 0 ∨ z.sign = 1 := by
  rcases Int.lt_trichotomy z 0 with h | h | h
  · exact .inl (Int.sign_eq_neg_one_of_neg h)
  · subst h; exact .inr (.inl rfl)
  · exact .inr (.inr (Int.sign_eq_one_of_pos h))
theorem where_some {x y z : Rat} {b : Nat} (hb : b = ng x + ng y + ng z) (h : 0 < b) : whereN x y z = 0 := by
  refine if_pos ?_
  unfold ng at hb
  rcases sgn_three x.num with h1 | h1 | h1 <;> rcases sgn_three y.num with h2 | h2 | h2 <;> rcases sgn_three z.num with h3 | h3 | h3 <;> rw [h1, h2, h3] at hb <;> simp [h1, h2, h3] at hb ⊢ <;> omega
theorem where_none {x y z : Rat} {b n : Nat} (hb : b = ng x + ng y + ng z) (hn : n = zq x + zq y + zq z) (h : ¬ 0 < b) : whereN x y z = 1 + n := by
  unfold ng at hb
  rw [where_ok, hn]
  · omega
  · intro e; rw [e] at hb; simp at hb; omega
  · intro e; rw [e] at hb; simp at hb; omega
  · intro e; rw [e] at hb; simp at hb; omega

end Go.Proofs.YtpkoldfmbebmgaaGreatDoor
