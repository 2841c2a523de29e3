import Derived.Shelf.SlSortCmp.WholeK
import Derived.Test.YtnofgcpajmldkaaGreatDoorPart00
import Derived.Test.YtnofgcpajmldkaaGreatDoorPart22
import Derived.Test.YtnofgcpajmldkaaGreatDoorPart31
import Derived.Test.YtnofgcpajmldkaaGreatDoorPart32
import Derived.Test.YtnofgcpajmldkaaGreatDoorPart33
import Derived.Test.YtnofgcpajmldkaaGreatDoorPart35
namespace Go.Proofs.YtnofgcpajmldkaaGreatDoor
open Go Go.RowKit
set_option linter.unusedVariables false
set_option linter.unusedSimpArgs false
theorem grow_of {w w' : World} (h : Bel w.heap.size w w') : ∃ (q : Nat) (os : Array Obj), w' = Go.Sort.grow (w.drewN q) os := by
  refine ⟨w'.drawn - w.drawn, w'.heap.extract w.heap.size w'.heap.size, ?_⟩
  have h1 := h.os; have h2 := h.tape; have h3 := h.output; have h4 := h.size; have h5 := h.block; have h6 := h.drawn
  have hh : w'.heap = w.heap ++ w'.heap.extract w.heap.size w'.heap.size := by
    apply Array.ext_getElem?
    intro i
    rw [Array.getElem?_append]
    split
    · rename_i hi; exact h5 i hi
    · rename_i hi
      rw [Array.getElem?_extract]
      split
      · congr 1; omega
      · rename_i hj; rw [Array.getElem?_eq_none (by omega)]
  obtain ⟨hp, tp, dr, os, out⟩ := w'
  obtain ⟨hp0, tp0, dr0, os0, out0⟩ := w
  simp only at h1 h2 h3 h4 h6 hh
  subst h1; subst h2; subst h3
  show World.mk hp tp dr os out = World.mk (hp0 ++ hp.extract hp0.size hp.size) tp (dr0 + (dr - dr0)) os out
  rw [← hh, show dr0 + (dr - dr0) = dr by omega]
theorem retC {S : Nat → Prop} {W w : World} {L : List As} (hw : Own ⟨W, none⟩ w L) (i : Nat) {p : Option Addr} {T : TypeId} {z n c : Nat} {cs : List Value} (hi : L[i]? = some (rowW p T z n c cs)) (ho : OwnOk p n c) (hl : cs.length = n * z) {v : Value} (hv : v = .slice p n n) : GivesR (RX cs n) S W (.returned v) w := by
  have hb := hw.newRow hi
  refine ⟨⟨p, n, ⟨fun e => ⟨(ho.nil e).1, (ho.nil e).1⟩, fun a e => by rw [ho.at0 a e], Nat.le_refl _⟩⟩, by rw [hv]; rfl, hw.out, fun y hy => ?_⟩
  rcases List.mem_singleton.1 hy with rfl
  refine ⟨fun d e => ?_, fun d e => .inl (hb d e)⟩
  obtain ⟨_, o, ho2, hp⟩ := hw.2.1 _ (List.mem_of_getElem? hi) d e
  exact ⟨o, ho2, lies_of_rowW ho hl hp⟩
theorem pos_ne {q : Rat} (h : 0 < q) : q ≠ 0 := by grind
section
theorem sgn_one {q : Rat} : q.num.sign = 1 ↔ 0 < q := by
  rw [sgn_eq, sgnQ]
  split
  · exact ⟨fun h => by simp at h, fun h => by grind⟩
  · split
    · exact ⟨fun h => by simp at h, fun h => by grind⟩
    · exact ⟨fun _ => by grind, fun _ => rfl⟩
theorem sgn_neg1 {q : Rat} : q.num.sign = -1 ↔ q < 0 := by
  rw [sgn_eq, sgnQ]
  split
  · exact ⟨fun _ => by assumption, fun _ => rfl⟩
  · split
    · exact ⟨fun h => by simp at h, fun h => by grind⟩
    · exact ⟨fun h => by simp at h, fun h => by grind⟩
theorem sgn_nil {q : Rat} : q.num.sign = 0 ↔ q = 0 := by
  rw [sgn_eq, sgnQ]
  split
  · exact ⟨fun h => by simp at h, fun h => by grind⟩
  · split
    · exact ⟨fun _ => by assumption, fun _ => rfl⟩
    · exact ⟨fun h => by simp at h, fun h => by grind⟩
theorem gtQ_cases (x y : Rat) : (x < y ∧ gtQ x y = y) ∨ (y ≤ x ∧ gtQ x y = x) := by
  unfold gtQ
  by_cases h : x < y
  · rw [if_pos (cmpQ_lt.2 h)]; exact .inl ⟨h, rfl⟩
  · rw [if_neg (fun e => h (cmpQ_lt.1 e))]; exact .inr ⟨by grind, rfl⟩
theorem div_root {u d : Rat} (h : d ≠ 0) : (-u / d) * d = -u := Rat.div_mul_cancel h
theorem root_pos {u d s k : Rat} (hd : 0 < d) (hk : k * d = -u) : (k ≤ s ↔ 0 ≤ u + d * s) ∧ (k < s ↔ 0 < u + d * s) := by
  have e : u + d * s = (s - k) * d := by grind
  rw [e]
  refine ⟨⟨fun h => Rat.mul_nonneg (by grind) (by grind), fun h => ?_⟩, ⟨fun h => Rat.mul_pos (by grind) hd, fun h => ?_⟩⟩
  · rcases lt_or_leQ s k with h1 | h1
    · have := Rat.mul_pos (show 0 < k - s by grind) hd; grind
    · exact h1
  · rcases lt_or_leQ k s with h1 | h1
    · exact h1
    · have := Rat.mul_nonneg (show 0 ≤ k - s by grind) (show 0 ≤ d by grind); grind
theorem root_neg {u d s k : Rat} (hd : d < 0) (hk : k * d = -u) : (s ≤ k ↔ 0 ≤ u + d * s) ∧ (s < k ↔ 0 < u + d * s) := by
  have h := root_pos (u := u) (d := -d) (s := -s) (k := -k) (by grind) (by grind)
  have e : u + -d * -s = u + d * s := by grind
  rw [e] at h
  exact ⟨⟨fun a => h.1.1 (by grind), fun a => by have := h.1.2 a; grind⟩, ⟨fun a => h.2.1 (by grind), fun a => by have := h.2.2 a; grind⟩⟩
theorem bad_no {u v : Rat} (h : badS u v = false) (h1 : ¬ 0 < v - u) (h2 : ¬ v - u < 0) : v - u = 0 ∧ 0 ≤ u := by
  refine ⟨by grind, ?_⟩
  unfold badS at h
  rw [decide_eq_false (fun e => h1 (sgn_one.1 e)), decide_eq_false (fun e => h2 (sgn_neg1.1 e))] at h
  have h3 : ¬ u.num.sign < 0 := by simpa using h
  have h4 : ¬ u.num.sign = -1 := fun e => h3 (by rw [e]; decide)
  rw [sgn_neg1] at h4
  grind
theorem bad_no' {u v s : Rat} (h : 0 ≤ u + (v - u) * s) : badS u v = false := by
  cases hb : badS u v with
  | false => rfl
  | true =>
    unfold badS at hb
    simp only [Bool.and_eq_true, Bool.not_eq_true', decide_eq_false_iff_not, decide_eq_true_eq] at hb
    obtain ⟨⟨h1, h2⟩, h3⟩ := hb
    rw [sgn_one] at h1
    rw [sgn_neg1] at h2
    have h4 : u.num.sign = -1 := by rcases sgn_three u.num with e | e | e <;> omega
    rw [sgn_neg1] at h4
    have e : v - u = 0 := by grind
    rw [e] at h
    grind
theorem stS_spec {u v f t : Rat} (hb : badS u v = false) :
    (∀ s, (stS u v (f, t)).1 ≤ s → s ≤ (stS u v (f, t)).2 → f ≤ s ∧ s ≤ t ∧ 0 ≤ u + (v - u) * s) ∧
    (∀ s, f ≤ s → s ≤ t → (f = s → s = 0) → (t = s → s = 1) → 0 < u + (v - u) * s → (stS u v (f, t)).1 ≤ s ∧ s ≤ (stS u v (f, t)).2 ∧ ((stS u v (f, t)).1 = s → s = 0) ∧ ((stS u v (f, t)).2 = s → s = 1)) := by
  unfold stS
  by_cases h1 : 0 < v - u
  · rw [if_pos (sgn_one.2 h1)]
    have hk := div_root (u := u) (d := v - u) (by grind)
    generalize -u / (v - u) = k at *
    have r := fun s => root_pos (u := u) (s := s) h1 hk
    dsimp only
    rcases gtQ_cases f k with ⟨g1, g2⟩ | ⟨g1, g2⟩ <;> rw [g2]
    · exact ⟨fun s a b => ⟨by grind, b, (r s).1.1 a⟩, fun s a b c d e => ⟨by have := (r s).2.2 e; grind, b, fun e2 => by have := (r s).2.2 e; grind, d⟩⟩
    · exact ⟨fun s a b => ⟨a, b, (r s).1.1 (by grind)⟩, fun s a b c d e => ⟨a, b, c, d⟩⟩
  · rw [if_neg (fun e => h1 (sgn_one.1 e))]
    by_cases h2 : v - u < 0
    · rw [if_pos (sgn_neg1.2 h2)]
      have hk := div_root (u := u) (d := v - u) (by grind)
      generalize -u / (v - u) = k at *
      have r := fun s => root_neg (u := u) (s := s) h2 hk
      dsimp only
      rcases gtQ_cases (-t) (-k) with ⟨g1, g2⟩ | ⟨g1, g2⟩ <;> rw [g2]
      · exact ⟨fun s a b => ⟨a, by grind, (r s).1.1 (by grind)⟩, fun s a b c d e => ⟨a, by have := (r s).2.2 e; grind, c, fun e2 => by have := (r s).2.2 e; grind⟩⟩
      · exact ⟨fun s a b => ⟨a, by grind, (r s).1.1 (by grind)⟩, fun s a b c d e => ⟨a, by grind, c, fun e2 => d (by grind)⟩⟩
    · rw [if_neg (fun e => h2 (sgn_neg1.1 e))]
      obtain ⟨e0, e1⟩ := bad_no hb h1 h2
      exact ⟨fun s a b => ⟨a, b, by rw [e0]; grind⟩, fun s a b c d e => ⟨a, b, c, d⟩⟩
section
variable {u0 v0 u1 v1 u2 v2 : Rat}
theorem span_yes (h : (spanQ u0 v0 u1 v1 u2 v2).2.2 = true) : badS u0 v0 = false ∧ badS u1 v1 = false ∧ badS u2 v2 = false ∧ spanQ u0 v0 u1 v1 u2 v2 = ((stS u2 v2 (stS u1 v1 (stS u0 v0 (0, 1)))).1, (stS u2 v2 (stS u1 v1 (stS u0 v0 (0, 1)))).2, true) ∧ (stS u2 v2 (stS u1 v1 (stS u0 v0 (0, 1)))).1 < (stS u2 v2 (stS u1 v1 (stS u0 v0 (0, 1)))).2 := by
  unfold spanQ at h ⊢
  cases h0 : badS u0 v0 with
  | true => rw [h0] at h; cases h
  | false =>
    cases h1 : badS u1 v1 with
    | true => rw [h0, h1] at h; cases h
    | false =>
      cases h2 : badS u2 v2 with
      | true => rw [h0, h1, h2] at h; cases h
      | false =>
        rw [h0, h1, h2] at h
        have h3 : decide (cmpQ (stS u2 v2 (stS u1 v1 (stS u0 v0 (0, 1)))).1 (stS u2 v2 (stS u1 v1 (stS u0 v0 (0, 1)))).2 < 0) = true := h
        refine ⟨rfl, rfl, rfl, ?_, cmpQ_lt.1 (of_decide_eq_true h3)⟩
        simp only [Bool.false_eq_true, if_false, h3]
theorem span_some (h : (spanQ u0 v0 u1 v1 u2 v2).2.2 = true) : 0 ≤ (spanQ u0 v0 u1 v1 u2 v2).1 ∧ (spanQ u0 v0 u1 v1 u2 v2).1 < (spanQ u0 v0 u1 v1 u2 v2).2.1 ∧ (spanQ u0 v0 u1 v1 u2 v2).2.1 ≤ 1 ∧
    ∀ s, (spanQ u0 v0 u1 v1 u2 v2).1 ≤ s → s ≤ (spanQ u0 v0 u1 v1 u2 v2).2.1 → 0 ≤ u0 + (v0 - u0) * s ∧ 0 ≤ u1 + (v1 - u1) * s ∧ 0 ≤ u2 + (v2 - u2) * s := by
  obtain ⟨b0, b1, b2, e, hlt⟩ := span_yes h
  rw [e]
  dsimp only
  have a2 := (stS_spec (f := (stS u1 v1 (stS u0 v0 (0, 1))).1) (t := (stS u1 v1 (stS u0 v0 (0, 1))).2) b2).1
  have a1 := (stS_spec (f := (stS u0 v0 (0, 1)).1) (t := (stS u0 v0 (0, 1)).2) b1).1
  have a0 := (stS_spec (f := 0) (t := 1) b0).1
  have all : ∀ s, (stS u2 v2 (stS u1 v1 (stS u0 v0 (0, 1)))).1 ≤ s → s ≤ (stS u2 v2 (stS u1 v1 (stS u0 v0 (0, 1)))).2 → (0 ≤ s ∧ s ≤ 1) ∧ 0 ≤ u0 + (v0 - u0) * s ∧ 0 ≤ u1 + (v1 - u1) * s ∧ 0 ≤ u2 + (v2 - u2) * s := fun s h1 h2 => by
    obtain ⟨c1, c2, c3⟩ := a2 s h1 h2
    obtain ⟨d1, d2, d3⟩ := a1 s c1 c2
    obtain ⟨e1, e2, e3⟩ := a0 s d1 d2
    exact ⟨⟨e1, e2⟩, e3, d3, c3⟩
  exact ⟨(all _ (by grind) (by grind)).1.1, hlt, (all _ (by grind) (by grind)).1.2, fun s h1 h2 => (all s h1 h2).2⟩
theorem span_in {s : Rat} (h0 : 0 ≤ s) (h1 : s ≤ 1) (l0 : 0 < u0 + (v0 - u0) * s) (l1 : 0 < u1 + (v1 - u1) * s) (l2 : 0 < u2 + (v2 - u2) * s) : (spanQ u0 v0 u1 v1 u2 v2).2.2 = true ∧ (spanQ u0 v0 u1 v1 u2 v2).1 ≤ s ∧ s ≤ (spanQ u0 v0 u1 v1 u2 v2).2.1 := by
  have b0 := bad_no' (u := u0) (v := v0) (s := s) (by grind)
  have b1 := bad_no' (u := u1) (v := v1) (s := s) (by grind)
  have b2 := bad_no' (u := u2) (v := v2) (s := s) (by grind)
  obtain ⟨c1, c2, c3, c4⟩ := (stS_spec (f := 0) (t := 1) b0).2 s h0 h1 (fun e => e.symm) (fun e => e.symm) l0
  obtain ⟨d1, d2, d3, d4⟩ := (stS_spec (f := (stS u0 v0 (0, 1)).1) (t := (stS u0 v0 (0, 1)).2) b1).2 s c1 c2 c3 c4 l1
  obtain ⟨e1, e2, e3, e4⟩ := (stS_spec (f := (stS u1 v1 (stS u0 v0 (0, 1))).1) (t := (stS u1 v1 (stS u0 v0 (0, 1))).2) b2).2 s d1 d2 d3 d4 l2
  have e : spanQ u0 v0 u1 v1 u2 v2 = ((stS u2 v2 (stS u1 v1 (stS u0 v0 (0, 1)))).1, (stS u2 v2 (stS u1 v1 (stS u0 v0 (0, 1)))).2, decide (cmpQ (stS u2 v2 (stS u1 v1 (stS u0 v0 (0, 1)))).1 (stS u2 v2 (stS u1 v1 (stS u0 v0 (0, 1)))).2 < 0)) := by
    rw [spanQ, b0, b1, b2]; rfl
  rw [e]
  refine ⟨decide_eq_true (cmpQ_lt.2 ?_), e1, e2⟩
  rcases lt_or_leQ (stS u2 v2 (stS u1 v1 (stS u0 v0 (0, 1)))).1 (stS u2 v2 (stS u1 v1 (stS u0 v0 (0, 1)))).2 with h | h
  · exact h
  · have x1 := e3 (by grind)
    have x2 := e4 (by grind)
    grind
end
end
section
def ptS (a b : Pt) (s : Rat) : Pt := a + scaleP (b - a) s
section
variable (a b A B C : Pt) (s : Rat)
theorem turn_lin1 : turnP (ptS a b s) B C = turnP a B C + (turnP b B C - turnP a B C) * s := by simp only [ptS, turn_def, add_x, add_y, scale_x, scale_y, sub_x, sub_y]; grind
theorem turn_lin2 : turnP A (ptS a b s) C = turnP A a C + (turnP A b C - turnP A a C) * s := by simp only [ptS, turn_def, add_x, add_y, scale_x, scale_y, sub_x, sub_y]; grind
theorem turn_lin3 : turnP A B (ptS a b s) = turnP A B a + (turnP A B b - turnP A B a) * s := by simp only [ptS, turn_def, add_x, add_y, scale_x, scale_y, sub_x, sub_y]; grind
theorem pt_rev : ptS b a (1 - s) = ptS a b s := by refine Pt.ext ?_ ?_ <;> simp only [ptS, add_x, add_y, scale_x, scale_y, sub_x, sub_y] <;> grind
end
theorem midR_eq (a b : Pt) (f t : Rat) : midR a b f t = ptS a b ((f + t) * (1 / 2)) := by
  unfold midR ptS
  rw [show (((1 : Int) : Rat) / ((2 : Int) : Rat)) * (f + t) = (f + t) * (1 / 2) by rw [show ((1 : Int) : Rat) = 1 from rfl, show ((2 : Int) : Rat) = 2 from rfl]; grind]
theorem lin_div (x y S s : Rat) : x / S + (y / S - x / S) * s = (x + (y - x) * s) / S := by simp only [Rat.div_def]; grind
theorem div_pos_iff {z S : Rat} (h : 0 < S) : 0 < z / S ↔ 0 < z := by
  have e : z / S * S = z := Rat.div_mul_cancel (by grind)
  generalize z / S = q at *
  exact ⟨fun k => by rw [← e]; exact Rat.mul_pos k h, fun k => by rw [← e] at k; exact pos_of h (by grind)⟩
theorem div_nn_iff {z S : Rat} (h : 0 < S) : 0 ≤ z / S ↔ 0 ≤ z := by
  have e : z / S * S = z := Rat.div_mul_cancel (by grind)
  generalize z / S = q at *
  exact ⟨fun k => by rw [← e]; exact Rat.mul_nonneg k (by grind), fun k => by rw [← e] at k; exact nn_of h (by grind)⟩
section
variable {ps : List Pt} {T : Nat × Nat × Nat} {a b q : Pt}
def Lft (ps : List Pt) (T : Nat × Nat × Nat) : Prop := 0 < turnP (ps.getD T.1 ⟨0, 0⟩) (ps.getD T.2.1 ⟨0, 0⟩) (ps.getD T.2.2 ⟨0, 0⟩)
theorem TriO.c (h : TriO ps T q) : TriC ps T q := by
  obtain ⟨h1, h2, h3⟩ := h
  exact ⟨by grind, by grind, by grind⟩
theorem spanV_some (hS : Lft ps T) (h : (spanV (corT ps T) a b).2.2 = true) : 0 ≤ (spanV (corT ps T) a b).1 ∧ (spanV (corT ps T) a b).1 < (spanV (corT ps T) a b).2.1 ∧ (spanV (corT ps T) a b).2.1 ≤ 1 ∧
    ∀ s, (spanV (corT ps T) a b).1 ≤ s → s ≤ (spanV (corT ps T) a b).2.1 → TriC ps T (ptS a b s) := by
  obtain ⟨h1, h2, h3, h4⟩ := span_some h
  refine ⟨h1, h2, h3, fun s k1 k2 => ?_⟩
  obtain ⟨m1, m2, m3⟩ := h4 s k1 k2
  rw [lin_div, ← turn_lin1] at m1
  rw [lin_div, ← turn_lin2] at m2
  rw [lin_div, ← turn_lin3] at m3
  exact ⟨(div_nn_iff hS).1 m1, (div_nn_iff hS).1 m2, (div_nn_iff hS).1 m3⟩
theorem spanV_in {s : Rat} (hS : Lft ps T) (h0 : 0 ≤ s) (h1 : s ≤ 1) (h : TriO ps T (ptS a b s)) : (spanV (corT ps T) a b).2.2 = true ∧ (spanV (corT ps T) a b).1 ≤ s ∧ s ≤ (spanV (corT ps T) a b).2.1 := by
  obtain ⟨m1, m2, m3⟩ := h
  refine span_in h0 h1 ?_ ?_ ?_
  · rw [lin_div, ← turn_lin1]; exact (div_pos_iff hS).2 m1
  · rw [lin_div, ← turn_lin2]; exact (div_pos_iff hS).2 m2
  · rw [lin_div, ← turn_lin3]; exact (div_pos_iff hS).2 m3
theorem where_un (hS : Lft ps T) : whereT ps q T = whereN (turnP q (ps.getD T.2.1 ⟨0, 0⟩) (ps.getD T.2.2 ⟨0, 0⟩) / turnP (ps.getD T.1 ⟨0, 0⟩) (ps.getD T.2.1 ⟨0, 0⟩) (ps.getD T.2.2 ⟨0, 0⟩)) (turnP (ps.getD T.1 ⟨0, 0⟩) q (ps.getD T.2.2 ⟨0, 0⟩) / turnP (ps.getD T.1 ⟨0, 0⟩) (ps.getD T.2.1 ⟨0, 0⟩) (ps.getD T.2.2 ⟨0, 0⟩))
    (turnP (ps.getD T.1 ⟨0, 0⟩) (ps.getD T.2.1 ⟨0, 0⟩) q / turnP (ps.getD T.1 ⟨0, 0⟩) (ps.getD T.2.1 ⟨0, 0⟩) (ps.getD T.2.2 ⟨0, 0⟩)) :=
  if_neg (show ¬ turnP (ps.getD T.1 ⟨0, 0⟩) (ps.getD T.2.1 ⟨0, 0⟩) (ps.getD T.2.2 ⟨0, 0⟩) = 0 from fun e => by unfold Lft at hS; rw [e] at hS; grind)
theorem whereN_zero {x y z : Rat} : whereN x y z = 0 ↔ ¬ (0 ≤ x ∧ 0 ≤ y ∧ 0 ≤ z) := by
  unfold whereN
  split
  · rename_i h
    rw [sgn_neg1, sgn_neg1, sgn_neg1] at h
    exact ⟨fun _ => by grind, fun _ => rfl⟩
  · rename_i h
    rw [sgn_neg1, sgn_neg1, sgn_neg1] at h
    exact ⟨fun h => by omega, fun h => by exfalso; apply h; grind⟩
theorem zq_pos {x : Rat} (h : 0 ≤ x) : zq x = 0 ↔ 0 < x := by
  by_cases e : x = 0
  · rw [zq_one (sgn_nil.2 e)]; grind
  · rw [zq_zero (fun k => e (sgn_nil.1 k))]; grind
theorem whereN_one {x y z : Rat} : whereN x y z = 1 ↔ 0 < x ∧ 0 < y ∧ 0 < z := by
  unfold whereN
  split
  · rename_i h
    rw [sgn_neg1, sgn_neg1, sgn_neg1] at h
    exact ⟨fun h => by omega, fun h => by grind⟩
  · rename_i h
    rw [sgn_neg1, sgn_neg1, sgn_neg1] at h
    have hx := zq_pos (x := x) (by grind)
    have hy := zq_pos (x := y) (by grind)
    have hz := zq_pos (x := z) (by grind)
    rw [← hx, ← hy, ← hz]
    omega
theorem where_one (hS : Lft ps T) : whereT ps q T = 1 ↔ TriO ps T q := by
  rw [where_un hS, whereN_one, div_pos_iff hS, div_pos_iff hS, div_pos_iff hS]
  exact Iff.rfl
theorem where_zero (hS : Lft ps T) : whereT ps q T = 0 ↔ ¬ TriC ps T q := by
  rw [where_un hS, whereN_zero, div_nn_iff hS, div_nn_iff hS, div_nn_iff hS]
  exact Iff.rfl
theorem lin_pos {u d lo hi s : Rat} (h1 : 0 ≤ u + d * lo) (h2 : 0 ≤ u + d * hi) (h3 : 0 < u + d * ((lo + hi) * (1 / 2))) (h4 : lo < s) (h5 : s < hi) : 0 < u + d * s := by
  rcases lt_or_leQ 0 d with h | h
  · have := Rat.mul_pos h (show 0 < s - lo by grind); grind
  · rcases lt_or_leQ d 0 with k | k
    · have := Rat.mul_pos (show 0 < -d by grind) (show 0 < hi - s by grind); grind
    · have : d = 0 := by grind
      subst this; grind
theorem TriO_between {lo hi s : Rat} (h1 : TriC ps T (ptS a b lo)) (h2 : TriC ps T (ptS a b hi)) (h3 : TriO ps T (ptS a b ((lo + hi) * (1 / 2)))) (h4 : lo < s) (h5 : s < hi) : TriO ps T (ptS a b s) := by
  unfold TriC at h1 h2
  unfold TriO at h3 ⊢
  rw [turn_lin1, turn_lin2, turn_lin3] at *
  exact ⟨lin_pos h1.1 h2.1 h3.1 h4 h5, lin_pos h1.2.1 h2.2.1 h3.2.1 h4 h5, lin_pos h1.2.2 h2.2.2 h3.2.2 h4 h5⟩
theorem lin_mid {u d lo hi s : Rat} (h1 : 0 ≤ u + d * lo) (h2 : 0 ≤ u + d * hi) (h3 : 0 < u + d * s) (h4 : lo ≤ s) (h5 : s ≤ hi) (h6 : lo < hi) : 0 < u + d * ((lo + hi) * (1 / 2)) := by
  rcases lt_or_leQ 0 d with h | h
  · have := Rat.mul_pos h (show 0 < (lo + hi) * (1 / 2) - lo by grind); grind
  · rcases lt_or_leQ d 0 with k | k
    · have := Rat.mul_pos (show 0 < -d by grind) (show 0 < hi - (lo + hi) * (1 / 2) by grind); grind
    · have : d = 0 := by grind
      subst this; grind
theorem TriO_mid {lo hi s : Rat} (h1 : TriC ps T (ptS a b lo)) (h2 : TriC ps T (ptS a b hi)) (h3 : TriO ps T (ptS a b s)) (h4 : lo ≤ s) (h5 : s ≤ hi) (h6 : lo < hi) : TriO ps T (ptS a b ((lo + hi) * (1 / 2))) := by
  unfold TriC at h1 h2
  unfold TriO at h3 ⊢
  rw [turn_lin1, turn_lin2, turn_lin3] at *
  exact ⟨lin_mid h1.1 h2.1 h3.1 h4 h5 h6, lin_mid h1.2.1 h2.2.1 h3.2.1 h4 h5 h6, lin_mid h1.2.2 h2.2.2 h3.2.2 h4 h5 h6⟩
end
structure PcOk (ps : List Pt) (ts : List (Nat × Nat × Nat)) (a b : Pt) (p : Pc) : Prop where
  lt : p.tri < ts.length
  lo0 : 0 ≤ p.lo
  lh : p.lo < p.hi
  hi1 : p.hi ≤ 1
  ins : ∀ s, p.lo < s → s < p.hi → TriO ps (ts.getD p.tri (0, 0, 0)) (ptS a b s)
  mid : TriO ps (ts.getD p.tri (0, 0, 0)) (ptS a b ((p.lo + p.hi) * (1 / 2)))
section
variable {ps : List Pt} {ts : List (Nat × Nat × Nat)} {a b : Pt}
theorem GoodM.lft (g : GoodM ps ts) {j : Nat} (hj : j < ts.length) : Lft ps (ts.getD j (0, 0, 0)) := (g.tri j hj).pos
theorem pcAt_ok (g : GoodM ps ts) {t : Nat} (ht : t < ts.length) {p : Pc} (hp : p ∈ pcAt ps a b t (ts.getD t (0, 0, 0))) : p.tri = t ∧ PcOk ps ts a b p := by
  unfold pcAt at hp
  split at hp
  · rename_i h1
    split at hp
    · rename_i h2
      rcases List.mem_singleton.1 hp with rfl
      obtain ⟨c1, c2, c3, c4⟩ := spanV_some (g.lft ht) h1
      rw [where_one (g.lft ht), midR_eq] at h2
      exact ⟨rfl, ht, c1, c2, c3, fun s k1 k2 => TriO_between (c4 _ (by grind) (by grind)) (c4 _ (by grind) (by grind)) h2 k1 k2, h2⟩
    · cases hp
  · cases hp
theorem pcAt_in (g : GoodM ps ts) {t : Nat} (ht : t < ts.length) {s : Rat} (h0 : 0 ≤ s) (h1 : s ≤ 1) (h : TriO ps (ts.getD t (0, 0, 0)) (ptS a b s)) : ∃ p ∈ pcAt ps a b t (ts.getD t (0, 0, 0)), p.tri = t ∧ p.lo ≤ s ∧ s ≤ p.hi := by
  obtain ⟨c1, c2, c3⟩ := spanV_in (g.lft ht) h0 h1 h
  obtain ⟨d1, d2, d3, d4⟩ := spanV_some (g.lft ht) c1
  unfold pcAt
  rw [if_pos c1, if_pos (by rw [where_one (g.lft ht), midR_eq]; exact TriO_mid (d4 _ (by grind) (by grind)) (d4 _ (by grind) (by grind)) h c2 c3 d2)]
  exact ⟨_, List.mem_cons_self, rfl, c2, c3⟩
theorem rayL_mem (g : GoodM ps ts) : ∀ n, n ≤ ts.length → ∀ p ∈ rayL ps ts a b n, p.tri < n ∧ PcOk ps ts a b p
  | 0, _, p, hp => by cases hp
  | n + 1, hn, p, hp => by
    rcases List.mem_append.1 hp with h | h
    · obtain ⟨h1, h2⟩ := rayL_mem g n (by omega) p h; exact ⟨by omega, h2⟩
    · obtain ⟨h1, h2⟩ := pcAt_ok g (by omega) h; exact ⟨by omega, h2⟩
theorem rayL_has (g : GoodM ps ts) : ∀ n, n ≤ ts.length → ∀ t, t < n → ∀ p ∈ pcAt ps a b t (ts.getD t (0, 0, 0)), p ∈ rayL ps ts a b n
  | n + 1, hn, t, ht, p, hp => by
    rcases Nat.lt_or_ge t n with h | h
    · exact List.mem_append_left _ (rayL_has g n (by omega) t h p hp)
    · obtain rfl : t = n := by omega
      exact List.mem_append_right _ hp
theorem rayL_tri (g : GoodM ps ts) : ∀ n, n ≤ ts.length → (rayL ps ts a b n).Pairwise (fun x y => x.tri ≠ y.tri)
  | 0, _ => List.Pairwise.nil
  | n + 1, hn => List.pairwise_append.2 ⟨rayL_tri g n (by omega), by
      have h := pcAt_len (ps := ps) (a := a) (b := b) (t := n) (ts.getD n (0, 0, 0))
      match pcAt ps a b n (ts.getD n (0, 0, 0)), h with
      | [], _ => exact List.Pairwise.nil
      | [x], _ => exact List.pairwise_singleton _ _, fun x hx y hy e => by
      have h1 := (rayL_mem g n (by omega) x hx).1
      have h2 := (pcAt_ok g (by omega) hy).1
      omega⟩
theorem pieces_apart (g : GoodM ps ts) {p q : Pc} (hp : PcOk ps ts a b p) (hq : PcOk ps ts a b q) (hne : p.tri ≠ q.tri) : p.hi ≤ q.lo ∨ q.hi ≤ p.lo := by
  rcases lt_or_leQ q.lo p.hi with h1 | h1
  · rcases lt_or_leQ p.lo q.hi with h2 | h2
    · exfalso
      have k1 := hp.lh
      have k2 := hq.lh
      obtain ⟨s, m1, m2, m3, m4⟩ : ∃ s, p.lo < s ∧ s < p.hi ∧ q.lo < s ∧ s < q.hi := by
        rcases lt_or_leQ p.lo q.lo with a1 | a1 <;> rcases lt_or_leQ p.hi q.hi with a2 | a2
        · exact ⟨(q.lo + p.hi) * (1 / 2), by grind, by grind, by grind, by grind⟩
        · exact ⟨(q.lo + q.hi) * (1 / 2), by grind, by grind, by grind, by grind⟩
        · exact ⟨(p.lo + p.hi) * (1 / 2), by grind, by grind, by grind, by grind⟩
        · exact ⟨(p.lo + q.hi) * (1 / 2), by grind, by grind, by grind, by grind⟩
      exact g.apart _ _ hp.lt hq.lt hne _ (hp.ins s m1 m2) (hq.ins s m3 m4).c
    · exact .inr h2
  · exact .inl h1
end
section
variable {ps : List Pt} {ts : List (Nat × Nat × Nat)} {a b : Pt}
end
theorem cmpP_neg {x y : Pc} : cmpP x y < 0 ↔ x.lo < y.lo ∨ (x.lo = y.lo ∧ x.tri < y.tri) := by
  unfold cmpP
  by_cases h : cmpQ x.lo y.lo = 0
  · rw [if_neg (by simpa using h)]
    have e := cmpQ_eq.1 h
    unfold cmpI
    constructor
    · intro k; refine .inr ⟨e, ?_⟩; by_cases h1 : x.tri < y.tri
      · exact h1
      · rw [if_neg h1] at k; split at k <;> omega
    · rintro (k | ⟨_, k⟩)
      · rw [e] at k; exact absurd k (by grind)
      · rw [if_pos k]; decide
  · rw [if_pos h, cmpQ_lt]
    exact ⟨fun k => .inl k, fun k => k.elim id fun k => absurd (cmpQ_eq.2 k.1) h⟩
def insP (x : Pc) : List Pc → List Pc
  | [] => [x]
  | y :: r => if cmpP x y < 0 then x :: y :: r else y :: insP x r
def srtP : List Pc → List Pc
  | [] => []
  | x :: r => insP x (srtP r)
def LeP (x y : Pc) : Prop := ¬ cmpP y x < 0
theorem insP_perm (x : Pc) : ∀ l, (insP x l).Perm (x :: l)
  | [] => List.Perm.refl _
  | y :: r => by
    unfold insP
    split
    · exact List.Perm.refl _
    · exact (List.Perm.cons y (insP_perm x r)).trans (List.Perm.swap x y r)
theorem srtP_perm : ∀ l, (srtP l).Perm l
  | [] => List.Perm.refl _
  | x :: r => (insP_perm x (srtP r)).trans (List.Perm.cons x (srtP_perm r))
theorem leP_iff {x y : Pc} : LeP x y ↔ x.lo < y.lo ∨ (x.lo = y.lo ∧ x.tri ≤ y.tri) := by
  unfold LeP
  rw [cmpP_neg]
  constructor
  · intro h
    rcases lt_or_leQ x.lo y.lo with k | k
    · exact .inl k
    · refine .inr ?_
      have h1 : ¬ y.lo < x.lo := fun e => h (.inl e)
      have e : x.lo = y.lo := by grind
      exact ⟨e, by rcases Nat.lt_or_ge y.tri x.tri with k2 | k2
                   · exact absurd (.inr ⟨e.symm, k2⟩) h
                   · exact k2⟩
  · rintro h (k | ⟨k1, k2⟩)
    · rcases h with h | ⟨h, _⟩ <;> grind
    · rcases h with h | ⟨_, h⟩
      · grind
      · omega
theorem LeP.trans {x y z : Pc} (h : LeP x y) (k : LeP y z) : LeP x z := by
  rw [leP_iff] at *
  rcases h with h | ⟨h1, h2⟩ <;> rcases k with k | ⟨k1, k2⟩
  · exact .inl (by grind)
  · exact .inl (by grind)
  · exact .inl (by grind)
  · exact .inr ⟨by grind, by omega⟩
theorem insP_sorted (x : Pc) : ∀ l, l.Pairwise LeP → (insP x l).Pairwise LeP
  | [], _ => List.pairwise_singleton _ _
  | y :: r, h => by
    obtain ⟨h1, h2⟩ := List.pairwise_cons.1 h
    unfold insP
    split
    · rename_i k
      have hxy : LeP x y := by
        rw [leP_iff]
        rcases cmpP_neg.1 k with k | ⟨k1, k2⟩
        · exact .inl k
        · exact .inr ⟨k1, by omega⟩
      refine List.pairwise_cons.2 ⟨fun z hz => ?_, h⟩
      rcases List.mem_cons.1 hz with rfl | hz
      · exact hxy
      · exact hxy.trans (h1 z hz)
    · rename_i k
      refine List.pairwise_cons.2 ⟨fun z hz => ?_, insP_sorted x r h2⟩
      rcases List.mem_cons.1 ((insP_perm x r).mem_iff.1 hz) with rfl | hz
      · exact k
      · exact h1 z hz
theorem srtP_sorted : ∀ l, (srtP l).Pairwise LeP
  | [] => List.Pairwise.nil
  | x :: r => insP_sorted x _ (srtP_sorted r)
theorem tri_same : ∀ {l : List Pc}, l.Pairwise (fun x y => x.tri ≠ y.tri) → ∀ x ∈ l, ∀ y ∈ l, x.tri = y.tri → x = y
  | z :: r, h, x, hx, y, hy, e => by
    obtain ⟨h1, h2⟩ := List.pairwise_cons.1 h
    rcases List.mem_cons.1 hx with ex | hx' <;> rcases List.mem_cons.1 hy with ey | hy'
    · rw [ex, ey]
    · rw [ex] at e; exact absurd e (h1 y hy')
    · rw [ey] at e; exact absurd e.symm (h1 x hx')
    · exact tri_same h2 x hx' y hy' e
theorem srtP_uniq {l l' : List Pc} (hp : l'.Perm l) (hs : l'.Pairwise LeP) (hn : l.Pairwise (fun x y => x.tri ≠ y.tri)) : l' = srtP l := by
  refine List.Perm.eq_of_pairwise (le := LeP) (fun x y hx hy h1 h2 => ?_) hs (srtP_sorted l) (hp.trans (srtP_perm l).symm)
  refine tri_same hn x (hp.mem_iff.1 hx) y ((srtP_perm l).mem_iff.1 hy) ?_
  rw [leP_iff] at h1 h2
  rcases h1 with h1 | ⟨e1, h1⟩ <;> rcases h2 with h2 | ⟨e2, h2⟩ <;> first | omega | (exfalso; grind)
section
variable {ps : List Pt} {ts : List (Nat × Nat × Nat)} {a b : Pt} {n : Nat}
def rayS (ps : List Pt) (ts : List (Nat × Nat × Nat)) (a b : Pt) (n : Nat) : List Pc := srtP (rayL ps ts a b n)
theorem rayS_mem (g : GoodM ps ts) (hn : n ≤ ts.length) {p : Pc} (hp : p ∈ rayS ps ts a b n) : PcOk ps ts a b p := (rayL_mem g n hn p ((srtP_perm _).mem_iff.1 hp)).2
theorem rayS_apart (g : GoodM ps ts) (hn : n ≤ ts.length) : (rayS ps ts a b n).Pairwise (fun x y => x.hi ≤ y.lo) := by
  have h1 : (rayS ps ts a b n).Pairwise (fun x y => x.tri ≠ y.tri) := (srtP_perm _).symm.pairwise (rayL_tri g n hn) (fun {x y} h => h.symm)
  refine List.Pairwise.imp_of_mem (fun {x y} hx hy h => ?_) (List.Pairwise.and (srtP_sorted (rayL ps ts a b n)) h1)
  have kx := rayS_mem g hn hx
  have ky := rayS_mem g hn hy
  have := leP_iff.1 h.1
  have h2 := ky.lh
  rcases pieces_apart g kx ky h.2 with k | k
  · exact k
  · exfalso; rcases this with h3 | ⟨h3, _⟩ <;> grind
theorem rayS_next (g : GoodM ps ts) (hn : n ≤ ts.length) {i : Nat} (hi : i + 1 < (rayS ps ts a b n).length) (d : Pc) : ((rayS ps ts a b n).getD i d).hi ≤ ((rayS ps ts a b n).getD (i + 1) d).lo := by
  have h := List.pairwise_iff_getElem.1 (rayS_apart (a := a) (b := b) g hn) i (i + 1) (by omega) hi (by omega)
  rw [List.getD, List.getElem?_eq_getElem (show i < (rayS ps ts a b n).length by omega), List.getD, List.getElem?_eq_getElem hi]
  exact h
end
section
variable {ps : List Pt} {ts : List (Nat × Nat × Nat)} {a b q : Pt}
theorem findAt_full (ps : List Pt) (q : Pt) : ∀ (ts : List (Nat × Nat × Nat)) (i : Nat), (findAt ps q ts i = (-1, 0)) ∨
    ∃ j, j < ts.length ∧ findAt ps q ts i = (((i + j : Nat) : Int), whereT ps q (ts.getD j (0, 0, 0))) ∧ whereT ps q (ts.getD j (0, 0, 0)) ≠ 0
  | [], i => .inl rfl
  | t :: r, i => by
    unfold findAt
    by_cases h : whereT ps q t = 0
    · rw [if_pos h]
      rcases findAt_full ps q r (i + 1) with h1 | ⟨j, h1, h2, h3⟩
      · exact .inl h1
      · exact .inr ⟨j + 1, by simpa using h1, by rw [h2]; exact Prod.ext (by show ((i + 1 + j : Nat) : Int) = ((i + (j + 1) : Nat) : Int); omega) rfl, h3⟩
    · rw [if_neg h]
      exact .inr ⟨0, by simp, rfl, h⟩
theorem find_full (g : GoodM ps ts) (q : Pt) : findB ps ts q = (-1, 0) ∨ ∃ j, j < ts.length ∧ findB ps ts q = ((j : Int), whereT ps q (ts.getD j (0, 0, 0))) ∧ whereT ps q (ts.getD j (0, 0, 0)) ≠ 0 := by
  unfold findB
  rw [if_pos (numB_good g)]
  rcases findAt_full ps q ts 0 with h | ⟨j, h1, h2, h3⟩
  · exact .inl h
  · exact .inr ⟨j, h1, by rw [h2]; exact Prod.ext (by show ((0 + j : Nat) : Int) = (j : Int); omega) rfl, h3⟩
end
end
section
def PcB (p : Pc) : Prop := Sz p.lo ≤ 400 ∧ Sz p.hi ≤ 400
abbrev PcS := {p : Pc // PcB p}
instance : Inhabited PcS := ⟨⟨⟨0, 0, 0⟩, by show Sz (0 : Rat) ≤ 400; decide +kernel, by show Sz (0 : Rat) ≤ 400; decide +kernel⟩⟩
theorem exS : ∀ xs : List Pc, (∀ x ∈ xs, PcB x) → ∃ ds : List PcS, ds.map (·.1) = xs
  | [], _ => ⟨[], rfl⟩
  | x :: r, h => by
    obtain ⟨ds, e⟩ := exS r fun y hy => h y (List.mem_cons_of_mem _ hy)
    exact ⟨⟨x, h x List.mem_cons_self⟩ :: ds, by rw [List.map_cons, e]⟩
def encS (x : PcS) : List Value := pcL x.1
def cfS (x y : PcS) : Int := cmpP x.1 y.1
theorem swoS : Go.Sort.SWO (ltOf cfS) where
  irrefl x := decide_eq_false (by
    unfold cfS
    rw [cmpP_neg]
    rintro (h | ⟨_, h⟩)
    · grind
    · omega)
  trans x y z h1 h2 := by
    have h1 := cmpP_neg.1 (of_decide_eq_true h1)
    have h2 := cmpP_neg.1 (of_decide_eq_true h2)
    refine decide_eq_true (cmpP_neg.2 ?_)
    rcases h1 with h1 | ⟨e1, h1⟩ <;> rcases h2 with h2 | ⟨e2, h2⟩
    · exact .inl (by grind)
    · exact .inl (by grind)
    · exact .inl (by grind)
    · exact .inr ⟨by grind, by omega⟩
  ntrans x y z h1 h2 := by
    have h1 : LeP y.1 x.1 := of_decide_eq_false h1
    have h2 : LeP z.1 y.1 := of_decide_eq_false h2
    exact decide_eq_false (h2.trans h1)
theorem cmpLS (blk off size : Nat) (w : World) : CmpLays Tryz.prog 24 #[] encS 11 cfS blk off size w := fun m os dk _ x y => by
  have hs : Sz x.1.lo + Sz y.1.lo ≤ 1000000 := by have h1 := x.2.1; have h2 := y.2.1; omega
  rw [Array.append_empty]
  exact (ray1_ok x.1 y.1 hs _).mono fun e w' h => ⟨h.1, grow_of h.2⟩
theorem flat_get {d : Array PcS} {t : Nat} (h : t < d.size * 11) : (rowsL pcL (d.toList.map (·.1)))[t]? = some (Go.Sort.flatK encS 11 d)[t]! := by
  rw [Go.Sort.get_flatK _ _ _ _ h]
  have h1 : t / 11 < d.size := by omega
  have h2 := rowsL_at pcL_len (⟨0, 0, 0⟩ : Pc) (d.toList.map (·.1)) (t / 11) (t % 11) (by simpa using h1) (Nat.mod_lt _ (by decide)) (v := (encS d[t / 11]!)[t % 11]!) (by
    rw [List.getD, List.getElem?_map, show d.toList[t / 11]? = some d[t / 11] from by simp [h1], getElem!_pos d (t / 11) h1]
    show (pcL (d[t / 11]).1)[t % 11]? = some (pcL (d[t / 11]).1)[t % 11]!
    have hl : t % 11 < (pcL (d[t / 11]).1).length := by rw [pcL_len]; exact Nat.mod_lt _ (by decide)
    rw [List.getElem?_eq_getElem hl, getElem!_pos (pcL (d[t / 11]).1) (t % 11) hl])
  rw [show t / 11 * 11 + t % 11 = t by omega] at h2
  exact h2
theorem one_pcL (x : PcS) : ∀ v ∈ encS x, v.oneCell' = true := fun v hv => by
  unfold encS pcL fracL at hv
  simp only [List.mem_cons, List.mem_append, List.not_mem_nil, or_false] at hv
  rcases hv with rfl | (rfl | rfl | rfl | rfl | rfl) | (rfl | rfl | rfl | rfl | rfl) <;> rfl
theorem sortP_ok (xs : List Pc) (p : Option Addr) (n c : Nat) (T : TypeId) (ho : OwnOk p n c) (hn : n = xs.length) (hN : n < 4611686018427387904) (hb : ∀ x ∈ xs, PcB x) (ht : xs.Pairwise (fun x y => x.tri ≠ y.tri)) (w : World) (hrow : ∀ b, p.map (·.block) = some b → ∃ o, w.heap[b]? = some o ∧ (rowW p T 11 n c (rowsL pcL xs)).P o) :
    Calls Tryz.prog 23 #[.slice p n c, .func (.func 24) #[] #[]] w fun e w' => e = .returned (.tuple #[]) ∧ Grw w w' (p.map (·.block)) ∧ ∀ b, p.map (·.block) = some b → ∃ o, w'.heap[b]? = some o ∧ (rowW p T 11 n c (rowsL pcL (srtP xs))).P o := by
  cases hp : p with
  | none =>
    subst hp
    obtain ⟨rfl, rfl⟩ := ho.nil rfl
    exact (sort0_ok w).mono fun e w' h => ⟨h.1, grown_of_below h.2 _, fun b e => by cases e⟩
  | some a =>
    subst hp
    obtain ⟨o, hob, cur, rfl, hsz, hcur⟩ := hrow a.block rfl
    have hat := ho.at0 a rfl
    have hle := ho.le
    have hmax := ho.max
    obtain ⟨ds, hds⟩ := exS xs hb
    have hdl : ds.length = n := by rw [hn, ← hds, List.length_map]
    obtain ⟨d, hd⟩ : ∃ d, d = ds.toArray := ⟨_, rfl⟩
    have hdz : d.size = n := by rw [hd]; simpa using hdl
    have hdx : d.toList.map (·.1) = xs := by rw [hd]; exact hds
    have hH : Go.Sort.HoldsK encS 11 w a.block 0 d := fun j hj => by
      have hj' : j < d.size * 11 := by simpa using hj
      refine ⟨?_, by simp [World.frozen?, hob]⟩
      have h1 : (cur.toList.take (n * 11))[j]? = (rowsL pcL xs)[j]? := by rw [hcur]
      rw [List.getElem?_take_of_lt (by omega), Array.getElem?_toList, ← hdx, flat_get hj'] at h1
      show w.cell? ⟨a.block, 0 + j, none⟩ = some (id (Go.Sort.flatK encS 11 d)[j]!)
      unfold World.cell?
      simp only [hob, Nat.zero_add]
      exact h1
    have hlt : a.block < w.heap.size := by
      rcases Nat.lt_or_ge a.block w.heap.size with h | h
      · exact h
      · rw [Array.getElem?_eq_none h] at hob; cases hob
    have h := Tryz.slices_SortFunc_Piece 11 Tryz.isAgg61 Tryz.sizeOf61 encS (fun x => pcL_len x.1) one_pcL cfS swoS 24 #[] a.block 0 c d w Tryz.call24 (cmpLS a.block 0 d.size w) hH hlt (by omega)
    rw [hdz] at h
    rw [hat]
    refine h.mono ?_
    rintro e w' ⟨rfl, d', m, os, ⟨hz', _, hperm⟩, hsort, rfl⟩
    have hz2 : d'.size = n := by rw [hz', hdz]
    have hperm' : d'.toList.Perm d.toList := by
      have e1 : d'.extract 0 n = d' := by rw [← hz2]; exact Array.extract_size
      have e2 : d.extract 0 n = d := by rw [← hdz]; exact Array.extract_size
      rw [e1, e2] at hperm
      exact hperm
    have hres : d'.toList.map (·.1) = srtP xs := by
      refine srtP_uniq (by rw [← hdx]; exact hperm'.map _) ?_ ht
      rw [List.pairwise_map]
      refine List.pairwise_iff_getElem.2 fun i j hi hj hij => ?_
      have hi' : i < d'.size := by simpa using hi
      have hj' : j < d'.size := by simpa using hj
      have h9 := of_decide_eq_false (hsort i j (Nat.zero_le _) hij (by omega))
      rw [getElem!_pos d' j hj', getElem!_pos d' i hi'] at h9
      simpa [LeP, cfS] using h9
    have hF : (Go.Sort.flatK encS 11 d').size = n * 11 := by rw [Go.Sort.size_flatK, hz2]
    refine ⟨rfl, ⟨⟨rfl, rfl, rfl, by simp [sortWorldK, Go.Sort.grow, Go.Sort.putRowK, Go.Sort.putRow, Go.Sort.mapBlock, Go.Sort.ahead], fun j hj hne => ?_⟩, by show w.drawn ≤ w.drawn + m; omega⟩, fun b e => ?_⟩
    · have hne' : a.block ≠ j := fun e => hne (by rw [e]; rfl)
      unfold sortWorldK
      rw [Go.Sort.heap_grow_old _ _ (by simpa [Go.Sort.putRowK, Go.Sort.putRow, Go.Sort.mapBlock, Go.Sort.ahead] using hj)]
      simp [Go.Sort.putRowK, Go.Sort.putRow, Go.Sort.mapBlock, Go.Sort.ahead, Array.getElem?_modify, hne']
    · injection e with e
      subst e
      refine ⟨.cells (Go.Sort.putCells id 0 (Go.Sort.flatK encS 11 d') cur) T (0, 0), ?_, _, rfl, by simp [Go.Sort.putCells, hsz], ?_⟩
      · unfold sortWorldK
        rw [Go.Sort.heap_grow_old _ _ (by simpa [Go.Sort.putRowK, Go.Sort.putRow, Go.Sort.mapBlock, Go.Sort.ahead] using hlt)]
        simp [Go.Sort.putRowK, Go.Sort.putRow, Go.Sort.mapBlock, Go.Sort.ahead, Array.getElem?_modify, hob, Go.Sort.onCells]
      · apply List.ext_getElem?
        intro j
        have hlen : (rowsL pcL (srtP xs)).length = n * 11 := by rw [← hres, rowsL_length pcL_len, List.length_map, Array.length_toList, hz2]
        by_cases hj : j < n * 11
        · have hcs : n * 11 ≤ c * 11 := Nat.mul_le_mul_right _ hle
          rw [List.getElem?_take_of_lt hj, Array.getElem?_toList, ← hres, flat_get (by rw [hz2]; exact hj)]
          unfold Go.Sort.putCells
          rw [Array.getElem?_mapIdx, Array.getElem?_eq_getElem (by omega), Option.map_some, if_pos ⟨Nat.zero_le _, by omega⟩]
          rfl
        · rw [List.getElem?_take_eq_none (by omega), List.getElem?_eq_none (by omega)]
section
variable {ps : List Pt} {ts : List (Nat × Nat × Nat)} {a b : Pt}
theorem pcAt_tri {t : Nat} {T : Nat × Nat × Nat} {x : Pc} (h : x ∈ pcAt ps a b t T) : x.tri = t := by
  unfold pcAt at h
  split at h
  · split at h
    · rcases List.mem_singleton.1 h with rfl; rfl
    · cases h
  · cases h
theorem rayL_lt : ∀ n, ∀ x ∈ rayL ps ts a b n, x.tri < n
  | 0, x, h => by cases h
  | n + 1, x, h => by
    rcases List.mem_append.1 h with h | h
    · have := rayL_lt n x h; omega
    · have := pcAt_tri h; omega
theorem rayL_dif : ∀ n, (rayL ps ts a b n).Pairwise (fun x y => x.tri ≠ y.tri)
  | 0 => List.Pairwise.nil
  | n + 1 => List.pairwise_append.2 ⟨rayL_dif n, by
      have h := pcAt_len (ps := ps) (a := a) (b := b) (t := n) (ts.getD n (0, 0, 0))
      match pcAt ps a b n (ts.getD n (0, 0, 0)), h with
      | [], _ => exact List.Pairwise.nil
      | [x], _ => exact List.pairwise_singleton _ _, fun x hx y hy e => by
      have h1 := rayL_lt n x hx
      have h2 := pcAt_tri hy
      omega⟩
theorem rayL_sz (hz : ∀ i, SzP (cor ps i) ≤ 4) (sa : SzP a ≤ 6) (sb : SzP b ≤ 6) (hne : ∀ j, j < ts.length → turnP (cor ps (ts.getD j (0, 0, 0)).1) (cor ps (ts.getD j (0, 0, 0)).2.1) (cor ps (ts.getD j (0, 0, 0)).2.2) ≠ 0) : ∀ n, n ≤ ts.length → ∀ x ∈ rayL ps ts a b n, PcB x
  | 0, _, x, h => by cases h
  | n + 1, hn, x, h => by
    rcases List.mem_append.1 h with h | h
    · exact rayL_sz hz sa sb hne n (by omega) x h
    · unfold pcAt at h
      split at h
      · split at h
        · rcases List.mem_singleton.1 h with rfl
          exact spanV_sz (c := corT ps (ts.getD n (0, 0, 0))) (hne n (by omega)) (Nat.le_trans (hz _) (by decide)) (Nat.le_trans (hz _) (by decide)) (Nat.le_trans (hz _) (by decide)) sa sb
        · cases h
      · cases h
theorem nB_le (n : Nat) (ts : List (Nat × Nat × Nat)) : nB n ts ≤ ts.length := by unfold nB; split <;> omega
theorem srtP_len (l : List Pc) : (srtP l).length = l.length := (srtP_perm l).length_eq
end
end
end Go.Proofs.YtnofgcpajmldkaaGreatDoor
