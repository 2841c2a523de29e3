import Derived.OrdersIn
import Derived.Test.YtmjbiebmgffleaaGreatDoorPart30
import Derived.Test.YtmjbiebmgffleaaGreatDoorPart36
import Derived.Test.YtmjbiebmgffleaaGreatDoorPart38
namespace Go.Proofs.YtmjbiebmgffleaaGreatDoor
open Go Go.RowKit
set_option linter.unusedVariables false
set_option linter.unusedSimpArgs false
section
section
variable {α β : Type} [DecidableEq α]
theorem getM_put {kvs : List (α × β)} {x z : α} {y : β} : getM (putM kvs x y) z = if z = x then some y else getM kvs z := by
  induction kvs with
  | nil => rfl
  | cons p r ih =>
    obtain ⟨k, v⟩ := p
    unfold putM
    split
    · rename_i e
      subst e
      unfold getM
      split <;> rfl
    · rename_i e
      rw [getM, ih]
      by_cases h : z = k
      · rw [if_pos h, if_neg (fun e2 => e (e2.symm.trans h)), getM, if_pos h]
      · rw [if_neg h]
        split
        · rfl
        · rw [getM, if_neg h]
end
section
variable {ts : List (Nat × Nat × Nat)}
def dirE (ts : List (Nat × Nat × Nat)) (u : Nat) : P2 := (crT (ts.getD (u / 3) (0, 0, 0)) (u % 3), crT (ts.getD (u / 3) (0, 0, 0)) ((u % 3 + 1) % 3))
def Fst (ts : List (Nat × Nat × Nat)) (s a b : Nat) (z : Int) : Prop := (z = -1 ∧ ∀ u, u < s → dirE ts u ≠ (a, b)) ∨ ∃ u, u < s ∧ z = ((u / 3 : Nat) : Int) ∧ dirE ts u = (a, b) ∧ ∀ v, v < u → dirE ts v ≠ (a, b)
theorem Fst.none {s a b : Nat} (h : ∀ u, u < s → dirE ts u ≠ (a, b)) : Fst ts s a b (-1) := .inl ⟨rfl, h⟩
theorem Fst.skip {s a b : Nat} {z : Int} (h : Fst ts s a b z) (hn : dirE ts s ≠ (a, b)) : Fst ts (s + 1) a b z := by
  rcases h with ⟨h1, h2⟩ | ⟨u, h1, h2, h3, h4⟩
  · refine .inl ⟨h1, fun u hu => ?_⟩
    rcases Nat.lt_or_ge u s with h | h
    · exact h2 u h
    · rw [show u = s by omega]; exact hn
  · exact .inr ⟨u, by omega, h2, h3, h4⟩
theorem Fst.take {s a b : Nat} (h : Fst ts s a b (-1)) (hn : dirE ts s = (a, b)) : Fst ts (s + 1) a b ((s / 3 : Nat) : Int) := by
  rcases h with ⟨h1, h2⟩ | ⟨u, h1, h2, h3, h4⟩
  · exact .inr ⟨s, by omega, rfl, hn, h2⟩
  · omega
theorem Fst.keep {s a b : Nat} {z : Int} (h : Fst ts s a b z) (hz : z ≠ -1) : Fst ts (s + 1) a b z := by
  rcases h with ⟨h1, h2⟩ | ⟨u, h1, h2, h3, h4⟩
  · exact absurd h1 hz
  · exact .inr ⟨u, by omega, h2, h3, h4⟩
structure EInv (ts : List (Nat × Nat × Nat)) (s : Nat) (k : P2) (e : E4) : Prop where
  ea : e.a = k.1
  eb : e.b = k.2
  lt : k.1 < k.2
  l : Fst ts s k.1 k.2 e.l
  r : Fst ts s k.2 k.1 e.r
  some : ∃ u, u < s ∧ (dirE ts u = (k.1, k.2) ∨ dirE ts u = (k.2, k.1))
theorem edS_inv (hd : ∀ u, u < 3 * ts.length → (dirE ts u).1 ≠ (dirE ts u).2) : ∀ s, s ≤ 3 * ts.length → (∀ k e, getM (edS ts s) k = some e → EInv ts s k e) ∧ (∀ k, getM (edS ts s) k = none → k.1 < k.2 → ∀ u, u < s → dirE ts u ≠ (k.1, k.2) ∧ dirE ts u ≠ (k.2, k.1))
  | 0, _ => ⟨fun k e h => (by cases h), fun k _ _ u hu => absurd hu (Nat.not_lt_zero _)⟩
  | s + 1, hs => by
    obtain ⟨i1, i2⟩ := edS_inv hd s (by omega)
    have hne := hd s (by omega)
    obtain ⟨a, ha⟩ : ∃ a, a = crT (ts.getD (s / 3) (0, 0, 0)) (s % 3) := ⟨_, rfl⟩
    obtain ⟨b, hb⟩ : ∃ b, b = crT (ts.getD (s / 3) (0, 0, 0)) ((s % 3 + 1) % 3) := ⟨_, rfl⟩
    have hdir : dirE ts s = (a, b) := by rw [ha, hb]; rfl
    rw [hdir] at hne
    have hE : edS ts (s + 1) = stpE (edS ts s) (s / 3) a b := by rw [ha, hb]; rfl
    rw [hE]
    unfold stpE
    have hky : (kyE a b).1 < (kyE a b).2 := by unfold kyE; simp only at hne ⊢; omega
    -- what the old edge, or the new one, knows
    have h0 : ∀ e0, e0 = (getM (edS ts s) (kyE a b)).getD (newE (kyE a b)) → e0.a = (kyE a b).1 ∧ e0.b = (kyE a b).2 ∧ Fst ts s (kyE a b).1 (kyE a b).2 e0.l ∧ Fst ts s (kyE a b).2 (kyE a b).1 e0.r := by
      intro e0 he0
      cases hg : getM (edS ts s) (kyE a b) with
      | none =>
        rw [hg] at he0
        have h2 := i2 _ hg hky
        subst he0
        exact ⟨rfl, rfl, Fst.none fun u hu => (h2 u hu).1, Fst.none fun u hu => (h2 u hu).2⟩
      | some e =>
        rw [hg] at he0
        have h2 := i1 _ _ hg
        subst he0
        exact ⟨h2.ea, h2.eb, h2.l, h2.r⟩
    constructor
    · intro k e hk
      rw [getM_put] at hk
      split at hk
      · rename_i e1
        injection hk with hk
        obtain ⟨c1, c2, c3, c4⟩ := h0 _ rfl
        obtain ⟨e0, he0⟩ : ∃ e0, e0 = (getM (edS ts s) (kyE a b)).getD (newE (kyE a b)) := ⟨_, rfl⟩
        rw [← he0] at hk c1 c2 c3 c4
        subst hk
        have hends := updE_ends e0 (s / 3) a b
        rw [e1]
        rcases Nat.lt_or_ge a b with hab | hab
        · have k1 : (kyE a b).1 = a := by unfold kyE; simp only; omega
          have k2 : (kyE a b).2 = b := by unfold kyE; simp only; omega
          rw [k1, k2] at c3 c4
          refine ⟨hends.1.trans c1, hends.2.trans c2, hky, ?_, ?_, s, by omega, .inl (by rw [k1, k2]; exact hdir)⟩ <;> rw [k1, k2]
          · unfold updE
            by_cases hl : e0.l = -1
            · rw [if_pos ⟨hab, hl⟩]
              rw [hl] at c3
              exact c3.take hdir
            · rw [if_neg (fun h => hl h.2), if_neg (fun h => by omega)]
              exact c3.keep hl
          · have hn2 : dirE ts s ≠ (b, a) := by rw [hdir]; intro h; injection h with h _; omega
            unfold updE
            split
            · exact c4.skip hn2
            · rw [if_neg (fun h => by omega)]
              exact c4.skip hn2
        · have hba : b < a := by simp only at hne; omega
          have k1 : (kyE a b).1 = b := by unfold kyE; simp only; omega
          have k2 : (kyE a b).2 = a := by unfold kyE; simp only; omega
          rw [k1, k2] at c3 c4
          have hn2 : dirE ts s ≠ (b, a) := by rw [hdir]; intro h; injection h with h _; omega
          refine ⟨hends.1.trans c1, hends.2.trans c2, hky, ?_, ?_, s, by omega, .inr (by rw [k1, k2]; exact hdir)⟩ <;> rw [k1, k2]
          · unfold updE
            rw [if_neg (fun h => by omega)]
            split
            · exact c3.skip hn2
            · exact c3.skip hn2
          · unfold updE
            rw [if_neg (fun h => by omega)]
            by_cases hl : e0.r = -1
            · rw [if_pos ⟨hba, hl⟩]
              rw [hl] at c4
              exact c4.take hdir
            · rw [if_neg (fun h => hl h.2)]
              exact c4.keep hl
      · rename_i e1
        obtain ⟨a1, a2, a3, a4, a5, u, a6, a7⟩ := i1 k e hk
        have n1 : dirE ts s ≠ (k.1, k.2) := by
          rw [hdir]; intro h; injection h with h1 h2
          exact e1 (Prod.ext (by unfold kyE; simp only; omega) (by unfold kyE; simp only; omega))
        have n2 : dirE ts s ≠ (k.2, k.1) := by
          rw [hdir]; intro h; injection h with h1 h2
          exact e1 (Prod.ext (by unfold kyE; simp only; omega) (by unfold kyE; simp only; omega))
        exact ⟨a1, a2, a3, a4.skip n1, a5.skip n2, u, by omega, a7⟩
    · intro k hk hlt u hu
      rw [getM_put] at hk
      split at hk
      · cases hk
      · rename_i e1
        rcases Nat.lt_or_ge u s with h | h
        · exact i2 k hk hlt u h
        · rw [show u = s by omega, hdir]
          constructor
          · intro h; injection h with h1 h2
            exact e1 (Prod.ext (by unfold kyE; simp only; omega) (by unfold kyE; simp only; omega))
          · intro h; injection h with h1 h2
            exact e1 (Prod.ext (by unfold kyE; simp only; omega) (by unfold kyE; simp only; omega))
theorem edL_inv {N : Nat} (hn : numB N ts = true) (hN : N ≤ 4611686018427387904) (hd : ∀ u, u < 3 * ts.length → (dirE ts u).1 ≠ (dirE ts u).2) {e : E4} (he : e ∈ edL ts) : EInv ts (3 * ts.length) (e.a, e.b) e := by
  unfold edL at he
  obtain ⟨p, hp, h1⟩ := List.mem_map.1 ((srtE_perm _).mem_iff.1 he)
  obtain ⟨j, hj, h2⟩ := List.getElem_of_mem hp
  have h3 := getM_at (x := p.1) (v := p.2) (edS_ok hn hN _ (Nat.le_refl _)).once (show (edS ts (3 * ts.length))[j]? = some (p.1, p.2) by rw [List.getElem?_eq_getElem hj, h2])
  have h4 := (edS_inv hd _ (Nat.le_refl _)).1 _ _ h3
  rw [h1] at h4
  rw [show (e.a, e.b) = p.1 from Prod.ext h4.ea h4.eb]
  exact h4
def fstE (e : E4) : Int := if 0 ≤ e.l ∧ 0 ≤ e.r then min e.l e.r else max e.l e.r
theorem both_dir {t : Nat × Nat × Nat} {a b : Nat} (hne : a ≠ b) (h1 : hasI t a = true) (h2 : hasI t b = true) : ∃ r, r < 3 ∧ ((crT t r = a ∧ crT t ((r + 1) % 3) = b) ∨ (crT t r = b ∧ crT t ((r + 1) % 3) = a)) := by
  simp only [hasI, Bool.or_eq_true, beq_iff_eq] at h1 h2
  rcases h1 with (e1 | e1) | e1 <;> rcases h2 with (e2 | e2) | e2
  · exact absurd (e1.symm.trans e2) hne
  · exact ⟨0, by decide, .inl ⟨e1, e2⟩⟩
  · exact ⟨2, by decide, .inr ⟨e2, e1⟩⟩
  · exact ⟨0, by decide, .inr ⟨e2, e1⟩⟩
  · exact absurd (e1.symm.trans e2) hne
  · exact ⟨1, by decide, .inl ⟨e1, e2⟩⟩
  · exact ⟨2, by decide, .inl ⟨e1, e2⟩⟩
  · exact ⟨1, by decide, .inr ⟨e2, e1⟩⟩
  · exact absurd (e1.symm.trans e2) hne
theorem hasI_crT (t : Nat × Nat × Nat) (r : Nat) : hasI t (crT t r) = true := by
  unfold hasI crT
  split
  · simp
  · split <;> simp
theorem edge_first {e : E4} (h : EInv ts (3 * ts.length) (e.a, e.b) e) : ∃ j, j < ts.length ∧ fstE e = (j : Int) ∧ hasI (ts.getD j (0, 0, 0)) e.a = true ∧ hasI (ts.getD j (0, 0, 0)) e.b = true ∧ ∀ i, i < j → ¬ (hasI (ts.getD i (0, 0, 0)) e.a = true ∧ hasI (ts.getD i (0, 0, 0)) e.b = true) := by
  obtain ⟨_, _, hlt, hl, hr, u, hu, hsome⟩ := h
  simp only at hlt hl hr hsome
  have hno : ∀ i, (∀ v, v / 3 = i → dirE ts v ≠ (e.a, e.b) ∧ dirE ts v ≠ (e.b, e.a)) → ¬ (hasI (ts.getD i (0, 0, 0)) e.a = true ∧ hasI (ts.getD i (0, 0, 0)) e.b = true) := by
    rintro i hi ⟨h1, h2⟩
    obtain ⟨r, hr3, h3⟩ := both_dir (by omega) h1 h2
    have hv := hi (3 * i + r) (by omega)
    have e1 : dirE ts (3 * i + r) = (crT (ts.getD i (0, 0, 0)) r, crT (ts.getD i (0, 0, 0)) ((r + 1) % 3)) := by
      unfold dirE
      rw [show (3 * i + r) / 3 = i by omega, show (3 * i + r) % 3 = r by omega]
    rw [e1] at hv
    rcases h3 with ⟨h3, h4⟩ | ⟨h3, h4⟩
    · exact hv.1 (by rw [h3, h4])
    · exact hv.2 (by rw [h3, h4])
  have hyes : ∀ {v a b : Nat}, dirE ts v = (a, b) → hasI (ts.getD (v / 3) (0, 0, 0)) a = true ∧ hasI (ts.getD (v / 3) (0, 0, 0)) b = true := by
    intro v a b hv
    unfold dirE at hv
    injection hv with h1 h2
    rw [← h1, ← h2]
    exact ⟨hasI_crT _ _, hasI_crT _ _⟩
  rcases hl with ⟨l1, l2⟩ | ⟨ul, l1, l2, l3, l4⟩ <;> rcases hr with ⟨r1, r2⟩ | ⟨ur, r1, r2, r3, r4⟩
  · rcases hsome with h | h
    · exact absurd h (l2 u hu)
    · exact absurd h (r2 u hu)
  · obtain ⟨y1, y2⟩ := hyes r3
    refine ⟨ur / 3, by omega, ?_, y2, y1, fun i hi => hno i fun v hv => ⟨l2 v (by omega), r4 v (by omega)⟩⟩
    unfold fstE; rw [if_neg (by omega)]; omega
  · obtain ⟨y1, y2⟩ := hyes l3
    refine ⟨ul / 3, by omega, ?_, y1, y2, fun i hi => hno i fun v hv => ⟨l4 v (by omega), r2 v (by omega)⟩⟩
    unfold fstE; rw [if_neg (by omega)]; omega
  · obtain ⟨y1, y2⟩ := hyes l3
    obtain ⟨z1, z2⟩ := hyes r3
    rcases Nat.lt_or_ge (ul / 3) (ur / 3) with h | h
    · refine ⟨ul / 3, by omega, ?_, y1, y2, fun i hi => hno i fun v hv => ⟨l4 v (by omega), r4 v (by omega)⟩⟩
      unfold fstE; rw [if_pos (by omega)]; omega
    · refine ⟨ur / 3, by omega, ?_, z2, z1, fun i hi => hno i fun v hv => ⟨l4 v (by omega), r4 v (by omega)⟩⟩
      unfold fstE; rw [if_pos (by omega)]; omega
end
section
variable {ps : List Pt} {ts : List (Nat × Nat × Nat)} {q : Pt}
theorem dirE_ne (g : GoodM ps ts) {u : Nat} (hu : u < 3 * ts.length) : (dirE ts u).1 ≠ (dirE ts u).2 := by
  have h := g.tri (u / 3) (by omega)
  have hab := h.ab
  have hbc := h.bc
  have hca := h.ca
  have h3 : u % 3 = 0 ∨ u % 3 = 1 ∨ u % 3 = 2 := by omega
  unfold dirE
  rcases h3 with h3 | h3 | h3 <;> rw [h3]
  · exact hab
  · exact hbc
  · exact hca
theorem edge_inv (g : GoodM ps ts) {e : E4} (he : e ∈ edL ts) : EInv ts (3 * ts.length) (e.a, e.b) e := edL_inv (numB_good g) (by have := g.pl; omega) (fun u hu => dirE_ne g hu) he
theorem edge_lt (g : GoodM ps ts) {e : E4} (he : e ∈ edL ts) : e.a < ps.length ∧ e.b < ps.length ∧ e.a ≠ e.b := by
  obtain ⟨_, _, hlt, _, _, u, hu, hs⟩ := edge_inv g he
  have ht := numB_at (numB_good g) (show u / 3 < ts.length by omega)
  have h1 := crT_lt ht (u % 3)
  have h2 := crT_lt ht ((u % 3 + 1) % 3)
  simp only at hlt hs
  unfold dirE at hs
  rcases hs with hs | hs <;> (injection hs with e1 e2; rw [e1] at h1; rw [e2] at h2; exact ⟨by omega, by omega, by omega⟩)
theorem edge_find (g : GoodM ps ts) {e : E4} (he : e ∈ edL ts) : ∃ j, j < ts.length ∧ fstE e = (j : Int) ∧ findB ps ts (scaleP (cor ps e.a + cor ps e.b) (1 / 2)) = ((j : Int), 2) := by
  have hi := edge_inv g he
  obtain ⟨j, hj, hf, ha, hb, hl⟩ := edge_first hi
  obtain ⟨_, _, hne⟩ := edge_lt g he
  have hw : whereT ps (scaleP (cor ps e.a + cor ps e.b) (1 / 2)) (ts.getD j (0, 0, 0)) = 2 := mid_where g hj hne ha hb
  refine ⟨j, hj, hf, ?_⟩
  have h := find_first g (q := scaleP (cor ps e.a + cor ps e.b) (1 / 2)) hj (by rw [hw]; decide) fun i hij => by
    refine (where_zero (g.lft (by omega))).2 fun hc => hl i hij ?_
    obtain ⟨r, hr, hd⟩ := both_dir hne ha hb
    have hmid : ∀ a b : Nat, crT (ts.getD j (0, 0, 0)) r = a → crT (ts.getD j (0, 0, 0)) ((r + 1) % 3) = b → TriC ps (ts.getD i (0, 0, 0)) (scaleP (cor ps a + cor ps b) (1 / 2)) → hasI (ts.getD i (0, 0, 0)) a = true ∧ hasI (ts.getD i (0, 0, 0)) b = true := by
      rintro a b rfl rfl h
      exact mesh_mid g hj (show i < ts.length by omega) hr h
    rcases hd with ⟨d1, d2⟩ | ⟨d1, d2⟩
    · exact hmid _ _ d1 d2 hc
    · have h2 := hmid _ _ d1 d2 (by rw [show cor ps e.b + cor ps e.a = cor ps e.a + cor ps e.b from by apply Pt.ext <;> simp only [add_x, add_y] <;> grind]; exact hc)
      exact ⟨h2.2, h2.1⟩
  rw [h, hw]
def arL (ts : List (Nat × Nat × Nat)) (p n : Nat) : List Nat := (List.range n).filter fun t => hasI (ts.getD t (0, 0, 0)) p
theorem arL_yes {p n : Nat} (h : hasI (ts.getD n (0, 0, 0)) p = true) : arL ts p (n + 1) = arL ts p n ++ [n] := by
  unfold arL; rw [List.range_succ, List.filter_append, List.filter_cons, if_pos h]; rfl
theorem arL_no {p n : Nat} (h : ¬ hasI (ts.getD n (0, 0, 0)) p = true) : arL ts p (n + 1) = arL ts p n := by
  unfold arL; rw [List.range_succ, List.filter_append, List.filter_cons, if_neg h]; simp
theorem arL_len (p n : Nat) : (arL ts p n).length ≤ n := by
  have h := List.length_filter_le (fun t => hasI (ts.getD t (0, 0, 0)) p) (List.range n)
  rw [List.length_range] at h
  exact h
theorem corner_find (g : GoodM ps ts) {p : Nat} (hp : p < ps.length) : ∃ j r, j < ts.length ∧ arL ts p ts.length = j :: r ∧ findB ps ts (cor ps p) = ((j : Int), 3) := by
  obtain ⟨j0, h0, hh0⟩ := mesh_used g hp
  have hm : ∀ i, i ∈ arL ts p ts.length ↔ i < ts.length ∧ hasI (ts.getD i (0, 0, 0)) p = true := fun i => by
    unfold arL; rw [List.mem_filter, List.mem_range]
  have hs : (arL ts p ts.length).Pairwise (· < ·) := (List.pairwise_lt_range (n := ts.length)).filter _
  cases hl : arL ts p ts.length with
  | nil => have := (hm j0).2 ⟨h0, hh0⟩; rw [hl] at this; cases this
  | cons j r =>
    rw [hl] at hm hs
    obtain ⟨hj, hhj⟩ := (hm j).1 List.mem_cons_self
    have hw : whereT ps (cor ps p) (ts.getD j (0, 0, 0)) = 3 := corner_where g hj hhj
    refine ⟨j, r, hj, rfl, ?_⟩
    have h := find_first g (q := cor ps p) hj (by rw [hw]; decide) fun i hij => by
      refine (where_zero (g.lft (by omega))).2 fun hc => ?_
      have h1 := (hm i).2 ⟨by omega, mesh_corner g hp (by omega) hc⟩
      rcases List.mem_cons.1 h1 with h1 | h1
      · omega
      · have h2 := (List.pairwise_cons.1 hs).1 i h1
        omega
    rw [h, hw]
theorem centre_find (g : GoodM ps ts) {k : Nat} (hk : k < ts.length) {a b c : Pt} (ha : a = cor ps (ts.getD k (0, 0, 0)).1) (hb : b = cor ps (ts.getD k (0, 0, 0)).2.1) (hc : c = cor ps (ts.getD k (0, 0, 0)).2.2) : findB ps ts (scaleP a (1 / 3) + scaleP b (1 / 3) + scaleP c (1 / 3)) = ((k : Int), 1) := by
  refine find_inside g hk ?_
  have hT := g.lft hk
  unfold Lft at hT
  subst ha hb hc
  have key : ∀ a b c : Pt, turnP (scaleP a (1 / 3) + scaleP b (1 / 3) + scaleP c (1 / 3)) b c = turnP a b c * (1 / 3) ∧ turnP a (scaleP a (1 / 3) + scaleP b (1 / 3) + scaleP c (1 / 3)) c = turnP a b c * (1 / 3) ∧ turnP a b (scaleP a (1 / 3) + scaleP b (1 / 3) + scaleP c (1 / 3)) = turnP a b c * (1 / 3) := fun a b c => by
    simp only [turn_def, scale_x, scale_y, add_x, add_y]
    refine ⟨?_, ?_, ?_⟩ <;> grind
  obtain ⟨k1, k2, k3⟩ := key (cor ps (ts.getD k (0, 0, 0)).1) (cor ps (ts.getD k (0, 0, 0)).2.1) (cor ps (ts.getD k (0, 0, 0)).2.2)
  unfold TriO
  have hpos : 0 < turnP (cor ps (ts.getD k (0, 0, 0)).1) (cor ps (ts.getD k (0, 0, 0)).2.1) (cor ps (ts.getD k (0, 0, 0)).2.2) * (1 / 3) := by
    have : 0 < turnP (cor ps (ts.getD k (0, 0, 0)).1) (cor ps (ts.getD k (0, 0, 0)).2.1) (cor ps (ts.getD k (0, 0, 0)).2.2) := hT
    grind
  refine ⟨?_, ?_, ?_⟩
  · show 0 < turnP _ (cor ps _) (cor ps _); rw [k1]; exact hpos
  · show 0 < turnP (cor ps _) _ (cor ps _); rw [k2]; exact hpos
  · show 0 < turnP (cor ps _) (cor ps _) _; rw [k3]; exact hpos
def sqD (p q : Pt) : Rat := dotP (q - p) (q - p)
theorem sqD_self (p : Pt) : sqD p p = 0 := by
  unfold sqD
  simp only [dot_def, sub_x, sub_y]
  grind
theorem sq_pos {x : Rat} (h : x ≠ 0) : 0 < x * x := by
  rcases (Rat.le_total : (0 : Rat) ≤ x ∨ x ≤ 0) with h1 | h1
  · have : 0 < x := by grind
    exact Rat.mul_pos this this
  · have : 0 < -x := by grind
    have h2 := Rat.mul_pos this this
    grind
theorem sq_nn (x : Rat) : 0 ≤ x * x := by
  by_cases h : x = 0
  · rw [h]; decide +kernel
  · have := sq_pos h; grind
theorem sqD_pos {p q : Pt} (h : p ≠ q) : 0 < sqD p q := by
  unfold sqD
  simp only [dot_def, sub_x, sub_y]
  by_cases hx : q.x - p.x = 0
  · by_cases hy : q.y - p.y = 0
    · exact absurd (Pt.ext (by grind) (by grind)) h
    · have h1 := sq_pos hy; have h2 := sq_nn (q.x - p.x); grind
  · have h1 := sq_pos hx; have h2 := sq_nn (q.y - p.y); grind
theorem mesh_sq (g : GoodM ps ts) {p i : Nat} (hp : p < ps.length) (hi : i < ps.length) (h : i ≠ p) : 0 < sqD (cor ps p) (cor ps i) := sqD_pos fun e => h (mesh_dst g hi hp e.symm)
end
end
section
def inL (l : List Nat) : List Value := l.map fun (d : Nat) => vN d
theorem inL_length (l : List Nat) : (inL l).length = l.length := by simp [inL]
theorem inL_get {l : List Nat} {j : Nat} (h : j < l.length) : (inL l)[j * 1]? = some (vN (l.getD j 0)) := by simp [inL, h]
theorem inL_append (a b : List Nat) : inL (a ++ b) = inL a ++ inL b := by simp [inL]
def ixI (t : Nat × Nat × Nat) (p : Nat) : Int := if p = t.1 then 0 else if p = t.2.1 then 1 else if p = t.2.2 then 2 else -1
theorem ixI_has (t : Nat × Nat × Nat) (p : Nat) : decide (0 ≤ ixI t p) = hasI t p := by
  unfold ixI hasI
  by_cases h1 : p = t.1
  · rw [if_pos h1, h1]; simp
  · have h1' : ¬ t.1 = p := fun e => h1 e.symm
    rw [if_neg h1]
    by_cases h2 : p = t.2.1
    · rw [if_pos h2, h2]; simp
    · have h2' : ¬ t.2.1 = p := fun e => h2 e.symm
      rw [if_neg h2]
      by_cases h3 : p = t.2.2
      · rw [if_pos h3, h3]; simp
      · have h3' : ¬ t.2.2 = p := fun e => h3 e.symm
        rw [if_neg h3]; simp [h1', h2', h3']
def NearI (s : Nat → Rat) (p i : Nat) (b : Int) (l : Rat) : Prop := (i = 0 ∧ b = -1) ∨ ∃ k : Nat, b = (k : Int) ∧ k < i ∧ l = s k ∧ (p < i → k = p)
section
variable {s : Nat → Rat} {p i n : Nat} {b : Int} {l : Rat}
theorem NearI.take (h : NearI s p i b l) (hp : s p = 0) (hpos : ∀ k, k ≠ p → k ≤ i → 0 < s k) (hc : b = -1 ∨ cmpQ (s i) l < 0) : NearI s p (i + 1) (i : Int) (s i) := by
  refine .inr ⟨i, rfl, by omega, rfl, fun hlt => ?_⟩
  rcases h with ⟨h1, _⟩ | ⟨k, h1, h2, h3, h4⟩
  · omega
  · rcases hc with hc | hc
    · omega
    · rcases Nat.lt_or_ge p i with h5 | h5
      · have h6 := cmpQ_lt.1 hc
        have h7 := hpos i (by omega) (Nat.le_refl _)
        rw [h3, h4 h5, hp] at h6
        grind
      · omega
theorem NearI.keep (h : NearI s p i b l) (hp : s p = 0) (hpos : ∀ k, k ≠ p → k ≤ i → 0 < s k) (hc : ¬ (b = -1 ∨ cmpQ (s i) l < 0)) : NearI s p (i + 1) b l := by
  rcases h with ⟨_, h1⟩ | ⟨k, h1, h2, h3, h4⟩
  · exact absurd (.inl h1) hc
  · refine .inr ⟨k, h1, by omega, h3, fun hlt => ?_⟩
    rcases Nat.lt_or_ge p i with h5 | h5
    · exact h4 h5
    · have e : p = i := by omega
      subst e
      exact absurd (.inr (cmpQ_lt.2 (by rw [hp, h3]; exact hpos k (by omega) (by omega)))) hc
theorem NearI.done (h : NearI s p n b l) (hp : p < n) : b = (p : Int) := by
  rcases h with ⟨h1, _⟩ | ⟨k, h1, _, _, h4⟩
  · omega
  · rw [h1, h4 hp]
end
end
section
theorem nd_at {ops : Array Oper} {l : List Oper} (h : ndO l = true) : ∀ (i : Nat) (o : Oper), l[i]? = some o → ∀ c, o.op ≠ .defer c := by
  induction l with
  | nil => intro i o hi; cases i <;> simp at hi
  | cons x l ih =>
    unfold ndO at h
    have h2 := (Bool.and_eq_true _ _ ▸ h : _ ∧ _)
    intro i o hi c
    cases i with
    | zero =>
      simp only [List.getElem?_cons_zero, Option.some.injEq] at hi
      subst hi
      intro e
      have h3 := h2.1
      rw [e] at h3
      cases h3
    | succ i => exact ih h2.2 i o (by simpa using hi) c
section
variable {r : Option Nat} {P : Program} {ops : Array Oper} {Q : Exit → Act → World → Prop} {S : World → Prop}
theorem wpOp_in {i : Nat} {a : Act} {w : World} {K K' : Act → World → Prop} (hno : ∀ a w, ¬ Q .outgrown a w) (hnd : ∀ (i : Nat) (o : Oper), ops[i]? = some o → ∀ c, o.op ≠ .defer c) (hK : ∀ a w, K a w → K' a w) (h : wpOp P ops Q i K a w) : wpOpIn (rF r) 0 P ops Q i K' a w := by
  unfold wpOp at h
  unfold wpOpIn
  cases ho : ops[i]? with
  | none => simp only [ho] at h ⊢; exact hK _ _ h
  | some o =>
    simp only [ho] at h ⊢
    split
    · rename_i hw
      rw [if_pos hw] at h
      rcases h with h | ⟨_, a', w', h⟩
      · exact oper_in hK (fun _ _ k => k) (fun k => k) (hnd i o ho) h
      · exact absurd h (hno a' w')
    · rename_i hw
      rw [if_neg hw] at h
      exact ⟨fun _ _ => trivial, hK _ _ h⟩
theorem wpAnyH_in (hno : ∀ a w, ¬ Q .outgrown a w) (hnd : ∀ (i : Nat) (o : Oper), ops[i]? = some o → ∀ c, o.op ≠ .defer c) : ∀ (fuel : Nat) (listed : Array Bool) (a : Act) (w : World), wpAnyH P .any ops Q S fuel listed a w → wpAnyIn (rF r) 0 P .any ops Q fuel listed a w
  | 0, _, _, _, h => h
  | fuel + 1, listed, a, w, h => ⟨h.1, fun i hi => wpOp_in hno hnd (fun a' w' k => wpAnyH_in hno hnd fuel _ a' w' k.2) (h.2 i hi)⟩
end
section
variable {P : Program} {ops : Array Oper} {Q : Exit → Act → World → Prop} {n : Nat} {w0 : Base} {Lro L L' : List As} {F F' : List (Nat × Value)} {l : List Oper}
theorem wp_startI {id : Nat} {r : Option Nat} {l : List Oper} (hno : ∀ a w, ¬ Q .outgrown a w) (hnd : ndO l = true) (hm : P.follows .mixedOrders = true) {k : Nat} (hk : k = l.length) (h : ∀ a w, Frm n a F → Own w0 w L → wpAnyH P .any l.toArray Q (fun w => Own w0 w Lro) k (Array.replicate l.length false) a w) : OkI r P (.region id l.toArray true) Q n F w0 L := fun a w ha hw => by
  refine wpIn_region_any hm (wpAnyH_in (S := fun w => Own w0 w Lro) hno (fun i o ho => nd_at (ops := #[]) hnd i o (by simpa using ho)) _ _ _ _ ?_)
  rw [show l.toArray.size = l.length by simp, ← hk]
  subst hk
  exact h a w.drew ha hw.drew
theorem OkI.chainE {id : Nat} {r : Option Nat} (hno : ∀ a w, ¬ Q .outgrown a w) (hnd : ndO l = true) (es : List (Nat × Bool)) (hro : Lro.Sublist L) (hm : P.follows .mixedOrders = true) (hc : chkE l es = true) (hQ : ∀ c a d v w, Q (.panic c) (a.put d v) w → Q (.panic c) a w)
    (h : OkE P l.toArray Q n w0 Lro es F L) : OkI r P (.region id l.toArray true) Q n F w0 L := by
  simp only [chkE, Bool.and_eq_true] at hc
  obtain ⟨⟨⟨h1, h2⟩, h3⟩, h4⟩ := hc
  refine wp_startI hno hnd hm (Nat.eq_of_beq_eq_true h3) fun a w ha hw => walk_E h4 hQ es [] none _ a w F L h1 lst_start (fun i hi => ?_) hro ha hw h
  have := List.all_eq_true.1 h2 i (List.mem_range.2 hi)
  simpa using this
end
section
variable {P : Program} {ops : Array Oper} {Q : Exit → Act → World → Prop} {n : Nat} {w0 : Base} {Lro L L' : List As} {F F' : List (Nat × Value)} {l : List Oper} {N : List NewE} {e2 : List (Nat × Bool)}
theorem OkI.chainN {id : Nat} {r : Option Nat} (hno : ∀ a w, ¬ Q .outgrown a w) (hnd : ndO l = true) (e1 : List (Nat × Bool)) (N : List NewE) (e2 : List (Nat × Bool)) (hro : Lro.Sublist L) (hm : P.follows .mixedOrders = true) (hc : chkN l e1 N e2 = true) (hN : ∀ x ∈ N, NewOk P l n x) (hk0 : noK N F = true) (hQ : ∀ c a d v w, Q (.panic c) (a.put d v) w → Q (.panic c) a w)
    (h : OkN P l.toArray Q n w0 Lro N e2 e1 F L) : OkI r P (.region id l.toArray true) Q n F w0 L := by
  simp only [chkN, Bool.and_eq_true] at hc
  obtain ⟨⟨⟨⟨⟨⟨⟨⟨h1, h2⟩, h3⟩, h4⟩, h5⟩, h6⟩, h7⟩, h8⟩, h9⟩ := hc
  have hlen := Nat.eq_of_beq_eq_true h5
  have hdis : ∀ e ∈ e1, e.1 ∉ N.map (·.i) := fun e he => by
    have := List.all_eq_true.1 h9 e he
    simpa using this
  refine wp_startI (Lro := Lro) hno hnd hm (k := e1.length + e2.length + N.length) hlen fun a w ha hw => ?_
  refine walk_N ⟨hN, h6, nodupB_spec h7, nodupB_spec h8, fun x hx => List.all_eq_true.1 h2 x hx, h3⟩ hQ (e1.length + N.length) e1 [] none [] (fun _ => 0) _ a w F L N.length rfl (by simp) h1 rfl (fun x => ?_) hdis (by simp) (fun i hi => ?_) ⟨lst_start, by simp, List.nodup_nil, ha, by simp, by simpa [nL] using hw, hro, hk0⟩ h
  · rw [List.mem_append]
    refine or_congr Iff.rfl ⟨fun hx => .inr ?_, fun hx => ?_⟩
    · obtain ⟨e, he, rfl⟩ := List.mem_map.1 hx
      exact List.any_eq_true.2 ⟨e, he, by simp⟩
    · rcases hx with hx | hx
      · cases hx
      · obtain ⟨e, he, rfl⟩ := any_mem hx
        exact List.mem_map_of_mem he
  · have := List.all_eq_true.1 h4 i (List.mem_range.2 hi)
    rw [Bool.or_eq_true] at this
    rcases this with h | h
    · exact .inl (by simpa using h)
    · exact .inr (.inr h)
theorem iN {id : Nat} {r : Option Nat} (e1 : List (Nat × Bool)) (N : List NewE) (e2 : List (Nat × Bool)) (hro : Lro.Sublist L) (hc : chkN l e1 N e2 = true) (hQ : ∀ c a d v w, Q (.panic c) (a.put d v) w → Q (.panic c) a w) (hN : ∀ x ∈ N, NewOk Tryz.prog l n x) (hk0 : noK N F = true) (hno : ∀ a w, ¬ Q .outgrown a w) (hnd : ndO l = true) (h : OkN Tryz.prog l.toArray Q n w0 Lro N e2 e1 F L) : OkI r Tryz.prog (.region id l.toArray true) Q n F w0 L := OkI.chainN hno hnd e1 N e2 hro follows_mixed hc hN hk0 hQ h
end
end
end Go.Proofs.YtmjbiebmgffleaaGreatDoor
