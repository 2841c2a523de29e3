import Derived.Test.YtgiacpkjnikjdaaGreatPart31
namespace Go.Proofs.YtgiacpkjnikjdaaGreat
open Go Go.RowKit
set_option linter.unusedVariables false
set_option linter.unusedSimpArgs false
section
theorem sorted_ext {α : Type} {R : α → α → Prop} (ha : ∀ x y, R x y → ¬ R y x) {l l' : List α} (h : l.Pairwise R) (h' : l'.Pairwise R) (hm : ∀ x, x ∈ l ↔ x ∈ l') : l = l' := by
  have nd : ∀ {l : List α}, l.Pairwise R → l.Nodup := fun {l} h => h.imp fun {x y} hxy e => by subst e; exact ha _ _ hxy hxy
  exact List.Perm.eq_of_pairwise (le := R) (fun x y _ _ h1 h2 => absurd h2 (ha x y h1)) h h' ((List.perm_ext_iff_of_nodup (nd h) (nd h')).2 hm)
abbrev T3 := Nat × Nat × Nat
section
variable {ts ts' : List T3} {N : Nat}
theorem okT_ne {t : T3} (h : okT N t = true) : t.1 ≠ t.2.1 ∧ t.2.1 ≠ t.2.2 ∧ t.2.2 ≠ t.1 := by
  simp only [okT, Bool.and_eq_true, Bool.not_eq_true', decide_eq_false_iff_not, decide_eq_true_eq] at h
  exact ⟨h.1.1.2, h.1.2, h.2⟩
theorem dirE_neN (hn : numB N ts = true) {u : Nat} (hu : u < 3 * ts.length) : (dirE ts u).1 ≠ (dirE ts u).2 := by
  obtain ⟨hab, hbc, hca⟩ := okT_ne (numB_at hn (show u / 3 < ts.length by omega))
  have h3 : u % 3 = 0 ∨ u % 3 = 1 ∨ u % 3 = 2 := by omega
  unfold dirE
  rcases h3 with h3 | h3 | h3 <;> rw [h3]
  · exact hab
  · exact hbc
  · exact hca
theorem dirE_lt (hn : numB N ts = true) {u : Nat} (hu : u < 3 * ts.length) : (dirE ts u).1 < N ∧ (dirE ts u).2 < N := by
  have h := numB_at hn (show u / 3 < ts.length by omega)
  exact ⟨crT_lt h _, crT_lt h _⟩
theorem Fst.uniq {s a b : Nat} {y z : Int} (h : Fst ts s a b y) (k : Fst ts s a b z) : y = z := by
  rcases h with ⟨h1, h2⟩ | ⟨u, h1, h2, h3, h4⟩ <;> rcases k with ⟨k1, k2⟩ | ⟨v, k1, k2, k3, k4⟩
  · omega
  · exact absurd k3 (h2 v k1)
  · exact absurd h3 (k2 u h1)
  · rcases Nat.lt_trichotomy u v with h | h | h
    · exact absurd h3 (k4 u h)
    · rw [h2, k2, h]
    · exact absurd k3 (h4 v h)
theorem mem_edL (hn : numB N ts = true) (hN : N ≤ 4611686018427387904) {e : E4} : e ∈ edL ts ↔ EInv ts (3 * ts.length) (e.a, e.b) e := by
  have hd : ∀ u, u < 3 * ts.length → (dirE ts u).1 ≠ (dirE ts u).2 := fun u hu => dirE_neN hn hu
  refine ⟨fun h => edL_inv hn hN hd h, fun h => ?_⟩
  obtain ⟨i1, i2⟩ := edS_inv hd _ (Nat.le_refl _)
  cases hg : getM (edS ts (3 * ts.length)) (e.a, e.b) with
  | none =>
    obtain ⟨u, hu, hs⟩ := h.some
    have h3 := i2 _ hg h.lt u hu
    rcases hs with hs | hs
    · exact absurd hs h3.1
    · exact absurd hs h3.2
  | some e' =>
    have h3 := i1 _ _ hg
    have e1 : e' = e := by
      have a1 := h3.ea; have a2 := h3.eb; have a3 := h3.l.uniq h.l; have a4 := h3.r.uniq h.r
      cases e; cases e'; simp only at a1 a2 a3 a4; subst a1 a2 a3 a4; rfl
    rw [e1] at hg
    unfold edL
    exact (srtE_perm _).mem_iff.2 (List.mem_map.2 ⟨_, getM_mem hg, rfl⟩)
def LtE (x y : E4) : Prop := x.a < y.a ∨ (x.a = y.a ∧ x.b < y.b)
theorem LtE.asymm (x y : E4) (h : LtE x y) : ¬ LtE y x := by unfold LtE at *; omega
theorem edL_sorted (hn : numB N ts = true) (hN : N ≤ 4611686018427387904) : (edL ts).Pairwise LtE := by
  have h1 : OnceE ((edS ts (3 * ts.length)).map (·.2)) := once_vals (edS_ok hn hN _ (Nat.le_refl _)) (edS_ends ts _)
  have h2 : OnceE (edL ts) := (List.Perm.pairwise_iff (R := fun x y : E4 => ¬ (x.a = y.a ∧ x.b = y.b)) (fun h k => h ⟨k.1.symm, k.2.symm⟩) (srtE_perm _)).2 h1
  exact (List.Pairwise.and (srtE_sorted _) h2).imp fun {x y} h => by
    have h3 := leE_iff.1 h.1
    have h4 := h.2
    unfold LtE
    omega
def WayT (ts : List T3) (j a b : Nat) : Prop := ∃ r, r < 3 ∧ dirE ts (3 * j + r) = (a, b)
def FstT (ts : List T3) (n a b : Nat) (z : Int) : Prop := (z = -1 ∧ ∀ j, j < n → ¬ WayT ts j a b) ∨ ∃ j, j < n ∧ z = (j : Int) ∧ WayT ts j a b ∧ ∀ i, i < j → ¬ WayT ts i a b
theorem fst_tri {n a b : Nat} {z : Int} (h : Fst ts (3 * n) a b z) : FstT ts n a b z := by
  rcases h with ⟨h1, h2⟩ | ⟨u, h1, h2, h3, h4⟩
  · exact .inl ⟨h1, fun j hj ⟨r, hr, k⟩ => h2 _ (by omega) k⟩
  · exact .inr ⟨u / 3, by omega, h2, ⟨u % 3, by omega, by rw [show 3 * (u / 3) + u % 3 = u by omega]; exact h3⟩, fun i hi ⟨r, hr, k⟩ => h4 _ (by omega) k⟩
theorem fst_tri' {n a b : Nat} {z : Int} (h : FstT ts n a b z) : Fst ts (3 * n) a b z := by
  rcases h with ⟨h1, h2⟩ | ⟨j, h1, h2, ⟨r, hr, h3⟩, h4⟩
  · exact .inl ⟨h1, fun u hu k => h2 (u / 3) (by omega) ⟨u % 3, by omega, by rw [show 3 * (u / 3) + u % 3 = u by omega]; exact k⟩⟩
  · have key : ∀ m, m ≤ 3 → (∀ q, q < m → dirE ts (3 * j + q) ≠ (a, b)) ∨ ∃ q, q < m ∧ dirE ts (3 * j + q) = (a, b) ∧ ∀ p, p < q → dirE ts (3 * j + p) ≠ (a, b) := by
      intro m
      induction m with
      | zero => intro _; exact .inl fun q hq => absurd hq (Nat.not_lt_zero _)
      | succ m ih =>
        intro hm
        rcases ih (by omega) with h | ⟨q, h5, h6, h7⟩
        · by_cases k : dirE ts (3 * j + m) = (a, b)
          · exact .inr ⟨m, by omega, k, h⟩
          · refine .inl fun q hq => ?_
            rcases Nat.lt_or_ge q m with h8 | h8
            · exact h q h8
            · rw [show q = m by omega]; exact k
        · exact .inr ⟨q, by omega, h6, h7⟩
    rcases key 3 (Nat.le_refl _) with k | ⟨q, h5, h6, h7⟩
    · exact absurd h3 (k r hr)
    · refine .inr ⟨3 * j + q, by omega, by rw [h2]; congr 1; omega, h6, fun v hv k => ?_⟩
      rcases Nat.lt_or_ge v (3 * j) with h8 | h8
      · exact h4 (v / 3) (by omega) ⟨v % 3, by omega, by rw [show 3 * (v / 3) + v % 3 = v by omega]; exact k⟩
      · exact h7 (v - 3 * j) (by omega) (by rw [show 3 * j + (v - 3 * j) = v by omega]; exact k)
structure SameT (ts ts' : List T3) : Prop where
  len : ts.length = ts'.length
  way : ∀ j, j < ts.length → ∀ a b, WayT ts j a b ↔ WayT ts' j a b
theorem SameT.symm (h : SameT ts ts') : SameT ts' ts := ⟨h.len.symm, fun j hj a b => (h.way j (by rw [h.len]; exact hj) a b).symm⟩
theorem SameT.fst (h : SameT ts ts') {a b : Nat} {z : Int} (k : Fst ts (3 * ts.length) a b z) : Fst ts' (3 * ts'.length) a b z := by
  rw [← h.len]
  refine fst_tri' ?_
  rcases fst_tri k with ⟨h1, h2⟩ | ⟨j, h1, h2, h3, h4⟩
  · exact .inl ⟨h1, fun j hj k => h2 j hj ((h.way j hj a b).2 k)⟩
  · exact .inr ⟨j, h1, h2, (h.way j h1 a b).1 h3, fun i hi k => h4 i hi ((h.way i (by omega) a b).2 k)⟩
theorem SameT.inv (h : SameT ts ts') {e : E4} (k : EInv ts (3 * ts.length) (e.a, e.b) e) : EInv ts' (3 * ts'.length) (e.a, e.b) e := by
  obtain ⟨u, hu, hs⟩ := k.some
  refine ⟨k.ea, k.eb, k.lt, h.fst k.l, h.fst k.r, ?_⟩
  have key : ∀ a b, dirE ts u = (a, b) → ∃ v, v < 3 * ts'.length ∧ dirE ts' v = (a, b) := fun a b hd => by
    obtain ⟨r, hr, h3⟩ := (h.way (u / 3) (by omega) a b).1 ⟨u % 3, by omega, by rw [show 3 * (u / 3) + u % 3 = u by omega]; exact hd⟩
    exact ⟨3 * (u / 3) + r, by rw [← h.len]; omega, h3⟩
  rcases hs with hs | hs
  · obtain ⟨v, h1, h2⟩ := key _ _ hs; exact ⟨v, h1, .inl h2⟩
  · obtain ⟨v, h1, h2⟩ := key _ _ hs; exact ⟨v, h1, .inr h2⟩
theorem dirE_at {j r : Nat} (hr : r < 3) : dirE ts (3 * j + r) = (crT (ts.getD j (0, 0, 0)) r, crT (ts.getD j (0, 0, 0)) ((r + 1) % 3)) := by
  unfold dirE
  rw [show (3 * j + r) / 3 = j by omega, show (3 * j + r) % 3 = r by omega]
def keyU (ts : List T3) (u : Nat) : P2 := kyE (dirE ts u).1 (dirE ts u).2
def manS (ts : List T3) : Nat → List (P2 × Nat)
  | 0 => []
  | s + 1 => putM (manS ts s) (keyU ts s) ((getM (manS ts s) (keyU ts s)).getD 0 + 1)
def allK (ts : List T3) : List P2 := ts.flatMap fun t => [kyE t.1 t.2.1, kyE t.2.1 t.2.2, kyE t.2.2 t.1]
theorem manS_count (k : P2) : ∀ s, (getM (manS ts s) k).getD 0 = ((List.range s).map (keyU ts)).count k
  | 0 => rfl
  | s + 1 => by
    rw [manS, getM_put, List.range_succ, List.map_append, List.count_append, List.map_singleton, List.count_singleton]
    by_cases h : k = keyU ts s
    · subst h
      rw [if_pos rfl, Option.getD_some, manS_count _ s]; simp
    · rw [if_neg h, manS_count k s, if_neg (by simpa using fun e => h e.symm)]; rfl
theorem manS_succ {t i : Nat} (hi : i < 3) : manS ts (3 * t + i + 1) = putM (manS ts (3 * t + i)) (kyE (crT (ts.getD t (0, 0, 0)) i) (crT (ts.getD t (0, 0, 0)) ((i + 1) % 3))) ((getM (manS ts (3 * t + i)) (kyE (crT (ts.getD t (0, 0, 0)) i) (crT (ts.getD t (0, 0, 0)) ((i + 1) % 3)))).getD 0 + 1) := by
  rw [manS]
  unfold keyU
  rw [dirE_at hi]
theorem manS_le (s : Nat) (k : P2) : (getM (manS ts s) k).getD 0 ≤ s := by
  rw [manS_count]
  exact Nat.le_trans List.count_le_length (by simp)
theorem manS_ok (hn : numB N ts = true) (hN : N ≤ 4611686018427387904) : ∀ s, s ≤ 3 * ts.length → OkM okE (manS ts s)
  | 0, _ => OkM.nil
  | s + 1, hs => by
    obtain ⟨h1, h2⟩ := dirE_lt hn (show s < 3 * ts.length by omega)
    exact (manS_ok hn hN s (by omega)).put (okE_ky (Nat.lt_of_lt_of_le h1 hN) (Nat.lt_of_lt_of_le h2 hN))
theorem allK_range : (List.range (3 * ts.length)).map (keyU ts) = allK ts := by
  have key : ∀ n, n ≤ ts.length → (List.range (3 * n)).map (keyU ts) = allK (ts.take n) := by
    intro n
    induction n with
    | zero => intro _; rfl
    | succ n ih =>
      intro hn
      have e1 : List.range (3 * (n + 1)) = List.range (3 * n) ++ [3 * n, 3 * n + 1, 3 * n + 2] := by
        rw [show 3 * (n + 1) = 3 * n + 1 + 1 + 1 by omega, List.range_succ, List.range_succ, List.range_succ]; simp
      have e2 : ts.take (n + 1) = ts.take n ++ [ts.getD n (0, 0, 0)] := by
        rw [List.take_add_one, List.getElem?_eq_getElem (show n < ts.length by omega), List.getD, List.getElem?_eq_getElem (show n < ts.length by omega)]; rfl
      have k0 := dirE_at (ts := ts) (j := n) (show 0 < 3 by decide)
      have k1 := dirE_at (ts := ts) (j := n) (show 1 < 3 by decide)
      have k2 := dirE_at (ts := ts) (j := n) (show 2 < 3 by decide)
      rw [e1, e2, List.map_append, ih (by omega)]
      unfold allK
      rw [List.flatMap_append]
      congr 1
      simp only [List.map_cons, List.map_nil, List.flatMap_cons, List.flatMap_nil, List.append_nil, keyU]
      rw [show 3 * n = 3 * n + 0 by omega, k0, show 3 * n + 0 + 1 = 3 * n + 1 by omega, k1, show 3 * n + 0 + 2 = 3 * n + 2 by omega, k2]
      rfl
  have h := key ts.length (Nat.le_refl _)
  rwa [List.take_length] at h
def cntE (ts : List T3) (k : P2) : Nat := (getM (manS ts (3 * ts.length)) k).getD 0
theorem cntE_eq (k : P2) : cntE ts k = (allK ts).count k := by unfold cntE; rw [manS_count, allK_range]
def rimN (ts : List T3) (i : Nat) : List T3 := (((edL ts).take i).filter fun e => decide (cntE ts (e.a, e.b) = 1)).map fun e => (e.a, e.b, 0)
def rimL (ts : List T3) : List T3 := rimN ts (edL ts).length
theorem rimN_yes {i : Nat} (hi : i < (edL ts).length) (h : cntE ts (((edL ts).getD i ⟨0, 0, 0, 0⟩).a, ((edL ts).getD i ⟨0, 0, 0, 0⟩).b) = 1) : rimN ts (i + 1) = rimN ts i ++ [(((edL ts).getD i ⟨0, 0, 0, 0⟩).a, ((edL ts).getD i ⟨0, 0, 0, 0⟩).b, 0)] := by
  rw [List.getD, List.getElem?_eq_getElem hi] at h ⊢
  unfold rimN
  rw [List.take_add_one, List.getElem?_eq_getElem hi, List.filter_append, List.map_append]
  simp only [Option.toList_some, Option.getD_some] at h ⊢
  rw [List.filter_cons, if_pos (decide_eq_true h)]; rfl
theorem rimN_no {i : Nat} (hi : i < (edL ts).length) (h : ¬ cntE ts (((edL ts).getD i ⟨0, 0, 0, 0⟩).a, ((edL ts).getD i ⟨0, 0, 0, 0⟩).b) = 1) : rimN ts (i + 1) = rimN ts i := by
  rw [List.getD, List.getElem?_eq_getElem hi] at h
  unfold rimN
  rw [List.take_add_one, List.getElem?_eq_getElem hi, List.filter_append, List.map_append]
  simp only [Option.toList_some, Option.getD_some] at h ⊢
  rw [List.filter_cons, if_neg (by simpa using h)]; simp
theorem rimN_len (i : Nat) : (rimN ts i).length ≤ i := by
  unfold rimN
  rw [List.length_map]
  exact Nat.le_trans (List.length_filter_le _ _) (List.length_take_le _ _)
theorem mem_keys (hn : numB N ts = true) (hN : N ≤ 4611686018427387904) {a b : Nat} : (a, b) ∈ allK ts ↔ ∃ e ∈ edL ts, e.a = a ∧ e.b = b := by
  rw [← allK_range, List.mem_map]
  constructor
  · rintro ⟨u, hu, hk⟩
    have hu := List.mem_range.1 hu
    have hne := dirE_neN hn hu
    unfold keyU kyE at hk
    injection hk with h1 h2
    have hlt : a < b := by omega
    have hd : dirE ts u = (a, b) ∨ dirE ts u = (b, a) := by
      rcases Nat.lt_or_ge (dirE ts u).1 (dirE ts u).2 with h | h
      · exact .inl (Prod.ext (by omega) (by omega))
      · exact .inr (Prod.ext (by omega) (by omega))
    obtain ⟨i1, i2⟩ := edS_inv (fun u hu => dirE_neN hn hu) _ (Nat.le_refl _)
    cases hg : getM (edS ts (3 * ts.length)) (a, b) with
    | none =>
      have h3 := i2 _ hg hlt u hu
      rcases hd with hd | hd
      · exact absurd hd h3.1
      · exact absurd hd h3.2
    | some e =>
      have h3 := i1 _ _ hg
      refine ⟨e, ?_, h3.ea, h3.eb⟩
      unfold edL
      exact (srtE_perm _).mem_iff.2 (List.mem_map.2 ⟨_, getM_mem hg, rfl⟩)
  · rintro ⟨e, he, rfl, rfl⟩
    have h := (mem_edL hn hN).1 he
    obtain ⟨u, hu, hs⟩ := h.some
    have hlt := h.lt
    simp only at hlt hs
    refine ⟨u, List.mem_range.2 hu, ?_⟩
    unfold keyU kyE
    rcases hs with hs | hs <;> rw [hs] <;> exact Prod.ext (by simp only; omega) (by simp only; omega)
def LtS (x y : T3) : Prop := x.1 < y.1 ∨ (x.1 = y.1 ∧ x.2.1 < y.2.1)
theorem LtS.asymm (x y : T3) (h : LtS x y) : ¬ LtS y x := by unfold LtS at *; omega
theorem rimL_sorted (hn : numB N ts = true) (hN : N ≤ 4611686018427387904) : (rimL ts).Pairwise LtS := by
  unfold rimL rimN
  rw [List.pairwise_map, List.take_length]
  exact (edL_sorted hn hN).filter _
theorem mem_rimL (hn : numB N ts = true) (hN : N ≤ 4611686018427387904) {s : T3} : s ∈ rimL ts ↔ (allK ts).count (s.1, s.2.1) = 1 ∧ s.2.2 = 0 := by
  unfold rimL rimN
  rw [List.take_length, List.mem_map]
  constructor
  · rintro ⟨e, he, rfl⟩
    obtain ⟨h1, h2⟩ := List.mem_filter.1 he
    exact ⟨by rw [← cntE_eq]; exact of_decide_eq_true h2, rfl⟩
  · rintro ⟨h1, h2⟩
    have hm : (s.1, s.2.1) ∈ allK ts := List.count_pos_iff.1 (by omega)
    obtain ⟨e, he, ea, eb⟩ := (mem_keys hn hN).1 hm
    refine ⟨e, List.mem_filter.2 ⟨he, decide_eq_true (by rw [cntE_eq, ea, eb]; exact h1)⟩, ?_⟩
    exact Prod.ext ea (Prod.ext eb h2.symm)
end
end
section
abbrev E0 : E4 := ⟨0, 0, 0, 0⟩
def midS (N : Nat) (es : List E4) : Nat → List (P2 × Nat)
  | 0 => []
  | i + 1 => putM (midS N es i) (kyE (es.getD i E0).a (es.getD i E0).b) (N + i)
def sidS (N : Nat) (ss : List T3) : Nat → List (P2 × Nat)
  | 0 => []
  | k + 1 => if (ss.getD (ss.length - 1 - k) (0, 0, 0)).1 < N ∧ (ss.getD (ss.length - 1 - k) (0, 0, 0)).2.1 < N then putM (sidS N ss k) (kyE (ss.getD (ss.length - 1 - k) (0, 0, 0)).1 (ss.getD (ss.length - 1 - k) (0, 0, 0)).2.1) (ss.getD (ss.length - 1 - k) (0, 0, 0)).2.2 else sidS N ss k
def halS (N : Nat) (ss : List T3) (es : List E4) : Nat → List (P2 × Nat)
  | 0 => sidS N ss ss.length
  | i + 1 => putM (putM (halS N ss es i) (kyE (es.getD i E0).a (N + i)) ((getM (halS N ss es i) (kyE (es.getD i E0).a (es.getD i E0).b)).getD 0)) (kyE (es.getD i E0).b (N + i)) ((getM (halS N ss es i) (kyE (es.getD i E0).a (es.getD i E0).b)).getD 0)
def mrkV (N : Nat) (ss : List T3) (es : List E4) (a b : Nat) : Nat := (getM (halS N ss es es.length) (kyE a b)).getD 0
def mdE (ps : List Pt) (e : E4) : Pt := scaleP (cor ps e.a + cor ps e.b) (1 / 2)
def halN (ps : List Pt) (es : List E4) : Nat → List Pt
  | 0 => ps
  | i + 1 => halN ps es i ++ [mdE ps (es.getD i E0)]
def halP (ps : List Pt) (es : List E4) : List Pt := halN ps es es.length
def halX (N : Nat) (ss : List T3) (es : List E4) (ts : List T3) : List T3 := (rimL ts).map fun s => (s.1, s.2.1, mrkV N ss es s.1 s.2.1)
section
variable {N M i : Nat} {es : List E4} {ts : List T3} {t : T3} {ss rs : List T3} {ps : List Pt}
theorem take_succ_getD {α : Type} {l : List α} {d : α} {i : Nat} (h : i < l.length) : l.take (i + 1) = l.take i ++ [l.getD i d] := by
  rw [List.take_add_one, List.getElem?_eq_getElem h, List.getD, List.getElem?_eq_getElem h]; rfl
theorem edge_ends (hn : numB N ts = true) (hN : N ≤ 4611686018427387904) {e : E4} (he : e ∈ edL ts) : e.a < e.b ∧ e.b < N := by
  have h := (mem_edL hn hN).1 he
  obtain ⟨u, hu, hs⟩ := h.some
  have h2 := dirE_lt hn hu
  have hlt := h.lt
  simp only at hlt hs
  rcases hs with hs | hs <;> rw [hs] at h2 <;> simp only at h2 <;> omega
theorem edge_two (hn : numB N ts = true) (hN : N ≤ 4611686018427387904) : ∀ e ∈ edL ts, e.a < N ∧ e.b < N := fun e he => by
  have := edge_ends hn hN he; omega
theorem rimL_lt (hn : numB N ts = true) (hN : N ≤ 4611686018427387904) {s : T3} (hs : s ∈ rimL ts) : s.1 < N ∧ s.2.1 < N := by
  unfold rimL rimN at hs
  rw [List.take_length, List.mem_map] at hs
  obtain ⟨e, he, rfl⟩ := hs
  exact edge_two hn hN e (List.mem_filter.1 he).1
end
end
section
set_option maxRecDepth 100000
theorem clipS_ok (p : Option Addr) (n cp : Nat) (h : n ≤ cp) (w : World)  : Calls Tryz.prog 94 #[(Value.slice p n cp)] w (Gives w (Value.slice p n n)) := by
 refine calls_of (args := [(Value.slice p n cp)]) Tryz.func94 rfl rfl (leB rfl) (OkC.subF (sL [0] rfl) (q4 (asg' rfl (OkL.nil (q2 ?_)))))
 refine mv' rfl (mv' rfl (st' (v := (vN n)) (ex_len_slice rfl Tryz.underlying29) rfl (mv' rfl (st' (v := (vN n)) (ex_len_slice rfl Tryz.underlying29) rfl (st' (v := (Value.slice p n n)) (ex_slice_clip (m := n) rfl rfl rfl Tryz.underlying29 Tryz.sizeOf66 (by omega)) rfl ?_)))))
 exact asg' rfl (OkL.nil (OkQ.subF (sL [2] rfl) (OkQ.then_ (OkC.ret (ret_one rfl (rd_tmp (v := (Value.slice p n n)) rfl) (fun w hw => ⟨rfl, hw.out⟩))))))
end
end Go.Proofs.YtgiacpkjnikjdaaGreat
