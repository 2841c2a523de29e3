import Derived.Test.YtgiacpkjnikjdaaGreatPart06
import Derived.Test.YtgiacpkjnikjdaaGreatPart21
import Derived.Test.YtgiacpkjnikjdaaGreatPart22
import Derived.Test.YtgiacpkjnikjdaaGreatPart24
namespace Go.Proofs.YtgiacpkjnikjdaaGreat
open Go Go.RowKit
set_option linter.unusedVariables false
set_option linter.unusedSimpArgs false
theorem lt_or_leQ (a b : Rat) : a < b ∨ b ≤ a := by grind
def lnQ (A B : P2) (x y : Rat) : Rat := ((B.1 : Rat) - (A.1 : Rat)) * (y - (A.2 : Rat)) - ((B.2 : Rat) - (A.2 : Rat)) * (x - (A.1 : Rat))
def inO (t : P2 × P2 × P2) (x y : Rat) : Prop := 0 < lnQ t.2.1 t.2.2 x y ∧ 0 < lnQ t.2.2 t.1 x y ∧ 0 < lnQ t.1 t.2.1 x y
def inC (t : P2 × P2 × P2) (x y : Rat) : Prop := 0 ≤ lnQ t.2.1 t.2.2 x y ∧ 0 ≤ lnQ t.2.2 t.1 x y ∧ 0 ≤ lnQ t.1 t.2.1 x y
def Sep (s t : P2 × P2 × P2) : Prop := ∀ x y, (inO s x y → ¬ inC t x y) ∧ (inO t x y → ¬ inC s x y)
theorem cast_2 (u : Nat) : ((2 * u : Nat) : Rat) = 2 * (u : Rat) := by rw [Rat.natCast_mul]; rfl
theorem cast_22 (u : Nat) : ((2 * u + 2 : Nat) : Rat) = 2 * (u : Rat) + 2 := by rw [Rat.natCast_add, cast_2]; rfl
theorem cast_21 (u : Nat) : ((2 * u + 1 : Nat) : Rat) = 2 * (u : Rat) + 1 := by rw [Rat.natCast_add, cast_2]; rfl
theorem inO_box {t : P2 × P2 × P2} {nx way i u v : Nat} (hu : u = i % nx) (hv : v = i / nx) (ht : t ∈ cellT nx way i) (x y : Rat) :
    (inO t x y → (2 * (u : Rat) < x ∧ x < 2 * (u : Rat) + 2) ∧ 2 * (v : Rat) < y ∧ y < 2 * (v : Rat) + 2) ∧ (inC t x y → (2 * (u : Rat) ≤ x ∧ x ≤ 2 * (u : Rat) + 2) ∧ 2 * (v : Rat) ≤ y ∧ y ≤ 2 * (v : Rat) + 2) := by
  have key : t ∈ [((2*u, 2*v), (2*u + 2, 2*v), (2*u + 2, 2*v + 2)), ((2*u, 2*v), (2*u + 2, 2*v + 2), (2*u, 2*v + 2)), ((2*u, 2*v), (2*u + 2, 2*v), (2*u, 2*v + 2)), ((2*u + 2, 2*v), (2*u + 2, 2*v + 2), (2*u, 2*v + 2)),
      ((2*u, 2*v), (2*u + 2, 2*v), (2*u + 1, 2*v + 1)), ((2*u + 2, 2*v), (2*u + 2, 2*v + 2), (2*u + 1, 2*v + 1)), ((2*u + 2, 2*v + 2), (2*u, 2*v + 2), (2*u + 1, 2*v + 1)), ((2*u, 2*v + 2), (2*u, 2*v), (2*u + 1, 2*v + 1))] := by
    subst hu; subst hv
    unfold cellT at ht
    simp only at ht
    split at ht
    · simp only [List.mem_cons, List.not_mem_nil, or_false] at ht ⊢; rcases ht with h | h <;> simp [h]
    · split at ht
      · simp only [List.mem_cons, List.not_mem_nil, or_false] at ht ⊢; rcases ht with h | h <;> simp [h]
      · split at ht
        · simp only [List.mem_cons, List.not_mem_nil, or_false] at ht ⊢; rcases ht with h | h | h | h <;> simp [h]
        · cases ht
  clear hu hv ht
  simp only [List.mem_cons, List.not_mem_nil, or_false] at key
  rcases key with rfl | rfl | rfl | rfl | rfl | rfl | rfl | rfl <;> (simp only [inO, inC, lnQ, cast_2, cast_22, cast_21]; generalize (u : Rat) = U; generalize (v : Rat) = V; refine ⟨fun h => ?_, fun h => ?_⟩ <;> obtain ⟨h1, h2, h3⟩ := h <;> refine ⟨⟨?_, ?_⟩, ?_, ?_⟩ <;> grind)
theorem sep_cells {s t : P2 × P2 × P2} {nx way way' i j : Nat} (hij : i ≠ j) (hs : s ∈ cellT nx way i) (ht : t ∈ cellT nx way' j) : Sep s t := fun x y => by
  have a := inO_box rfl rfl hs x y
  have b := inO_box rfl rfl ht x y
  have hne : i % nx ≠ j % nx ∨ i / nx ≠ j / nx := by
    rcases Decidable.em (i % nx = j % nx) with e | e
    · rcases Decidable.em (i / nx = j / nx) with e2 | e2
      · exact absurd (by rw [← Nat.div_add_mod i nx, ← Nat.div_add_mod j nx, e, e2]) hij
      · exact .inr e2
    · exact .inl e
  have lt : ∀ {p q : Nat}, p < q → (p : Rat) + 1 ≤ (q : Rat) := fun {p q} h => by
    have h1 : ((p + 1 : Nat) : Rat) ≤ (q : Rat) := by exact_mod_cast h
    rw [Rat.natCast_add] at h1
    exact h1
  have four : (i % nx : Nat) + 1 ≤ j % nx ∨ (j % nx : Nat) + 1 ≤ i % nx ∨ (i / nx : Nat) + 1 ≤ j / nx ∨ (j / nx : Nat) + 1 ≤ i / nx := by omega
  revert a b
  rcases four with h | h | h | h <;> have h := lt h <;> generalize ((i % nx : Nat) : Rat) = A at * <;> generalize ((j % nx : Nat) : Rat) = B at * <;> generalize ((i / nx : Nat) : Rat) = C at * <;> generalize ((j / nx : Nat) : Rat) = D at * <;> intro a b <;> refine ⟨fun h1 h2 => ?_, fun h1 h2 => ?_⟩ <;>
    first
      | (have a1 := a.1 h1; have b1 := b.2 h2; obtain ⟨⟨_, _⟩, _, _⟩ := a1; obtain ⟨⟨_, _⟩, _, _⟩ := b1; grind)
      | (have a1 := a.2 h2; have b1 := b.1 h1; obtain ⟨⟨_, _⟩, _, _⟩ := a1; obtain ⟨⟨_, _⟩, _, _⟩ := b1; grind)
theorem sep_cell (nx way i : Nat) : (cellT nx way i).Pairwise Sep := by
  unfold cellT
  simp only
  generalize i % nx = u
  generalize i / nx = v
  split
  · refine List.pairwise_pair.2 fun x y => ?_
    simp only [inO, inC, lnQ, cast_2, cast_22]; generalize (u : Rat) = U; generalize (v : Rat) = V
    refine ⟨fun h k => ?_, fun h k => ?_⟩ <;> obtain ⟨h1, h2, h3⟩ := h <;> obtain ⟨k1, k2, k3⟩ := k <;> grind
  · split
    · refine List.pairwise_pair.2 fun x y => ?_
      simp only [inO, inC, lnQ, cast_2, cast_22]; generalize (u : Rat) = U; generalize (v : Rat) = V
      refine ⟨fun h k => ?_, fun h k => ?_⟩ <;> obtain ⟨h1, h2, h3⟩ := h <;> obtain ⟨k1, k2, k3⟩ := k <;> grind
    · split
      · simp only [List.pairwise_cons, List.mem_cons, List.not_mem_nil, or_false, forall_eq_or_imp, forall_eq, List.Pairwise.nil, and_true, false_implies, implies_true]
        refine ⟨⟨?_, ?_, ?_⟩, ⟨?_, ?_⟩, ?_⟩ <;> intro x y <;> simp only [inO, inC, lnQ, cast_2, cast_22, cast_21] <;> generalize (u : Rat) = U <;> generalize (v : Rat) = V <;> refine ⟨fun h k => ?_, fun h k => ?_⟩ <;> obtain ⟨h1, h2, h3⟩ := h <;> obtain ⟨k1, k2, k3⟩ := k <;> grind
      · exact List.Pairwise.nil
theorem mem_cellsN (m : MQ) : ∀ i t, t ∈ cellsN m i → ∃ j, j < i ∧ t ∈ cellT (nxM m) (wayM m j) j
  | 0, t, h => by cases h
  | i + 1, t, h => by
    rcases List.mem_append.1 h with h | h
    · obtain ⟨j, hj, h⟩ := mem_cellsN m i t h; exact ⟨j, by omega, h⟩
    · exact ⟨i, by omega, h⟩
theorem cellsN_sep (m : MQ) : ∀ i, (cellsN m i).Pairwise Sep
  | 0 => List.Pairwise.nil
  | i + 1 => List.pairwise_append.2 ⟨cellsN_sep m i, sep_cell _ _ _, fun s hs t ht => by
      obtain ⟨j, hj, h⟩ := mem_cellsN m i s hs
      exact sep_cells (by omega) h ht⟩
theorem cells_sep (m : MQ) {i j : Nat} (hi : i < (cellsM m).length) (hj : j < (cellsM m).length) (hne : i ≠ j) (d : P2 × P2 × P2) : ∀ x y, inO ((cellsM m).getD i d) x y → ¬ inC ((cellsM m).getD j d) x y := fun x y h => by
  have hp := List.pairwise_iff_getElem.1 (cellsN_sep m (nxM m * nyM m))
  rw [List.getD, List.getElem?_eq_getElem hi] at h
  rw [List.getD, List.getElem?_eq_getElem hj]
  rcases Nat.lt_or_gt_of_ne hne with hlt | hgt
  · exact (hp i j hi hj hlt x y).1 h
  · exact (hp j i hj hi hgt x y).2 h
theorem lattice {k : Map4} (h : k.Ok) (den : Nat) (q : Pt) : ∃ x y c : Rat, 0 < c ∧ ∀ A B : P2, turnP (ptOf (pdM k den A)) (ptOf (pdM k den B)) q = c * lnQ A B x y := by
  have hD : 0 < (((max den 1 : Nat) : Int) : Rat) := by exact_mod_cast (show (0 : Int) < ((max den 1 : Nat) : Int) by omega)
  have hd : (0 : Rat) < (k.det : Rat) := by exact_mod_cast h.pos
  have ed : (k.det : Rat) = (k.a : Rat) * (k.d : Rat) - (k.b : Rat) * (k.c : Rat) := by simp only [Map4.det, Rat.intCast_sub, Rat.intCast_mul]
  have hi := Rat.inv_pos.2 hD
  have he : ((((max den 1 : Nat) : Int) : Rat)⁻¹) * (((max den 1 : Nat) : Int) : Rat) = 1 := Rat.inv_mul_cancel _ (by grind)
  have hdi : ((k.det : Rat)⁻¹) * (k.det : Rat) = 1 := Rat.inv_mul_cancel _ (by grind)
  obtain ⟨qx, qy⟩ := q
  refine ⟨((k.d : Rat) * qx - (k.b : Rat) * qy) * (((max den 1 : Nat) : Int) : Rat) * (k.det : Rat)⁻¹, ((k.a : Rat) * qy - (k.c : Rat) * qx) * (((max den 1 : Nat) : Int) : Rat) * (k.det : Rat)⁻¹, (k.det : Rat) * ((((max den 1 : Nat) : Int) : Rat)⁻¹ * (((max den 1 : Nat) : Int) : Rat)⁻¹), Rat.mul_pos hd (Rat.mul_pos hi hi), fun A B => ?_⟩
  simp only [turn_def, ptOf, pdM, qOf, Map4.at_, lnQ, Rat.div_def, Rat.intCast_add, Rat.intCast_mul]
  rw [ed] at hdi ⊢
  clear hD hd hi ed
  generalize (((max den 1 : Nat) : Int) : Rat)⁻¹ = e at *
  generalize (((max den 1 : Nat) : Int) : Rat) = D at *
  simp only [Rat.intCast_natCast]
  generalize ((k.a : Rat) * (k.d : Rat) - (k.b : Rat) * (k.c : Rat))⁻¹ = f at *
  generalize (k.a : Rat) = a at *
  generalize (k.b : Rat) = b at *
  generalize (k.c : Rat) = c at *
  generalize (k.d : Rat) = d at *
  generalize (A.1 : Rat) = A1
  generalize (A.2 : Rat) = A2
  generalize (B.1 : Rat) = B1
  generalize (B.2 : Rat) = B2
  clear h
  have hx : qx = (a * ((d * qx - b * qy) * D * f) + b * ((a * qy - c * qx) * D * f)) * e := by grind
  have hy : qy = (c * ((d * qx - b * qy) * D * f) + d * ((a * qy - c * qx) * D * f)) * e := by grind
  generalize (d * qx - b * qy) * D * f = X at *
  generalize (a * qy - c * qx) * D * f = Y at *
  subst hx
  subst hy
  grind
theorem rowsL_at {α : Type} {enc : α → List Value} {z : Nat} (h : ∀ x, (enc x).length = z) (d : α) (xs : List α) (j r : Nat) (hj : j < xs.length) (hr : r < z) {v : Value} (hv : (enc (xs.getD j d))[r]? = some v) : (rowsL enc xs)[j * z + r]? = some v := by
  have h1 := rowsL_get h d xs j hj
  rw [← h1, List.getElem?_take_of_lt hr, List.getElem?_drop] at hv
  exact hv
theorem ptL_len (p : Pt) : (ptL p).length = 10 := rfl
structure TriP (ps : List Pt) (t : Nat × Nat × Nat) : Prop where
  a : t.1 < ps.length
  b : t.2.1 < ps.length
  c : t.2.2 < ps.length
  ab : t.1 ≠ t.2.1
  bc : t.2.1 ≠ t.2.2
  ca : t.2.2 ≠ t.1
  pos : 0 < turnP (ps.getD t.1 ⟨0, 0⟩) (ps.getD t.2.1 ⟨0, 0⟩) (ps.getD t.2.2 ⟨0, 0⟩)
def TriO (ps : List Pt) (t : Nat × Nat × Nat) (q : Pt) : Prop := 0 < turnP q (ps.getD t.2.1 ⟨0, 0⟩) (ps.getD t.2.2 ⟨0, 0⟩) ∧ 0 < turnP (ps.getD t.1 ⟨0, 0⟩) q (ps.getD t.2.2 ⟨0, 0⟩) ∧ 0 < turnP (ps.getD t.1 ⟨0, 0⟩) (ps.getD t.2.1 ⟨0, 0⟩) q
def TriC (ps : List Pt) (t : Nat × Nat × Nat) (q : Pt) : Prop := 0 ≤ turnP q (ps.getD t.2.1 ⟨0, 0⟩) (ps.getD t.2.2 ⟨0, 0⟩) ∧ 0 ≤ turnP (ps.getD t.1 ⟨0, 0⟩) q (ps.getD t.2.2 ⟨0, 0⟩) ∧ 0 ≤ turnP (ps.getD t.1 ⟨0, 0⟩) (ps.getD t.2.1 ⟨0, 0⟩) q
def denM (m : MQ) : Nat := 1 + m.den % 6
def gpt (m : MQ) (z : Int × Int) : PD := ⟨⟨z.1, denM m⟩, ⟨z.2, denM m⟩⟩
def psN (m : MQ) (zs : List (Int × Int)) (i : Nat) : List Pt := (zs.take i).map fun z => ptOf (gpt m z)
theorem psN_len {m : MQ} {zs : List (Int × Int)} {i : Nat} (h : i ≤ zs.length) : (psN m zs i).length = i := by simp [psN]; omega
theorem psN_succ {m : MQ} {zs : List (Int × Int)} {i : Nat} (h : i < zs.length) : psN m zs (i + 1) = psN m zs i ++ [ptOf (gpt m (zs.getD i (0, 0)))] := by
  unfold psN
  rw [List.take_add_one, List.getElem?_eq_getElem h, List.map_append, List.getD, List.getElem?_eq_getElem h]
  rfl
theorem psN_get {m : MQ} {zs : List (Int × Int)} {i : Nat} (h : i < zs.length) : (psN m zs zs.length).getD i ⟨0, 0⟩ = ptOf (gpt m (zs.getD i (0, 0))) := by
  unfold psN
  rw [List.take_length, List.getD, List.getElem?_map, List.getElem?_eq_getElem h, List.getD, List.getElem?_eq_getElem h]
  rfl
def zsM (m : MQ) (pl : List P2) : List (Int × Int) := pl.map fun p => (mapM m).at_ p
structure GoodM (ps : List Pt) (ts : List (Nat × Nat × Nat)) : Prop where
  ne : ts ≠ []
  tl : ts.length ≤ 36
  pl : ps.length ≤ 108
  sz : ∀ i, SzP (ps.getD i ⟨0, 0⟩) ≤ 4
  tri : ∀ j, j < ts.length → TriP ps (ts.getD j (0, 0, 0))
  apart : ∀ i j, i < ts.length → j < ts.length → i ≠ j → ∀ q, TriO ps (ts.getD i (0, 0, 0)) q → ¬ TriC ps (ts.getD j (0, 0, 0)) q
  lat : ∃ (m : MQ) (pl : List P2), WInv m (cellsM m).length pl ts ∧ Dst pl ∧ ps = psN m (zsM m pl) pl.length
structure MG where
  ps : List Pt
  ts : List (Nat × Nat × Nat)
  ss : List (Nat × Nat × Nat)
  good : GoodM ps ts
  sl : ss.length ≤ 108 * 108
  sd : ∃ m : MQ, ss = sidesW m ts ps.length ps.length
  a : RX (rowsL ptL ps) ps.length
  b : RX (rowsL t3L ts) ts.length
  c : RX (rowsL t3L ss) ss.length
def mgL (x : MG) : List Value := [x.a.val, x.b.val, x.c.val]
theorem mg_ro {x : MG} {y : As} (hy : y ∈ [x.a.row, x.b.row, x.c.row]) : y.ro = true := by
  simp only [List.mem_cons, List.not_mem_nil, or_false] at hy
  rcases hy with rfl | rfl | rfl <;> rfl
instance : Ref MG := ⟨fun x => aG (mgL x), fun x => [x.a.row, x.b.row, x.c.row], fun x y hy => mg_ro hy⟩
theorem roWb {S : Nat → Prop} {W w : World} {L : List As} {m : MQ} {x : WM m} (h : Ro (SL ⟨W, none⟩ S L) w x) : Holds w x.b.row ∧ ∀ b, x.b.row.foot = some b → W.heap.size ≤ b ∨ S b := by
  have h1 := h x.b.row (List.mem_cons_of_mem _ List.mem_cons_self)
  exact ⟨h1.1, fun b e => (h1.2 b e).2⟩
theorem zsM_get {m : MQ} {pl : List P2} {i : Nat} (h : i < pl.length) : (zsM m pl).getD i (0, 0) = (mapM m).at_ (pl.getD i (0, 0)) := by
  simp [zsM, List.getD, h]
theorem zs_ok {m : MQ} {pl : List P2} (hs : ∀ p ∈ pl, p.1 ≤ 6 ∧ p.2 ≤ 6) {i : Nat} (h : i < pl.length) : (gpt m ((zsM m pl).getD i (0, 0))).ok := by
  rw [zsM_get h]
  have hp := hs (pl.getD i (0, 0)) (by rw [List.getD, List.getElem?_eq_getElem h]; exact List.getElem_mem h)
  obtain ⟨⟨h1, h2⟩, h3, h4⟩ := at_small (map4_ok m.a m.b m.c m.d) hp
  have hd : denM m < 4294967296 := by unfold denM; omega
  have e : mapM m = map4 m.a m.b m.c m.d := rfl
  rw [← e] at h1 h2 h3 h4
  exact ⟨⟨by show -9223372036854775808 ≤ ((mapM m).at_ _).1; omega, by show ((mapM m).at_ _).1 < _; omega, hd⟩, ⟨by show -9223372036854775808 ≤ ((mapM m).at_ _).2; omega, by show ((mapM m).at_ _).2 < _; omega, hd⟩⟩
theorem turn2_cyc (a b c : P2) : turn2 b c a = turn2 a b c := by unfold turn2; grind
theorem turn2_same (a b : P2) : turn2 a a b = 0 ∧ turn2 a b b = 0 ∧ turn2 b a b = 0 := by unfold turn2; exact ⟨by grind, by grind, by grind⟩
theorem corn_turn {m : MQ} {t : Nat} (h : t < (cellsM m).length) : 0 < turn2 (cornM m t 0) (cornM m t 1) (cornM m t 2) := by
  have h1 := cellsM_ok m ((cellsM m).getD t ((0, 0), (0, 0), (0, 0))) (by rw [List.getD, List.getElem?_eq_getElem h]; exact List.getElem_mem h)
  unfold cornM rotM
  generalize (cellsM m).getD t ((0, 0), (0, 0), (0, 0)) = c at *
  generalize t * (m.fst / 3) = q at *
  have h0 := h1.1
  have e : (m.fst + q) % 3 = 0 ∨ (m.fst + q) % 3 = 1 ∨ (m.fst + q) % 3 = 2 := by omega
  rcases e with e | e | e
  · rw [show (0 + m.fst + q) % 3 = 0 by omega, show (1 + m.fst + q) % 3 = 1 by omega, show (2 + m.fst + q) % 3 = 2 by omega]
    exact h0
  · rw [show (0 + m.fst + q) % 3 = 1 by omega, show (1 + m.fst + q) % 3 = 2 by omega, show (2 + m.fst + q) % 3 = 0 by omega]
    show 0 < turn2 c.2.1 c.2.2 c.1
    rw [turn2_cyc]; exact h0
  · rw [show (0 + m.fst + q) % 3 = 2 by omega, show (1 + m.fst + q) % 3 = 0 by omega, show (2 + m.fst + q) % 3 = 1 by omega]
    show 0 < turn2 c.2.2 c.1 c.2.1
    rw [turn2_cyc c.2.1, turn2_cyc]; exact h0
theorem corn_in (m : MQ) (t : Nat) (x y : Rat) : (0 < lnQ (cornM m t 1) (cornM m t 2) x y → 0 < lnQ (cornM m t 2) (cornM m t 0) x y → 0 < lnQ (cornM m t 0) (cornM m t 1) x y → inO ((cellsM m).getD t ((0, 0), (0, 0), (0, 0))) x y) ∧
    (0 ≤ lnQ (cornM m t 1) (cornM m t 2) x y → 0 ≤ lnQ (cornM m t 2) (cornM m t 0) x y → 0 ≤ lnQ (cornM m t 0) (cornM m t 1) x y → inC ((cellsM m).getD t ((0, 0), (0, 0), (0, 0))) x y) := by
  unfold cornM rotM
  generalize (cellsM m).getD t ((0, 0), (0, 0), (0, 0)) = c at *
  generalize t * (m.fst / 3) = q at *
  have e : (m.fst + q) % 3 = 0 ∨ (m.fst + q) % 3 = 1 ∨ (m.fst + q) % 3 = 2 := by omega
  rcases e with e | e | e
  · rw [show (0 + m.fst + q) % 3 = 0 by omega, show (1 + m.fst + q) % 3 = 1 by omega, show (2 + m.fst + q) % 3 = 2 by omega]
    exact ⟨fun a b c => ⟨a, b, c⟩, fun a b c => ⟨a, b, c⟩⟩
  · rw [show (0 + m.fst + q) % 3 = 1 by omega, show (1 + m.fst + q) % 3 = 2 by omega, show (2 + m.fst + q) % 3 = 0 by omega]
    exact ⟨fun a b c => ⟨c, a, b⟩, fun a b c => ⟨c, a, b⟩⟩
  · rw [show (0 + m.fst + q) % 3 = 2 by omega, show (1 + m.fst + q) % 3 = 0 by omega, show (2 + m.fst + q) % 3 = 1 by omega]
    exact ⟨fun a b c => ⟨b, c, a⟩, fun a b c => ⟨b, c, a⟩⟩
theorem pos_of {c z : Rat} (hc : 0 < c) (h : 0 < c * z) : 0 < z := by
  rcases lt_or_leQ 0 z with h1 | h1
  · exact h1
  · have := Rat.mul_nonneg (show 0 ≤ c by grind) (show 0 ≤ -z by grind)
    grind
theorem nn_of {c z : Rat} (hc : 0 < c) (h : 0 ≤ c * z) : 0 ≤ z := by
  rcases lt_or_leQ z 0 with h1 | h1
  · have := Rat.mul_pos hc (show 0 < -z by grind)
    grind
  · exact h1
theorem good_of {m : MQ} (x : WM m) {ps : List Pt} (h : ps = psN m (zsM m x.pl) x.pl.length) : GoodM ps x.ts := by
  have hz : (zsM m x.pl).length = x.pl.length := by simp [zsM]
  rw [← hz] at h
  have hl : ps.length = x.pl.length := by rw [h, psN_len (Nat.le_refl _), hz]
  have hg : ∀ i, i < x.pl.length → ps.getD i ⟨0, 0⟩ = ptOf (pdM (mapM m) (denM m) (x.pl.getD i (0, 0))) := fun i hi => by
    rw [h, psN_get (by rw [hz]; exact hi), zsM_get hi]; rfl
  have hi := x.inv
  have hcl := cellsM_len m
  refine ⟨fun e => cellsM_ne m (List.eq_nil_of_length_eq_zero (by rw [← hi.tl, e]; rfl)), by rw [hi.tl]; exact hcl, by rw [hl]; have := hi.pll; omega, fun i => ?_, fun j hj => ?_, fun i j hi1 hj1 hne q ho hcl2 => ?_, ⟨m, x.pl, x.inv, x.dst, by rw [h, hz]⟩⟩
  · rcases Nat.lt_or_ge i x.pl.length with h1 | h1
    · have hok := zs_ok (m := m) hi.small h1
      rw [hg i h1]
      have := SzP_ptOf hok
      rw [zsM_get h1] at this
      exact this
    · rw [List.getD, List.getElem?_eq_none (by rw [hl]; exact h1)]; decide +kernel
  · rw [hi.tl] at hj
    have ht := hi.at_ j hj
    have hc := corn_turn hj
    have hp := turn_pt (map4_ok m.a m.b m.c m.d) (denM m) hc
    obtain ⟨⟨a1, a2⟩, ⟨b1, b2⟩, ⟨c1, c2⟩⟩ := ht
    refine ⟨by rw [hl]; exact a1, by rw [hl]; exact b1, by rw [hl]; exact c1, fun e => ?_, fun e => ?_, fun e => ?_, ?_⟩
    · rw [e, b2] at a2; rw [← a2, (turn2_same _ _).1] at hc; omega
    · rw [e, c2] at b2; rw [← b2, (turn2_same _ _).2.1] at hc; omega
    · rw [e, a2] at c2; rw [← c2, (turn2_same _ _).2.2] at hc; omega
    · rw [hg _ a1, hg _ b1, hg _ c1, a2, b2, c2]; exact hp
  · rw [hi.tl] at hi1 hj1
    obtain ⟨x', y', c, hc, key⟩ := lattice (map4_ok m.a m.b m.c m.d) (denM m) q
    obtain ⟨⟨a1, a2⟩, ⟨b1, b2⟩, ⟨c1, c2⟩⟩ := hi.at_ i hi1
    obtain ⟨⟨d1, d2⟩, ⟨e1, e2⟩, ⟨f1, f2⟩⟩ := hi.at_ j hj1
    obtain ⟨o1, o2, o3⟩ := ho
    obtain ⟨k1, k2, k3⟩ := hcl2
    rw [hg _ b1, hg _ c1, b2, c2, ← turn_cyc, show mapM m = map4 m.a m.b m.c m.d from rfl, key] at o1
    rw [hg _ a1, hg _ c1, a2, c2, turn_cyc, show mapM m = map4 m.a m.b m.c m.d from rfl, key] at o2
    rw [hg _ a1, hg _ b1, a2, b2, show mapM m = map4 m.a m.b m.c m.d from rfl, key] at o3
    rw [hg _ e1, hg _ f1, e2, f2, ← turn_cyc, show mapM m = map4 m.a m.b m.c m.d from rfl, key] at k1
    rw [hg _ d1, hg _ f1, d2, f2, turn_cyc, show mapM m = map4 m.a m.b m.c m.d from rfl, key] at k2
    rw [hg _ d1, hg _ e1, d2, e2, show mapM m = map4 m.a m.b m.c m.d from rfl, key] at k3
    exact cells_sep m hi1 hj1 hne _ x' y' ((corn_in m i x' y').1 (pos_of hc o1) (pos_of hc o2) (pos_of hc o3)) ((corn_in m j x' y').2 (nn_of hc k1) (nn_of hc k2) (nn_of hc k3))
def LatM (m : MQ) (ps : List Pt) (ts : List (Nat × Nat × Nat)) : Prop := ∃ pl : List P2, WInv m (cellsM m).length pl ts ∧ Dst pl ∧ ps = psN m (zsM m pl) pl.length
theorem latM_of {m : MQ} (x : WM m) {ps : List Pt} (h : ps = psN m (zsM m x.pl) x.pl.length) : LatM m ps x.ts := ⟨x.pl, x.inv, x.dst, h⟩
structure MF (m : MQ) where
  g : MG
  lat : LatM m g.ps g.ts
instance {m : MQ} : Ref (MF m) := ⟨fun x => aG (mgL x.g), fun x => [x.g.a.row, x.g.b.row, x.g.c.row], fun x y hy => mg_ro hy⟩
theorem GivesR.ofMF {m : MQ} {S : Nat → Prop} {W w : World} {e : Ending} (h : GivesR (MF m) S W e w) : GivesR MG S W e w := by
  obtain ⟨a, h1, h2, h3⟩ := h
  exact ⟨a.g, h1, h2, h3⟩
structure MGF (m : MQ) where
  f : MF m
  ob : OwnOk f.g.b.p f.g.ts.length f.g.b.c
  da : ∀ x, f.g.b.p.map (·.block) = some x → f.g.a.p.map (·.block) ≠ some x
  dc : ∀ x, f.g.b.p.map (·.block) = some x → f.g.c.p.map (·.block) ≠ some x
def mgfR {m : MQ} (y : MGF m) : As := rowF y.f.g.b.p 45 3 y.f.g.ts.length y.f.g.b.c (rowsL t3L y.f.g.ts)
instance {m : MQ} : Ref (MGF m) := ⟨fun y => aG (mgL y.f.g), fun y => [y.f.g.a.row, y.f.g.b.row, y.f.g.c.row, mgfR y], fun x y hy => by
  simp only [List.mem_cons, List.not_mem_nil, or_false] at hy
  rcases hy with rfl | rfl | rfl | rfl <;> rfl⟩
theorem retMGF {m : MQ} {W w : World} {L : List As} (hw : Own ⟨W, none⟩ w L) (x : MGF m) (h1 : Holds w x.f.g.a.row ∧ ∀ b, x.f.g.a.row.foot = some b → W.heap.size ≤ b ∨ False) (h2 : Holds w x.f.g.b.row ∧ ∀ b, x.f.g.b.row.foot = some b → W.heap.size ≤ b ∨ False) (h3 : Holds w x.f.g.c.row ∧ ∀ b, x.f.g.c.row.foot = some b → W.heap.size ≤ b ∨ False) (h4 : Holds w (mgfR x) ∧ ∀ b, (mgfR x).foot = some b → W.heap.size ≤ b ∨ False) {v : Value} (hv : v = aG (mgL x.f.g)) : GivesR (MGF m) (fun _ => False) W (.returned v) w := by
  refine ⟨x, by rw [hv]; rfl, hw.out, fun y hy => ?_⟩
  have hy : y ∈ [x.f.g.a.row, x.f.g.b.row, x.f.g.c.row, mgfR x] := hy
  simp only [List.mem_cons, List.not_mem_nil, or_false] at hy
  rcases hy with rfl | rfl | rfl | rfl
  · exact h1
  · exact h2
  · exact h3
  · exact h4
theorem GivesR.ofMGF {m : MQ} {S : Nat → Prop} {W w : World} {e : Ending} (h : GivesR (MGF m) (fun _ => False) W e w) : GivesR (MF m) S W e w := by
  obtain ⟨a, h1, h2, h3⟩ := h
  refine ⟨a.f, h1, h2, fun y hy => ?_⟩
  have h4 := h3 y (by
    have hy : y ∈ [a.f.g.a.row, a.f.g.b.row, a.f.g.c.row] := hy
    show y ∈ [a.f.g.a.row, a.f.g.b.row, a.f.g.c.row, mgfR a]
    simp only [List.mem_cons, List.not_mem_nil, or_false] at hy ⊢
    rcases hy with rfl | rfl | rfl <;> simp)
  exact ⟨h4.1, fun b e => (h4.2 b e).imp id fun k => k.elim⟩
section
set_option maxRecDepth 100000
theorem QOf_ok (q : QD) (h : q.ok) (w : World)  : Calls Tryz.prog 108 #[(aG (qdL q))] w (Gives w (aG (fracL (qOf q)))) := by
 obtain ⟨h1, h2, h3⟩ := h
 refine calls_of (args := [(aG (qdL q))]) Tryz.func108 rfl rfl (leB rfl) (OkC.subF (sL [0] rfl) (q4 (bx' (cs := qdL q) rfl fun b1 => al tZ81 rfl fun b2 => q3 (sL [1, 2] rfl) (st' (v := (pP b1 0)) (ex_fieldAddr rfl Tryz.underlying108 rfl Tryz.sizeOf2 rfl) rfl (ldO' 1 (vI q.n) tO2 rfl (st' (v := (pP b1 1)) (ex_fieldAddr rfl Tryz.underlying108 rfl Tryz.sizeOf105 rfl) rfl (ldO' 1 (vK .u32 q.d) tO105 rfl (st' (ex_max (c := ((max q.d 1 : Nat) : Int)) rfl rfl (by split <;> omega)) rfl (st' (ex_conv (c := ((max q.d 1 : Nat) : Int)) rfl Tryz.underlying105 Tryz.underlying2 (convN_i64 (by omega))) rfl ?_)))))))))
 refine ck' Tryz.call154 (fOf_ok (q.n : Int) ((max q.d 1 : Nat) : Int) (by omega) (by omega) (by omega) (by omega) (by omega)) rfl (mv' rfl (st' (ex_extract (v := (aG (fracL (((q.n : Int) : Rat) / (((max q.d 1 : Nat) : Int) : Rat))))) rfl rfl) rfl (st' (ex_extract (v := (vI 0)) rfl rfl) rfl (al tZ81 rfl fun b3 => stW0' rfl Tryz.sizeOf81 rfl (asg' rfl (q3 (sL [2, 3] rfl) (ldW' 0 tA81 rfl (stW1' rfl Tryz.sizeOf81 rfl (OkL.nil (OkQ.subF (sL [2, 3] rfl) ?_))))))))))
 exact OkQ.then_ (OkC.ret (ret_one rfl (rd_agg (i := 1) (cs := fracL (((q.n : Int) : Rat) / (((max q.d 1 : Nat) : Int) : Rat))) rfl rfl Tryz.isAgg81 Tryz.sizeOf81 rfl) (fun w hw => ⟨rfl, hw.out⟩)))
theorem fill_numzb_83_0fracL_1fracL (x0 : Rat) (x1 : Rat) : Instr.fill ([(0, 5), (5, 5)].toArray[·]?) (ptL (⟨0, 0⟩ : Pt)).toArray [(0, .agg (fracL x0).toArray), (1, .agg (fracL x1).toArray)] = some (fracL x0 ++ fracL x1).toArray := by kernel_rfl
theorem POf_ok (p : PD) (h : p.ok) (w : World)  : Calls Tryz.prog 46 #[(aG (pdL p))] w (Gives w (aG (ptL (ptOf p)))) := by
 have h1 := h.1
 have h2 := h.2
 refine calls_of (args := [(aG (pdL p))]) Tryz.func46 rfl rfl (leB rfl) (OkC.subF (sL [0] rfl) (q4 (bx' (cs := pdL p) rfl fun b1 => al tZ83 rfl fun b2 => q6 (sL [1, 2] rfl) (rG' [(0, true), (1, true), (3, true), (4, true), (2, false), (5, false), (6, true), (7, false)] (sl sr) (pE' (v := (pP b1 0)) rfl (ex_fieldAddr rfl Tryz.underlying110 rfl Tryz.sizeOf108 rfl) (pA' 0 (qdL p.x) tA108 rfl (pE' (v := (pP b1 2)) rfl (ex_fieldAddr rfl Tryz.underlying110 rfl Tryz.sizeOf108 rfl) (pA' 0 (qdL p.y) tA108 rfl (OkE.imp rfl ?_)))))))))
 refine ck' Tryz.call108 (QOf_ok p.x (by assumption)) rfl (OkE.back (sl sr) (OkE.imp rfl (ck' Tryz.call108 (QOf_ok p.y (by assumption)) rfl (OkE.back (sl sr) (pE' (v := (aG (fracL (qOf p.x) ++ fracL (qOf p.y)))) rfl (ex_build_struct (zs := ptL (⟨0, 0⟩ : Pt)) (vs := fracL (qOf p.x) ++ fracL (qOf p.y)) (pv := [(0, (aG (fracL (qOf p.x)))), (1, (aG (fracL (qOf p.y))))]) (places := [(0, 5), (5, 5)]) Tryz.zeroValue83 Tryz.underlying83 (fun w => by simp [Tryz.sizeOf81]) rfl (fill_numzb_83_0fracL_1fracL (qOf p.x) (qOf p.y))) (OkE.imp rfl (stW0' rfl Tryz.sizeOf83 rfl (OkE.back (sl sr) (OkE.nil (OkQ.subF (sL [2] rfl) (OkQ.then_ ?_)))))))))))
 exact OkC.ret (ret_one rfl (rd_agg (i := 0) (cs := fracL (qOf p.x) ++ fracL (qOf p.y)) rfl rfl Tryz.isAgg83 Tryz.sizeOf83 rfl) (fun w hw => ⟨rfl, hw.out⟩))
end
end Go.Proofs.YtgiacpkjnikjdaaGreat
