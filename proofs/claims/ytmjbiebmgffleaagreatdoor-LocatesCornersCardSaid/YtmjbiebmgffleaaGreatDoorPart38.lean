import Derived.Test.YtmjbiebmgffleaaGreatDoorPart27
import Derived.Test.YtmjbiebmgffleaaGreatDoorPart33
namespace Go.Proofs.YtmjbiebmgffleaaGreatDoor
open Go Go.RowKit
set_option linter.unusedVariables false
set_option linter.unusedSimpArgs false
abbrev T2 := P2 × P2 × P2
def lnZ (A B : P2) (X Y : Nat) : Int := ((B.1 : Int) - A.1) * ((Y : Int) - 2 * A.2) - ((B.2 : Int) - A.2) * ((X : Int) - 2 * A.1)
def inZ (t : T2) (X Y : Nat) : Bool := decide (0 ≤ lnZ t.2.1 t.2.2 X Y) && decide (0 ≤ lnZ t.2.2 t.1 X Y) && decide (0 ≤ lnZ t.1 t.2.1 X Y)
def cornB (t : T2) (q : P2) : Bool := t.1 == q || t.2.1 == q || t.2.2 == q
def shpT (u v c : Nat) : List T2 :=
  let x := 2 * u; let y := 2 * v
  if c = 0 then [((x, y), (x + 2, y), (x + 2, y + 2)), ((x, y), (x + 2, y + 2), (x, y + 2))]
  else if c = 1 then [((x, y), (x + 2, y), (x, y + 2)), ((x + 2, y), (x + 2, y + 2), (x, y + 2))]
  else if c = 2 then [((x, y), (x + 2, y), (x + 1, y + 1)), ((x + 2, y), (x + 2, y + 2), (x + 1, y + 1)), ((x + 2, y + 2), (x, y + 2), (x + 1, y + 1)), ((x, y + 2), (x, y), (x + 1, y + 1))] else []
def clsT (way i : Nat) : Nat := if way < 3 ∨ (way = 7 ∧ i = 0) then 0 else if way < 5 then 1 else if way < 7 then 2 else 3
theorem cellT_shp (nx way i : Nat) : cellT nx way i = shpT (i % nx) (i / nx) (clsT way i) := by
  unfold cellT shpT clsT
  simp only
  split
  · rfl
  · split
    · rfl
    · split <;> rfl
theorem clsT_lt (way i : Nat) : clsT way i < 4 := by
  unfold clsT
  split
  · omega
  · split
    · omega
    · split <;> omega
def okPair (s t : T2) : Bool :=
  [s.1, s.2.1, s.2.2].all (fun q => !inZ t (2 * q.1) (2 * q.2) || cornB t q) &&
  [(s.1, s.2.1), (s.2.1, s.2.2), (s.2.2, s.1)].all (fun e => !inZ t (e.1.1 + e.2.1) (e.1.2 + e.2.2) || (cornB t e.1 && cornB t e.2))
def allCells : List (Nat × Nat × Nat) := [0, 1, 2].flatMap fun u => [0, 1, 2].flatMap fun v => [0, 1, 2, 3].map fun c => (u, v, c)
def okAll : Bool := allCells.all fun p => allCells.all fun q => (decide (p.1 = q.1 ∧ p.2.1 = q.2.1 ∧ p.2.2 ≠ q.2.2)) || (shpT p.1 p.2.1 p.2.2).all fun s => (shpT q.1 q.2.1 q.2.2).all fun t => okPair s t
theorem okAll_true : okAll = true := by decide +kernel
theorem mem_allCells {u v c : Nat} (hu : u ≤ 2) (hv : v ≤ 2) (hc : c < 4) : (u, v, c) ∈ allCells := by
  have h1 : u = 0 ∨ u = 1 ∨ u = 2 := by omega
  have h2 : v = 0 ∨ v = 1 ∨ v = 2 := by omega
  have h3 : c = 0 ∨ c = 1 ∨ c = 2 ∨ c = 3 := by omega
  rcases h1 with rfl | rfl | rfl <;> rcases h2 with rfl | rfl | rfl <;> rcases h3 with rfl | rfl | rfl | rfl <;> decide
theorem pair_ok {m : MQ} {s t : T2} (hs : s ∈ cellsM m) (ht : t ∈ cellsM m) : okPair s t = true := by
  obtain ⟨i, hi, h1⟩ := mem_cellsN m _ s hs
  obtain ⟨j, hj, h2⟩ := mem_cellsN m _ t ht
  have hx := nxM_le m
  have hy := nyM_le m
  have b : ∀ k, k < nxM m * nyM m → k % nxM m ≤ 2 ∧ k / nxM m ≤ 2 := fun k hk => by
    have a1 := Nat.mod_lt k (show 0 < nxM m by omega)
    have a2 : k / nxM m < nyM m := Nat.div_lt_of_lt_mul hk
    omega
  rw [cellT_shp] at h1 h2
  have h := List.all_eq_true.1 (List.all_eq_true.1 okAll_true _ (mem_allCells (b i hi).1 (b i hi).2 (clsT_lt (wayM m i) i))) _ (mem_allCells (b j hj).1 (b j hj).2 (clsT_lt (wayM m j) j))
  rw [Bool.or_eq_true, decide_eq_true_eq] at h
  rcases h with ⟨e1, e2, e3⟩ | h
  · exfalso
    have e : i = j := by rw [← Nat.div_add_mod i (nxM m), ← Nat.div_add_mod j (nxM m), show i % nxM m = j % nxM m from e1, show i / nxM m = j / nxM m from e2]
    subst e
    exact e3 rfl
  · exact List.all_eq_true.1 (List.all_eq_true.1 h s h1) t h2
theorem lnQ_half (A B : P2) (X Y : Nat) : lnQ A B ((X : Rat) * (1 / 2)) ((Y : Rat) * (1 / 2)) = ((lnZ A B X Y : Int) : Rat) * (1 / 2) := by
  simp only [lnQ, lnZ, Rat.intCast_sub, Rat.intCast_mul, Rat.intCast_natCast, show ((2 : Int) : Rat) = 2 from rfl]
  grind
theorem inZ_of {t : T2} {X Y : Nat} (h : inC t ((X : Rat) * (1 / 2)) ((Y : Rat) * (1 / 2))) : inZ t X Y = true := by
  obtain ⟨h1, h2, h3⟩ := h
  rw [lnQ_half] at h1 h2 h3
  have c : ∀ z : Int, 0 ≤ (z : Rat) * (1 / 2) → 0 ≤ z := fun z hz => by
    have : (0 : Rat) ≤ (z : Rat) := by grind
    exact_mod_cast this
  simp only [inZ, Bool.and_eq_true, decide_eq_true_eq]
  exact ⟨⟨c _ h1, c _ h2⟩, c _ h3⟩
theorem corn_of {t : T2} {q : P2} (h : cornB t q = true) : ∃ r, r < 3 ∧ comp t r = q := by
  simp only [cornB, Bool.or_eq_true, beq_iff_eq] at h
  rcases h with (h | h) | h
  · exact ⟨0, by omega, h⟩
  · exact ⟨1, by omega, h⟩
  · exact ⟨2, by omega, h⟩
theorem comp_mem (t : T2) {r : Nat} (h : r < 3) : comp t r ∈ [t.1, t.2.1, t.2.2] := by
  have : r = 0 ∨ r = 1 ∨ r = 2 := by omega
  rcases this with rfl | rfl | rfl <;> simp [comp]
theorem conf_corner {m : MQ} {s t : T2} (hs : s ∈ cellsM m) (ht : t ∈ cellsM m) {r : Nat} (hr : r < 3) (h : inC t ((comp s r).1 : Rat) ((comp s r).2 : Rat)) : ∃ k, k < 3 ∧ comp t k = comp s r := by
  have hp := pair_ok hs ht
  unfold okPair at hp
  rw [Bool.and_eq_true] at hp
  have h1 := List.all_eq_true.1 hp.1 _ (comp_mem s hr)
  have h2 : inZ t (2 * (comp s r).1) (2 * (comp s r).2) = true := inZ_of (by
    rw [cast_2, cast_2, show 2 * ((comp s r).1 : Rat) * (1 / 2) = ((comp s r).1 : Rat) by grind, show 2 * ((comp s r).2 : Rat) * (1 / 2) = ((comp s r).2 : Rat) by grind]
    exact h)
  rw [h2] at h1
  exact corn_of (by simpa using h1)
theorem conf_mid {m : MQ} {s t : T2} (hs : s ∈ cellsM m) (ht : t ∈ cellsM m) {r : Nat} (hr : r < 3) (h : inC t ((((comp s r).1 + (comp s ((r + 1) % 3)).1 : Nat) : Rat) * (1 / 2)) ((((comp s r).2 + (comp s ((r + 1) % 3)).2 : Nat) : Rat) * (1 / 2))) :
    (∃ k, k < 3 ∧ comp t k = comp s r) ∧ ∃ k, k < 3 ∧ comp t k = comp s ((r + 1) % 3) := by
  have hp := pair_ok hs ht
  unfold okPair at hp
  rw [Bool.and_eq_true] at hp
  have hm : (comp s r, comp s ((r + 1) % 3)) ∈ [(s.1, s.2.1), (s.2.1, s.2.2), (s.2.2, s.1)] := by
    have : r = 0 ∨ r = 1 ∨ r = 2 := by omega
    rcases this with rfl | rfl | rfl <;> simp [comp]
  have h1 := List.all_eq_true.1 hp.2 _ hm
  rw [inZ_of h] at h1
  have h2 : cornB t (comp s r) = true ∧ cornB t (comp s ((r + 1) % 3)) = true := by simpa using h1
  exact ⟨corn_of h2.1, corn_of h2.2⟩
section
theorem rowsL_part {α : Type} {enc : α → List Value} {z : Nat} (h : ∀ x, (enc x).length = z) (d : α) (xs : List α) (j r k : Nat) (hj : j < xs.length) (hr : r + k ≤ z) {vs : List Value} (hv : ((enc (xs.getD j d)).drop r).take k = vs) : ((rowsL enc xs).drop (j * z + r)).take k = vs := by
  have h1 := rowsL_get h d xs j hj
  rw [← hv, ← h1, List.drop_take, List.take_take, List.drop_drop, Nat.min_eq_left (by omega)]
def PS4 : List Pt := [⟨0, 0⟩, ⟨1, 0⟩, ⟨1, 1⟩, ⟨0, 1⟩]
def TS4 : List (Nat × Nat × Nat) := [(0, 1, 2), (0, 2, 3)]
theorem rowOk0 {b n : Nat} : RowOk (some ⟨b, 0, none⟩) n n := ⟨(fun e => by cases e), (fun a e => by injection e with e; rw [← e]), Nat.le_refl _⟩
theorem rowOkN : RowOk none 0 0 := ⟨fun _ => ⟨rfl, rfl⟩, (fun a e => by cases e), Nat.le_refl _⟩
def mx4 (b b' : Nat) : MX PS4 TS4 [] := ⟨⟨some ⟨b, 0, none⟩, 4, rowOk0⟩, ⟨some ⟨b', 0, none⟩, 2, rowOk0⟩, ⟨none, 0, rowOkN⟩⟩
theorem mx4_at {w0 : Base} {S : Nat → Prop} {b b' : Nat} (h : w0.w.heap.size ≤ b) (h' : w0.w.heap.size ≤ b') : At w0 S (mx4 b b') := fun y hy c e => by
  have hy : y ∈ [(mx4 b b').a.row, (mx4 b b').b.row, (mx4 b b').c.row] := hy
  simp only [List.mem_cons, List.not_mem_nil, or_false] at hy
  rcases hy with rfl | rfl | rfl
  · injection e with e; subst e; exact .inl h
  · injection e with e; subst e; exact .inl h'
  · cases e
theorem ps4_sz : ∀ i, SzP (cor PS4 i) ≤ 4
  | 0 => by decide +kernel
  | 1 => by decide +kernel
  | 2 => by decide +kernel
  | 3 => by decide +kernel
  | i + 4 => by show SzP ⟨0, 0⟩ ≤ 4; decide +kernel
theorem ts4_ne : ∀ j, j < TS4.length → turnP (cor PS4 (TS4.getD j (0, 0, 0)).1) (cor PS4 (TS4.getD j (0, 0, 0)).2.1) (cor PS4 (TS4.getD j (0, 0, 0)).2.2) ≠ 0
  | 0, _ => by decide +kernel
  | 1, _ => by decide +kernel
  | j + 2, h => absurd h (by simp [TS4])
section
variable {P : Program} {ops : Array Oper} {rest : List Oper} {Q : Exit → Act → World → Prop} {n : Nat} {F : List (Nat × Value)} {w0 : Base} {L : List As}
theorem OkL.mesh4 {b1 b b' T1 T T' : Nat} {cs1 cs cs' : List Value} (h1 : cs1 = mxL (mx4 b b')) (h : cs = rowsL ptL PS4) (h' : cs' = rowsL t3L TS4) (hex : w0.ex = none)
    (next : w0.w.heap.size ≤ b → w0.w.heap.size ≤ b' → OkL P ops rest Q n F w0 [blk b1 T1 (mxL (mx4 b b')), (mx4 b b').a.row, (mx4 b b').b.row, (mx4 b b').c.row]) : OkL P ops rest Q n F w0 [blk b1 T1 cs1, blk b' T' cs', blk b T cs] := by
  subst h1 h h'
  refine OkL.frzX 1 rfl hex fun hb' => OkL.frzX 2 rfl hex fun hb => fun a w ha hw => next hb hb' a w ha ?_
  have k := hw.addRo (a := (mx4 b b').c.row) (Bel.refl _ _) rfl (fun c e => by cases e) (fun c e => by cases e)
  refine k.perm ?_
  show [(mx4 b b').c.row, blk b1 T1 (mxL (mx4 b b')), (mx4 b b').b.row, (mx4 b b').a.row].Perm _
  refine (List.perm_middle (l₁ := [blk b1 T1 (mxL (mx4 b b'))]) (a := (mx4 b b').c.row) (l₂ := [(mx4 b b').b.row, (mx4 b b').a.row])).symm.trans ?_
  refine List.Perm.cons _ ?_
  exact (List.reverse_perm [(mx4 b b').a.row, (mx4 b b').b.row, (mx4 b b').c.row])
end
end
theorem findAt_cases (ps : List Pt) (q : Pt) : ∀ (ts : List (Nat × Nat × Nat)) (i : Nat), (findAt ps q ts i = (-1, 0) ∧ ∀ j, j < ts.length → whereT ps q (ts.getD j (0, 0, 0)) = 0) ∨
    ∃ j k, j < ts.length ∧ findAt ps q ts i = (((i + j : Nat) : Int), k) ∧ k ≠ 0 ∧ whereT ps q (ts.getD j (0, 0, 0)) ≠ 0 ∧ ∀ l, l < j → whereT ps q (ts.getD l (0, 0, 0)) = 0
  | [], i => .inl ⟨rfl, fun j h => absurd h (Nat.not_lt_zero _)⟩
  | t :: r, i => by
    unfold findAt
    by_cases h : whereT ps q t = 0
    · rw [if_pos h]
      rcases findAt_cases ps q r (i + 1) with ⟨h1, h2⟩ | ⟨j, k, h1, h2, h3, h4, h5⟩
      · exact .inl ⟨h1, fun j hj => by cases j with | zero => exact h | succ j => exact h2 j (by simpa using hj)⟩
      · refine .inr ⟨j + 1, k, by simpa using h1, by rw [h2]; congr 2; omega, h3, h4, fun l hl => ?_⟩
        cases l with
        | zero => exact h
        | succ l => exact h5 l (by omega)
    · rw [if_neg h]
      exact .inr ⟨0, _, by simp, rfl, h, h, fun l hl => absurd hl (Nat.not_lt_zero _)⟩
theorem find_in {ps : List Pt} {ts : List (Nat × Nat × Nat)} {q : Pt} (hn : numB ps.length ts = true) (h : ¬ findB ps ts q = (-1, 0)) : ∃ j k, j < ts.length ∧ findB ps ts q = ((j : Int), k) ∧ k ≠ 0 ∧ whereT ps q (ts.getD j (0, 0, 0)) ≠ 0 ∧ ∀ l, l < j → whereT ps q (ts.getD l (0, 0, 0)) = 0 := by
  unfold findB at h ⊢
  rw [if_pos hn] at h ⊢
  rcases findAt_cases ps q ts 0 with ⟨h1, _⟩ | ⟨j, k, h1, h2, h3⟩
  · exact absurd h1 h
  · exact ⟨j, k, h1, by rw [h2]; congr 2; omega, h3⟩
theorem find_ne {ps : List Pt} {ts : List (Nat × Nat × Nat)} {q : Pt} (hn : numB ps.length ts = true) {j : Nat} (hj : j < ts.length) (h : whereT ps q (ts.getD j (0, 0, 0)) ≠ 0) : ¬ findB ps ts q = (-1, 0) := by
  unfold findB
  rw [if_pos hn]
  rcases findAt_cases ps q ts 0 with ⟨_, h2⟩ | ⟨j, k, h1, h2, h3⟩
  · exact absurd (h2 j hj) h
  · rw [h2]
    intro e
    have e1 := congrArg Prod.fst e
    simp only at e1
    omega
section
theorem sgn_neg1 {q : Rat} : q.num.sign = -1 ↔ q < 0 := by
  rw [sgn_eq, sgnQ]
  split
  · exact ⟨fun _ => by assumption, fun _ => rfl⟩
  · split
    · exact ⟨fun h => by simp at h, fun h => by grind⟩
    · exact ⟨fun h => by simp at h, fun h => by grind⟩
theorem sgn_nil {q : Rat} : q.num.sign = 0 ↔ q = 0 := by
  rw [sgn_eq, sgnQ]
  split
  · exact ⟨fun h => by simp at h, fun h => by grind⟩
  · split
    · exact ⟨fun _ => by assumption, fun _ => rfl⟩
    · exact ⟨fun h => by simp at h, fun h => by grind⟩
section
variable {u0 v0 u1 v1 u2 v2 : Rat}
end
end
section
section
variable (a b A B C : Pt) (s : Rat)
end
theorem div_pos_iff {z S : Rat} (h : 0 < S) : 0 < z / S ↔ 0 < z := by
  have e : z / S * S = z := Rat.div_mul_cancel (by grind)
  generalize z / S = q at *
  exact ⟨fun k => by rw [← e]; exact Rat.mul_pos k h, fun k => by rw [← e] at k; exact pos_of h (by grind)⟩
theorem div_nn_iff {z S : Rat} (h : 0 < S) : 0 ≤ z / S ↔ 0 ≤ z := by
  have e : z / S * S = z := Rat.div_mul_cancel (by grind)
  generalize z / S = q at *
  exact ⟨fun k => by rw [← e]; exact Rat.mul_nonneg k (by grind), fun k => by rw [← e] at k; exact nn_of h (by grind)⟩
section
variable {ps : List Pt} {T : Nat × Nat × Nat} {a b q : Pt}
def Lft (ps : List Pt) (T : Nat × Nat × Nat) : Prop := 0 < turnP (ps.getD T.1 ⟨0, 0⟩) (ps.getD T.2.1 ⟨0, 0⟩) (ps.getD T.2.2 ⟨0, 0⟩)
theorem TriO.c (h : TriO ps T q) : TriC ps T q := by
  obtain ⟨h1, h2, h3⟩ := h
  exact ⟨by grind, by grind, by grind⟩
theorem where_un (hS : Lft ps T) : whereT ps q T = whereN (turnP q (ps.getD T.2.1 ⟨0, 0⟩) (ps.getD T.2.2 ⟨0, 0⟩) / turnP (ps.getD T.1 ⟨0, 0⟩) (ps.getD T.2.1 ⟨0, 0⟩) (ps.getD T.2.2 ⟨0, 0⟩)) (turnP (ps.getD T.1 ⟨0, 0⟩) q (ps.getD T.2.2 ⟨0, 0⟩) / turnP (ps.getD T.1 ⟨0, 0⟩) (ps.getD T.2.1 ⟨0, 0⟩) (ps.getD T.2.2 ⟨0, 0⟩))
    (turnP (ps.getD T.1 ⟨0, 0⟩) (ps.getD T.2.1 ⟨0, 0⟩) q / turnP (ps.getD T.1 ⟨0, 0⟩) (ps.getD T.2.1 ⟨0, 0⟩) (ps.getD T.2.2 ⟨0, 0⟩)) :=
  if_neg (show ¬ turnP (ps.getD T.1 ⟨0, 0⟩) (ps.getD T.2.1 ⟨0, 0⟩) (ps.getD T.2.2 ⟨0, 0⟩) = 0 from fun e => by unfold Lft at hS; rw [e] at hS; grind)
theorem whereN_zero {x y z : Rat} : whereN x y z = 0 ↔ ¬ (0 ≤ x ∧ 0 ≤ y ∧ 0 ≤ z) := by
  unfold whereN
  split
  · rename_i h
    rw [sgn_neg1, sgn_neg1, sgn_neg1] at h
    exact ⟨fun _ => by grind, fun _ => rfl⟩
  · rename_i h
    rw [sgn_neg1, sgn_neg1, sgn_neg1] at h
    exact ⟨fun h => by omega, fun h => by exfalso; apply h; grind⟩
theorem zq_pos {x : Rat} (h : 0 ≤ x) : zq x = 0 ↔ 0 < x := by
  by_cases e : x = 0
  · rw [zq_one (sgn_nil.2 e)]; grind
  · rw [zq_zero (fun k => e (sgn_nil.1 k))]; grind
theorem whereN_one {x y z : Rat} : whereN x y z = 1 ↔ 0 < x ∧ 0 < y ∧ 0 < z := by
  unfold whereN
  split
  · rename_i h
    rw [sgn_neg1, sgn_neg1, sgn_neg1] at h
    exact ⟨fun h => by omega, fun h => by grind⟩
  · rename_i h
    rw [sgn_neg1, sgn_neg1, sgn_neg1] at h
    have hx := zq_pos (x := x) (by grind)
    have hy := zq_pos (x := y) (by grind)
    have hz := zq_pos (x := z) (by grind)
    rw [← hx, ← hy, ← hz]
    omega
theorem where_one (hS : Lft ps T) : whereT ps q T = 1 ↔ TriO ps T q := by
  rw [where_un hS, whereN_one, div_pos_iff hS, div_pos_iff hS, div_pos_iff hS]
  exact Iff.rfl
theorem where_zero (hS : Lft ps T) : whereT ps q T = 0 ↔ ¬ TriC ps T q := by
  rw [where_un hS, whereN_zero, div_nn_iff hS, div_nn_iff hS, div_nn_iff hS]
  exact Iff.rfl
end
section
variable {ps : List Pt} {ts : List (Nat × Nat × Nat)} {a b : Pt}
theorem GoodM.lft (g : GoodM ps ts) {j : Nat} (hj : j < ts.length) : Lft ps (ts.getD j (0, 0, 0)) := (g.tri j hj).pos
end
section
variable {ps : List Pt} {ts : List (Nat × Nat × Nat)} {a b : Pt}
end
theorem cmpP_neg {x y : Pc} : cmpP x y < 0 ↔ x.lo < y.lo ∨ (x.lo = y.lo ∧ x.tri < y.tri) := by
  unfold cmpP
  by_cases h : cmpQ x.lo y.lo = 0
  · rw [if_neg (by simpa using h)]
    have e := cmpQ_eq.1 h
    unfold cmpI
    constructor
    · intro k; refine .inr ⟨e, ?_⟩; by_cases h1 : x.tri < y.tri
      · exact h1
      · rw [if_neg h1] at k; split at k <;> omega
    · rintro (k | ⟨_, k⟩)
      · rw [e] at k; exact absurd k (by grind)
      · rw [if_pos k]; decide
  · rw [if_pos h, cmpQ_lt]
    exact ⟨fun k => .inl k, fun k => k.elim id fun k => absurd (cmpQ_eq.2 k.1) h⟩
def LeP (x y : Pc) : Prop := ¬ cmpP y x < 0
theorem leP_iff {x y : Pc} : LeP x y ↔ x.lo < y.lo ∨ (x.lo = y.lo ∧ x.tri ≤ y.tri) := by
  unfold LeP
  rw [cmpP_neg]
  constructor
  · intro h
    rcases lt_or_leQ x.lo y.lo with k | k
    · exact .inl k
    · refine .inr ?_
      have h1 : ¬ y.lo < x.lo := fun e => h (.inl e)
      have e : x.lo = y.lo := by grind
      exact ⟨e, by rcases Nat.lt_or_ge y.tri x.tri with k2 | k2
                   · exact absurd (.inr ⟨e.symm, k2⟩) h
                   · exact k2⟩
  · rintro h (k | ⟨k1, k2⟩)
    · rcases h with h | ⟨h, _⟩ <;> grind
    · rcases h with h | ⟨_, h⟩
      · grind
      · omega
theorem LeP.trans {x y z : Pc} (h : LeP x y) (k : LeP y z) : LeP x z := by
  rw [leP_iff] at *
  rcases h with h | ⟨h1, h2⟩ <;> rcases k with k | ⟨k1, k2⟩
  · exact .inl (by grind)
  · exact .inl (by grind)
  · exact .inl (by grind)
  · exact .inr ⟨by grind, by omega⟩
section
variable {ps : List Pt} {ts : List (Nat × Nat × Nat)} {a b : Pt} {n : Nat}
end
section
variable {ps : List Pt} {ts : List (Nat × Nat × Nat)} {a b q : Pt}
theorem findAt_full (ps : List Pt) (q : Pt) : ∀ (ts : List (Nat × Nat × Nat)) (i : Nat), (findAt ps q ts i = (-1, 0)) ∨
    ∃ j, j < ts.length ∧ findAt ps q ts i = (((i + j : Nat) : Int), whereT ps q (ts.getD j (0, 0, 0))) ∧ whereT ps q (ts.getD j (0, 0, 0)) ≠ 0
  | [], i => .inl rfl
  | t :: r, i => by
    unfold findAt
    by_cases h : whereT ps q t = 0
    · rw [if_pos h]
      rcases findAt_full ps q r (i + 1) with h1 | ⟨j, h1, h2, h3⟩
      · exact .inl h1
      · exact .inr ⟨j + 1, by simpa using h1, by rw [h2]; exact Prod.ext (by show ((i + 1 + j : Nat) : Int) = ((i + (j + 1) : Nat) : Int); omega) rfl, h3⟩
    · rw [if_neg h]
      exact .inr ⟨0, by simp, rfl, h⟩
theorem find_full (g : GoodM ps ts) (q : Pt) : findB ps ts q = (-1, 0) ∨ ∃ j, j < ts.length ∧ findB ps ts q = ((j : Int), whereT ps q (ts.getD j (0, 0, 0))) ∧ whereT ps q (ts.getD j (0, 0, 0)) ≠ 0 := by
  unfold findB
  rw [if_pos (numB_good g)]
  rcases findAt_full ps q ts 0 with h | ⟨j, h1, h2, h3⟩
  · exact .inl h
  · exact .inr ⟨j, h1, by rw [h2]; exact Prod.ext (by show ((0 + j : Nat) : Int) = (j : Int); omega) rfl, h3⟩
theorem find_inside (g : GoodM ps ts) {j : Nat} (hj : j < ts.length) (h : TriO ps (ts.getD j (0, 0, 0)) q) : findB ps ts q = ((j : Int), 1) := by
  have h1 := (where_one (g.lft hj)).2 h
  rcases find_full g q with e | ⟨k, hk, e, hne⟩
  · exact absurd e (find_ne (numB_good g) hj (by rw [h1]; decide))
  · by_cases hkj : k = j
    · subst hkj; rw [e, h1]
    · exact absurd ((where_zero (g.lft hk)).2 (g.apart j k hj hk (fun e => hkj e.symm) q h)) hne
end
end
section
def PQ (k : Map4) (den : Nat) (X Y : Rat) : Pt := ⟨((k.a : Rat) * X + (k.b : Rat) * Y) / (((max den 1 : Nat) : Int) : Rat), ((k.c : Rat) * X + (k.d : Rat) * Y) / (((max den 1 : Nat) : Int) : Rat)⟩
theorem PQ_of (k : Map4) (den : Nat) (A : P2) : ptOf (pdM k den A) = PQ k den (A.1 : Rat) (A.2 : Rat) := by
  simp only [ptOf, pdM, qOf, Map4.at_, PQ, Rat.intCast_add, Rat.intCast_mul, Rat.intCast_natCast]
theorem PQ_mid (k : Map4) (den : Nat) (A B : P2) : scaleP (ptOf (pdM k den A) + ptOf (pdM k den B)) (1 / 2) = PQ k den (((A.1 + B.1 : Nat) : Rat) * (1 / 2)) (((A.2 + B.2 : Nat) : Rat) * (1 / 2)) := by
  rw [PQ_of, PQ_of]
  refine Pt.ext ?_ ?_ <;> simp only [PQ, scale_x, scale_y, add_x, add_y, Rat.natCast_add, Rat.div_def] <;> generalize (((max den 1 : Nat) : Int) : Rat)⁻¹ = e <;> grind
theorem lat_turn {k : Map4} (h : k.Ok) (den : Nat) : ∃ c : Rat, 0 < c ∧ ∀ (A B : P2) (X Y : Rat), turnP (ptOf (pdM k den A)) (ptOf (pdM k den B)) (PQ k den X Y) = c * lnQ A B X Y := by
  have hD : 0 < (((max den 1 : Nat) : Int) : Rat) := by exact_mod_cast (show (0 : Int) < ((max den 1 : Nat) : Int) by omega)
  have hd : (0 : Rat) < (k.det : Rat) := by exact_mod_cast h.pos
  have ed : (k.det : Rat) = (k.a : Rat) * (k.d : Rat) - (k.b : Rat) * (k.c : Rat) := by simp only [Map4.det, Rat.intCast_sub, Rat.intCast_mul]
  have hi := Rat.inv_pos.2 hD
  refine ⟨(k.det : Rat) * ((((max den 1 : Nat) : Int) : Rat)⁻¹ * (((max den 1 : Nat) : Int) : Rat)⁻¹), Rat.mul_pos hd (Rat.mul_pos hi hi), fun A B X Y => ?_⟩
  rw [PQ_of, PQ_of, ed]
  simp only [turn_def, PQ, lnQ, Rat.div_def]
  generalize (((max den 1 : Nat) : Int) : Rat)⁻¹ = e
  grind
theorem rot_ex (m : MQ) (t : Nat) {k : Nat} (hk : k < 3) : ∃ r, r < 3 ∧ rotM m t r = k := by
  unfold rotM
  generalize t * (m.fst / 3) = q
  have e : (m.fst + q) % 3 = 0 ∨ (m.fst + q) % 3 = 1 ∨ (m.fst + q) % 3 = 2 := by omega
  rcases e with e | e | e
  · exact ⟨k, hk, by omega⟩
  · exact ⟨(k + 2) % 3, Nat.mod_lt _ (by decide), by omega⟩
  · exact ⟨(k + 1) % 3, Nat.mod_lt _ (by decide), by omega⟩
theorem rot_next (m : MQ) (t r : Nat) : rotM m t ((r + 1) % 3) = (rotM m t r + 1) % 3 := by unfold rotM; omega
def crn (t : Nat × Nat × Nat) (r : Nat) : Nat := if r = 0 then t.1 else if r = 1 then t.2.1 else t.2.2
def hasI (t : Nat × Nat × Nat) (p : Nat) : Bool := t.1 == p || t.2.1 == p || t.2.2 == p
theorem hasI_iff {t : Nat × Nat × Nat} {p : Nat} : hasI t p = true ↔ ∃ r, r < 3 ∧ crn t r = p := by
  simp only [hasI, Bool.or_eq_true, beq_iff_eq]
  constructor
  · rintro ((h | h) | h)
    · exact ⟨0, by omega, h⟩
    · exact ⟨1, by omega, h⟩
    · exact ⟨2, by omega, h⟩
  · rintro ⟨r, hr, h⟩
    have : r = 0 ∨ r = 1 ∨ r = 2 := by omega
    rcases this with rfl | rfl | rfl
    · exact .inl (.inl h)
    · exact .inl (.inr h)
    · exact .inr h
theorem TriAt.crn {m : MQ} {pl : List P2} {n : Nat × Nat × Nat} {t : Nat} (h : TriAt m pl n t) {r : Nat} (hr : r < 3) : Go.Proofs.YtmjbiebmgffleaaGreatDoor.crn n r < pl.length ∧ pl.getD (Go.Proofs.YtmjbiebmgffleaaGreatDoor.crn n r) (0, 0) = cornM m t r := by
  have : r = 0 ∨ r = 1 ∨ r = 2 := by omega
  rcases this with rfl | rfl | rfl
  · exact h.a
  · exact h.b
  · exact h.c
section
variable {ps : List Pt} {ts : List (Nat × Nat × Nat)}
structure Lat (ps : List Pt) (ts : List (Nat × Nat × Nat)) (m : MQ) (pl : List P2) : Prop where
  inv : WInv m (cellsM m).length pl ts
  dst : Dst pl
  pl_len : ps.length = pl.length
  at_ : ∀ i, i < pl.length → ps.getD i ⟨0, 0⟩ = ptOf (pdM (mapM m) (denM m) (pl.getD i (0, 0)))
theorem GoodM.lattice (g : GoodM ps ts) : ∃ m pl, Lat ps ts m pl := by
  obtain ⟨m, pl, h1, h2, h3⟩ := g.lat
  have hz : (zsM m pl).length = pl.length := by simp [zsM]
  refine ⟨m, pl, h1, h2, by rw [h3, psN_len (by omega)], fun i hi => ?_⟩
  rw [h3, ← hz, psN_get (by rw [hz]; exact hi), zsM_get hi]
  rfl
theorem Lat.cell {m : MQ} {pl : List P2} (l : Lat ps ts m pl) {t : Nat} (ht : t < ts.length) : (cellsM m).getD t ((0, 0), (0, 0), (0, 0)) ∈ cellsM m := by
  have h := l.inv.tl
  rw [List.getD, List.getElem?_eq_getElem (by omega)]; exact List.getElem_mem _
theorem Lat.inC {m : MQ} {pl : List P2} (l : Lat ps ts m pl) {t : Nat} (ht : t < ts.length) {X Y : Rat} (h : TriC ps (ts.getD t (0, 0, 0)) (PQ (mapM m) (denM m) X Y)) : Go.Proofs.YtmjbiebmgffleaaGreatDoor.inC ((cellsM m).getD t ((0, 0), (0, 0), (0, 0))) X Y := by
  obtain ⟨c, hc, key⟩ := lat_turn (map4_ok m.a m.b m.c m.d) (denM m)
  have hk : mapM m = map4 m.a m.b m.c m.d := rfl
  rw [← hk] at key
  have hat := l.inv.at_ t (by have := l.inv.tl; omega)
  obtain ⟨⟨a1, a2⟩, ⟨b1, b2⟩, ⟨c1, c2⟩⟩ := hat
  obtain ⟨k1, k2, k3⟩ := h
  rw [l.at_ _ b1, l.at_ _ c1, b2, c2, ← turn_cyc, key] at k1
  rw [l.at_ _ a1, l.at_ _ c1, a2, c2, turn_cyc, key] at k2
  rw [l.at_ _ a1, l.at_ _ b1, a2, b2, key] at k3
  exact (corn_in m t X Y).2 (nn_of hc k1) (nn_of hc k2) (nn_of hc k3)
theorem Lat.idx {m : MQ} {pl : List P2} (l : Lat ps ts m pl) {t p : Nat} (ht : t < ts.length) (hp : p < pl.length) (h : ∃ k, k < 3 ∧ comp ((cellsM m).getD t ((0, 0), (0, 0), (0, 0))) k = pl.getD p (0, 0)) : hasI (ts.getD t (0, 0, 0)) p = true := by
  obtain ⟨k, hk, e⟩ := h
  obtain ⟨r, hr, e2⟩ := rot_ex m t hk
  obtain ⟨h1, h2⟩ := (l.inv.at_ t (by have := l.inv.tl; omega)).crn hr
  have e3 : cornM m t r = pl.getD p (0, 0) := by rw [← e, ← e2]; rfl
  exact hasI_iff.2 ⟨r, hr, l.dst _ _ h1 hp (by rw [h2, e3])⟩
theorem mesh_used (g : GoodM ps ts) {p : Nat} (hp : p < ps.length) : ∃ j, j < ts.length ∧ hasI (ts.getD j (0, 0, 0)) p = true := by
  obtain ⟨m, pl, l⟩ := g.lattice
  obtain ⟨j, hj, h⟩ := l.inv.used p (by rw [← l.pl_len]; exact hp)
  refine ⟨j, by have := l.inv.tl; omega, ?_⟩
  simp only [hasI, Bool.or_eq_true, beq_iff_eq]
  rcases h with h | h | h
  · exact .inl (.inl h)
  · exact .inl (.inr h)
  · exact .inr h
theorem mesh_dst (g : GoodM ps ts) {p q : Nat} (hp : p < ps.length) (hq : q < ps.length) (h : ps.getD p ⟨0, 0⟩ = ps.getD q ⟨0, 0⟩) : p = q := by
  obtain ⟨m, pl, l⟩ := g.lattice
  obtain ⟨j, hj, hh⟩ := mesh_used g hq
  obtain ⟨r, hr, e⟩ := hasI_iff.1 hh
  have hp' : p < pl.length := by rw [← l.pl_len]; exact hp
  have hq' : q < pl.length := by rw [← l.pl_len]; exact hq
  rw [l.at_ p hp', l.at_ q hq'] at h
  refine l.dst p q hp' hq' ?_
  have hD : 0 < (((max (denM m) 1 : Nat) : Int) : Rat) := by exact_mod_cast (show (0 : Int) < ((max (denM m) 1 : Nat) : Int) by omega)
  have hk := map4_ok m.a m.b m.c m.d
  have hdet := hk.pos
  have hx := congrArg Pt.x h
  have hy := congrArg Pt.y h
  rw [PQ_of, PQ_of] at hx hy
  simp only [PQ, Rat.div_def] at hx hy
  have hi := Rat.inv_pos.2 hD
  generalize (((max (denM m) 1 : Nat) : Int) : Rat)⁻¹ = e at *
  generalize pl.getD p (0, 0) = A at *
  generalize pl.getD q (0, 0) = B at *
  obtain ⟨x1, y1⟩ := A
  obtain ⟨x2, y2⟩ := B
  simp only at hx hy
  have hd : (0 : Rat) < ((mapM m).det : Rat) := by exact_mod_cast hdet
  have ed : ((mapM m).det : Rat) = ((mapM m).a : Rat) * ((mapM m).d : Rat) - ((mapM m).b : Rat) * ((mapM m).c : Rat) := by simp only [Map4.det, Rat.intCast_sub, Rat.intCast_mul]
  rw [ed] at hd
  generalize ((mapM m).a : Rat) = a at *
  generalize ((mapM m).b : Rat) = b at *
  generalize ((mapM m).c : Rat) = c at *
  generalize ((mapM m).d : Rat) = d at *
  clear hD hk hdet ed h
  have hX : ((x1 : Rat) - (x2 : Rat)) * (a * d - b * c) * e = 0 := by grind
  have hY : ((y1 : Rat) - (y2 : Rat)) * (a * d - b * c) * e = 0 := by grind
  have z1 : (x1 : Rat) - (x2 : Rat) = 0 := by
    rcases Rat.mul_eq_zero.1 hX with h | h
    · rcases Rat.mul_eq_zero.1 h with h | h
      · exact h
      · grind
    · grind
  have z2 : (y1 : Rat) - (y2 : Rat) = 0 := by
    rcases Rat.mul_eq_zero.1 hY with h | h
    · rcases Rat.mul_eq_zero.1 h with h | h
      · exact h
      · grind
    · grind
  have w1 : (x1 : Rat) = (x2 : Rat) := by grind
  have w2 : (y1 : Rat) = (y2 : Rat) := by grind
  exact Prod.ext (by exact_mod_cast w1) (by exact_mod_cast w2)
theorem mesh_corner (g : GoodM ps ts) {p t : Nat} (hp : p < ps.length) (ht : t < ts.length) (h : TriC ps (ts.getD t (0, 0, 0)) (ps.getD p ⟨0, 0⟩)) : hasI (ts.getD t (0, 0, 0)) p = true := by
  obtain ⟨m, pl, l⟩ := g.lattice
  have hp' : p < pl.length := by rw [← l.pl_len]; exact hp
  obtain ⟨j, hj, hh⟩ := mesh_used g hp
  obtain ⟨r, hr, e⟩ := hasI_iff.1 hh
  have hc := ((l.inv.at_ j (by have := l.inv.tl; omega)).crn hr).2
  rw [e] at hc
  refine l.idx ht hp' ?_
  rw [l.at_ p hp', PQ_of] at h
  have h2 := l.inC ht h
  rw [hc] at h2 ⊢
  exact conf_corner (l.cell hj) (l.cell ht) (Nat.mod_lt _ (by decide)) h2
theorem mesh_mid (g : GoodM ps ts) {s t r : Nat} (hs : s < ts.length) (ht : t < ts.length) (hr : r < 3) (h : TriC ps (ts.getD t (0, 0, 0)) (scaleP (ps.getD (crn (ts.getD s (0, 0, 0)) r) ⟨0, 0⟩ + ps.getD (crn (ts.getD s (0, 0, 0)) ((r + 1) % 3)) ⟨0, 0⟩) (1 / 2))) :
    hasI (ts.getD t (0, 0, 0)) (crn (ts.getD s (0, 0, 0)) r) = true ∧ hasI (ts.getD t (0, 0, 0)) (crn (ts.getD s (0, 0, 0)) ((r + 1) % 3)) = true := by
  obtain ⟨m, pl, l⟩ := g.lattice
  have hat := l.inv.at_ s (by have := l.inv.tl; omega)
  obtain ⟨a1, a2⟩ := hat.crn hr
  obtain ⟨b1, b2⟩ := hat.crn (Nat.mod_lt (r + 1) (show 0 < 3 by decide))
  rw [l.at_ _ a1, l.at_ _ b1, PQ_mid, a2, b2] at h
  have h2 := l.inC ht h
  unfold cornM at h2
  rw [rot_next] at h2
  obtain ⟨k1, k2⟩ := conf_mid (l.cell hs) (l.cell ht) (r := rotM m s r) (Nat.mod_lt _ (by decide)) h2
  refine ⟨l.idx ht a1 ?_, l.idx ht b1 ?_⟩
  · rw [a2]; exact k1
  · rw [b2]; unfold cornM; rw [rot_next]; exact k2
end
section
variable {ps : List Pt} {ts : List (Nat × Nat × Nat)} {q : Pt}
theorem find_first (g : GoodM ps ts) {j : Nat} (hj : j < ts.length) (hw : whereT ps q (ts.getD j (0, 0, 0)) ≠ 0) (hl : ∀ i, i < j → whereT ps q (ts.getD i (0, 0, 0)) = 0) : findB ps ts q = ((j : Int), whereT ps q (ts.getD j (0, 0, 0))) := by
  rcases find_full g q with e | ⟨k, hk, e, hne⟩
  · exact absurd e (find_ne (numB_good g) hj hw)
  · have hmin : ∀ i, i < k → whereT ps q (ts.getD i (0, 0, 0)) = 0 := by
      obtain ⟨j', k', h1, h2, _, _, h5⟩ := find_in (numB_good g) (find_ne (numB_good g) hj hw)
      rw [e] at h2
      injection h2 with h2 _
      have : j' = k := by omega
      subst this
      exact h5
    have hkj : k = j := by
      rcases Nat.lt_trichotomy k j with h | h | h
      · exact absurd (hl k h) hne
      · exact h
      · exact absurd (hmin j h) hw
    subst hkj
    exact e
theorem turn_self1 (b c : Pt) : turnP b b c = 0 := by simp only [turn_def]; grind
theorem turn_self2 (a b : Pt) : turnP a b a = 0 := by simp only [turn_def]; grind
theorem turn_self3 (a b : Pt) : turnP a b b = 0 := by simp only [turn_def]; grind
theorem corner_where (g : GoodM ps ts) {p t : Nat} (ht : t < ts.length) (h : hasI (ts.getD t (0, 0, 0)) p = true) : whereT ps (ps.getD p ⟨0, 0⟩) (ts.getD t (0, 0, 0)) = 3 := by
  have hS := g.lft ht
  rw [where_un hS]
  unfold Lft at hS
  simp only [hasI, Bool.or_eq_true, beq_iff_eq] at h
  have d1 : ∀ z : Rat, z ≠ 0 → z / z = 1 := fun z hz => by rw [Rat.div_def]; exact Rat.mul_inv_cancel z hz
  have d0 : ∀ z : Rat, 0 / z = 0 := fun z => by rw [Rat.div_def, Rat.zero_mul]
  rcases h with (h | h) | h
  · rw [← h, turn_self1, turn_self2, d1 _ (by grind), d0]; decide +kernel
  · rw [← h, turn_self1, turn_self3, d1 _ (by grind), d0]; decide +kernel
  · rw [← h, turn_self2, turn_self3, d1 _ (by grind), d0]; decide +kernel
theorem whereN_two {x y z : Rat} (h : (x = 1 / 2 ∧ y = 1 / 2 ∧ z = 0) ∨ (x = 1 / 2 ∧ y = 0 ∧ z = 1 / 2) ∨ (x = 0 ∧ y = 1 / 2 ∧ z = 1 / 2)) : whereN x y z = 2 := by
  rcases h with ⟨rfl, rfl, rfl⟩ | ⟨rfl, rfl, rfl⟩ | ⟨rfl, rfl, rfl⟩ <;> decide +kernel
theorem turn_mid1 (a b c d : Pt) : turnP (scaleP (a + b) (1 / 2)) c d = (turnP a c d + turnP b c d) * (1 / 2) := by simp only [turn_def, scale_x, scale_y, add_x, add_y]; grind
theorem turn_mid2 (a b c d : Pt) : turnP c (scaleP (a + b) (1 / 2)) d = (turnP c a d + turnP c b d) * (1 / 2) := by simp only [turn_def, scale_x, scale_y, add_x, add_y]; grind
theorem turn_mid3 (a b c d : Pt) : turnP c d (scaleP (a + b) (1 / 2)) = (turnP c d a + turnP c d b) * (1 / 2) := by simp only [turn_def, scale_x, scale_y, add_x, add_y]; grind
theorem mid_where (g : GoodM ps ts) {p q t : Nat} (ht : t < ts.length) (hne : p ≠ q) (h1 : hasI (ts.getD t (0, 0, 0)) p = true) (h2 : hasI (ts.getD t (0, 0, 0)) q = true) : whereT ps (scaleP (ps.getD p ⟨0, 0⟩ + ps.getD q ⟨0, 0⟩) (1 / 2)) (ts.getD t (0, 0, 0)) = 2 := by
  have hS := g.lft ht
  rw [where_un hS]
  unfold Lft at hS
  simp only [hasI, Bool.or_eq_true, beq_iff_eq] at h1 h2
  have hh : ∀ z : Rat, z ≠ 0 → (z + 0) * (1 / 2) / z = 1 / 2 ∧ (0 + z) * (1 / 2) / z = 1 / 2 := fun z hz => by
    have e : z / z = 1 := by rw [Rat.div_def]; exact Rat.mul_inv_cancel z hz
    rw [Rat.div_def] at *
    constructor <;> grind
  have d0 : ∀ z : Rat, (0 + 0) * (1 / 2) / z = 0 := fun z => by rw [Rat.div_def]; grind
  refine whereN_two ?_
  rw [turn_mid1, turn_mid2, turn_mid3]
  rcases h1 with (e1 | e1) | e1 <;> rcases h2 with (e2 | e2) | e2 <;> first
    | (exfalso; omega)
    | (rw [← e1, ← e2]; simp only [turn_self1, turn_self2, turn_self3, d0, (hh _ (show turnP (ps.getD (ts.getD t (0, 0, 0)).1 ⟨0, 0⟩) (ps.getD (ts.getD t (0, 0, 0)).2.1 ⟨0, 0⟩) (ps.getD (ts.getD t (0, 0, 0)).2.2 ⟨0, 0⟩) ≠ 0 by grind)).1, (hh _ (show turnP (ps.getD (ts.getD t (0, 0, 0)).1 ⟨0, 0⟩) (ps.getD (ts.getD t (0, 0, 0)).2.1 ⟨0, 0⟩) (ps.getD (ts.getD t (0, 0, 0)).2.2 ⟨0, 0⟩) ≠ 0 by grind)).2]; simp)
end
end
end Go.Proofs.YtmjbiebmgffleaaGreatDoor
