import Derived.Test.YtnofgcpajmldkaaGreatDoorPart42
namespace Go.Proofs.YtnofgcpajmldkaaGreatDoor
open Go Go.RowKit
set_option linter.unusedVariables false
set_option linter.unusedSimpArgs false
section
theorem cell_cov {nx way i u v : Nat} (hw : way < 7) (hu : u = i % nx) (hv : v = i / nx) {x y : Rat} (hx0 : 2 * (u : Rat) ≤ x) (hx1 : x ≤ 2 * (u : Rat) + 2) (hy0 : 2 * (v : Rat) ≤ y) (hy1 : y ≤ 2 * (v : Rat) + 2) : ∃ t ∈ cellT nx way i, inC t x y := by
  have hL : cellT nx way i = [((2*u, 2*v), (2*u + 2, 2*v), (2*u + 2, 2*v + 2)), ((2*u, 2*v), (2*u + 2, 2*v + 2), (2*u, 2*v + 2))] ∨ cellT nx way i = [((2*u, 2*v), (2*u + 2, 2*v), (2*u, 2*v + 2)), ((2*u + 2, 2*v), (2*u + 2, 2*v + 2), (2*u, 2*v + 2))] ∨
      cellT nx way i = [((2*u, 2*v), (2*u + 2, 2*v), (2*u + 1, 2*v + 1)), ((2*u + 2, 2*v), (2*u + 2, 2*v + 2), (2*u + 1, 2*v + 1)), ((2*u + 2, 2*v + 2), (2*u, 2*v + 2), (2*u + 1, 2*v + 1)), ((2*u, 2*v + 2), (2*u, 2*v), (2*u + 1, 2*v + 1))] := by
    subst hu; subst hv
    unfold cellT
    simp only
    split
    · exact .inl rfl
    · split
      · exact .inr (.inl rfl)
      · exact .inr (.inr rfl)
  rcases hL with hL | hL | hL <;> rw [hL]
  · rcases (Rat.le_total : y - 2 * (v : Rat) ≤ x - 2 * (u : Rat) ∨ x - 2 * (u : Rat) ≤ y - 2 * (v : Rat)) with h | h
    · refine ⟨_, List.mem_cons_self, ?_⟩
      simp only [inC, lnQ, cast_2, cast_22, cast_21]
      generalize (u : Rat) = U at *; generalize (v : Rat) = V at *
      refine ⟨?_, ?_, ?_⟩ <;> grind
    · refine ⟨_, List.mem_cons_of_mem _ List.mem_cons_self, ?_⟩
      simp only [inC, lnQ, cast_2, cast_22, cast_21]
      generalize (u : Rat) = U at *; generalize (v : Rat) = V at *
      refine ⟨?_, ?_, ?_⟩ <;> grind
  · rcases (Rat.le_total : (x - 2 * (u : Rat)) + (y - 2 * (v : Rat)) ≤ 2 ∨ 2 ≤ (x - 2 * (u : Rat)) + (y - 2 * (v : Rat))) with h | h
    · refine ⟨_, List.mem_cons_self, ?_⟩
      simp only [inC, lnQ, cast_2, cast_22, cast_21]
      generalize (u : Rat) = U at *; generalize (v : Rat) = V at *
      refine ⟨?_, ?_, ?_⟩ <;> grind
    · refine ⟨_, List.mem_cons_of_mem _ List.mem_cons_self, ?_⟩
      simp only [inC, lnQ, cast_2, cast_22, cast_21]
      generalize (u : Rat) = U at *; generalize (v : Rat) = V at *
      refine ⟨?_, ?_, ?_⟩ <;> grind
  · rcases (Rat.le_total : (x - 2 * (u : Rat)) + (y - 2 * (v : Rat)) ≤ 2 ∨ 2 ≤ (x - 2 * (u : Rat)) + (y - 2 * (v : Rat))) with h | h <;> rcases (Rat.le_total : y - 2 * (v : Rat) ≤ x - 2 * (u : Rat) ∨ x - 2 * (u : Rat) ≤ y - 2 * (v : Rat)) with k | k
    · refine ⟨_, List.mem_cons_self, ?_⟩
      simp only [inC, lnQ, cast_2, cast_22, cast_21]
      generalize (u : Rat) = U at *; generalize (v : Rat) = V at *
      refine ⟨?_, ?_, ?_⟩ <;> grind
    · refine ⟨_, List.mem_cons_of_mem _ (List.mem_cons_of_mem _ (List.mem_cons_of_mem _ List.mem_cons_self)), ?_⟩
      simp only [inC, lnQ, cast_2, cast_22, cast_21]
      generalize (u : Rat) = U at *; generalize (v : Rat) = V at *
      refine ⟨?_, ?_, ?_⟩ <;> grind
    · refine ⟨_, List.mem_cons_of_mem _ List.mem_cons_self, ?_⟩
      simp only [inC, lnQ, cast_2, cast_22, cast_21]
      generalize (u : Rat) = U at *; generalize (v : Rat) = V at *
      refine ⟨?_, ?_, ?_⟩ <;> grind
    · refine ⟨_, List.mem_cons_of_mem _ (List.mem_cons_of_mem _ List.mem_cons_self), ?_⟩
      simp only [inC, lnQ, cast_2, cast_22, cast_21]
      generalize (u : Rat) = U at *; generalize (v : Rat) = V at *
      refine ⟨?_, ?_, ?_⟩ <;> grind
theorem cell_of {x : Rat} (h0 : 0 ≤ x) : ∀ n : Nat, 1 ≤ n → x ≤ 2 * (n : Rat) → ∃ u, u < n ∧ 2 * (u : Rat) ≤ x ∧ x ≤ 2 * (u : Rat) + 2
  | n + 1, _, h => by
    rw [Rat.natCast_add] at h
    rcases (Rat.le_total : 2 * (n : Rat) ≤ x ∨ x ≤ 2 * (n : Rat)) with k | k
    · exact ⟨n, by omega, k, by have : ((1 : Nat) : Rat) = 1 := rfl; grind⟩
    · rcases Nat.eq_zero_or_pos n with hn | hn
      · subst hn
        exact ⟨0, by omega, by have : ((0 : Nat) : Rat) = 0 := rfl; grind, by have : ((0 : Nat) : Rat) = 0 := rfl; grind⟩
      · obtain ⟨u, hu, h1, h2⟩ := cell_of h0 n hn k
        exact ⟨u, by omega, h1, h2⟩
theorem cellsN_mem {m : MQ} {t : P2 × P2 × P2} {i : Nat} (h : t ∈ cellT (nxM m) (wayM m i) i) : ∀ n, i < n → t ∈ cellsN m n
  | n + 1, hn => by
    rcases Nat.lt_or_ge i n with k | k
    · exact List.mem_append_left _ (cellsN_mem h n k)
    · obtain rfl : i = n := by omega
      exact List.mem_append_right _ h
def FullM (m : MQ) : Prop := ∀ i, i < nxM m * nyM m → wayM m i < 7
def RecM (m : MQ) (x y : Rat) : Prop := 0 ≤ x ∧ x ≤ 2 * (nxM m : Rat) ∧ 0 ≤ y ∧ y ≤ 2 * (nyM m : Rat)
theorem mesh_cov {m : MQ} (hf : FullM m) {x y : Rat} (h : RecM m x y) : ∃ t ∈ cellsM m, inC t x y := by
  obtain ⟨h1, h2, h3, h4⟩ := h
  obtain ⟨u, hu, u1, u2⟩ := cell_of h1 _ (nxM_le m).1 h2
  obtain ⟨v, hv, v1, v2⟩ := cell_of h3 _ (nyM_le m).1 h4
  have hlt : v * nxM m + u < nxM m * nyM m := by
    have h5 : (v + 1) * nxM m ≤ nyM m * nxM m := Nat.mul_le_mul_right _ hv
    rw [Nat.add_mul, Nat.one_mul] at h5
    rw [Nat.mul_comm (nxM m) (nyM m)]
    omega
  have e1 : u = (v * nxM m + u) % nxM m := by rw [Nat.mul_comm v, Nat.mul_add_mod, Nat.mod_eq_of_lt hu]
  have e2 : v = (v * nxM m + u) / nxM m := by rw [Nat.mul_comm v, Nat.mul_add_div (by omega), Nat.div_eq_of_lt hu, Nat.add_zero]
  obtain ⟨t, ht, hc⟩ := cell_cov (hf _ hlt) e1 e2 u1 u2 v1 v2
  exact ⟨t, cellsN_mem ht _ hlt, hc⟩
theorem cellsN_in {m : MQ} {t : P2 × P2 × P2} : ∀ n, t ∈ cellsN m n → ∃ i, i < n ∧ t ∈ cellT (nxM m) (wayM m i) i
  | 0, h => by cases h
  | n + 1, h => by
    rcases List.mem_append.1 h with k | k
    · obtain ⟨i, hi, h1⟩ := cellsN_in n k; exact ⟨i, by omega, h1⟩
    · exact ⟨n, by omega, k⟩
theorem rec_of {m : MQ} {t : P2 × P2 × P2} (ht : t ∈ cellsM m) {x y : Rat} (h : inC t x y) : RecM m x y := by
  obtain ⟨i, hi, h1⟩ := cellsN_in _ ht
  obtain ⟨⟨a1, a2⟩, a3, a4⟩ := (inO_box rfl rfl h1 x y).2 h
  have hu : i % nxM m < nxM m := Nat.mod_lt _ (by have := (nxM_le m).1; omega)
  have hv : i / nxM m < nyM m := Nat.div_lt_of_lt_mul hi
  have b1 : ((i % nxM m : Nat) : Rat) + 1 ≤ (nxM m : Rat) := by
    have h5 : ((i % nxM m + 1 : Nat) : Rat) ≤ (nxM m : Rat) := by exact_mod_cast hu
    rw [Rat.natCast_add] at h5; exact h5
  have b2 : ((i / nxM m : Nat) : Rat) + 1 ≤ (nyM m : Rat) := by
    have h5 : ((i / nxM m + 1 : Nat) : Rat) ≤ (nyM m : Rat) := by exact_mod_cast hv
    rw [Rat.natCast_add] at h5; exact h5
  have c1 : (0 : Rat) ≤ ((i % nxM m : Nat) : Rat) := Rat.natCast_nonneg
  have c2 : (0 : Rat) ≤ ((i / nxM m : Nat) : Rat) := Rat.natCast_nonneg
  unfold RecM
  refine ⟨?_, ?_, ?_, ?_⟩ <;> grind
theorem corn_cl (m : MQ) (t : Nat) (x y : Rat) (h : inC ((cellsM m).getD t ((0, 0), (0, 0), (0, 0))) x y) : 0 ≤ lnQ (cornM m t 1) (cornM m t 2) x y ∧ 0 ≤ lnQ (cornM m t 2) (cornM m t 0) x y ∧ 0 ≤ lnQ (cornM m t 0) (cornM m t 1) x y := by
  unfold cornM rotM
  generalize (cellsM m).getD t ((0, 0), (0, 0), (0, 0)) = c at *
  generalize t * (m.fst / 3) = q at *
  obtain ⟨h1, h2, h3⟩ := h
  have e : (m.fst + q) % 3 = 0 ∨ (m.fst + q) % 3 = 1 ∨ (m.fst + q) % 3 = 2 := by omega
  rcases e with e | e | e
  · rw [show (0 + m.fst + q) % 3 = 0 by omega, show (1 + m.fst + q) % 3 = 1 by omega, show (2 + m.fst + q) % 3 = 2 by omega]
    exact ⟨h1, h2, h3⟩
  · rw [show (0 + m.fst + q) % 3 = 1 by omega, show (1 + m.fst + q) % 3 = 2 by omega, show (2 + m.fst + q) % 3 = 0 by omega]
    exact ⟨h2, h3, h1⟩
  · rw [show (0 + m.fst + q) % 3 = 2 by omega, show (1 + m.fst + q) % 3 = 0 by omega, show (2 + m.fst + q) % 3 = 1 by omega]
    exact ⟨h3, h1, h2⟩
section
variable {ps : List Pt} {ts : List (Nat × Nat × Nat)} {a b : Pt}
theorem Lat.triC {m : MQ} {pl : List P2} (l : Lat ps ts m pl) {t : Nat} (ht : t < ts.length) {X Y : Rat} (h : Go.Proofs.YtnofgcpajmldkaaGreatDoor.inC ((cellsM m).getD t ((0, 0), (0, 0), (0, 0))) X Y) : TriC ps (ts.getD t (0, 0, 0)) (PQ (mapM m) (denM m) X Y) := by
  obtain ⟨c, hc, key⟩ := lat_turn (map4_ok m.a m.b m.c m.d) (denM m)
  have hk : mapM m = map4 m.a m.b m.c m.d := rfl
  rw [← hk] at key
  have hat := l.inv.at_ t (by have := l.inv.tl; omega)
  obtain ⟨⟨a1, a2⟩, ⟨b1, b2⟩, ⟨c1, c2⟩⟩ := hat
  obtain ⟨h1, h2, h3⟩ := corn_cl m t X Y h
  have hc0 : 0 ≤ c := by grind
  refine ⟨?_, ?_, ?_⟩
  · rw [l.at_ _ b1, l.at_ _ c1, b2, c2, ← turn_cyc, key]; exact Rat.mul_nonneg hc0 h1
  · rw [l.at_ _ a1, l.at_ _ c1, a2, c2, turn_cyc, key]; exact Rat.mul_nonneg hc0 h2
  · rw [l.at_ _ a1, l.at_ _ b1, a2, b2, key]; exact Rat.mul_nonneg hc0 h3
theorem Lat.inM {m : MQ} {pl : List P2} (l : Lat ps ts m pl) (hf : FullM m) {X Y : Rat} : InM ps ts (PQ (mapM m) (denM m) X Y) ↔ RecM m X Y := by
  constructor
  · rintro ⟨t, ht, h⟩
    exact rec_of (l.cell ht) (l.inC ht h)
  · intro h
    obtain ⟨c, hc, h1⟩ := mesh_cov hf h
    obtain ⟨t, ht, rfl⟩ := List.getElem_of_mem hc
    have htl := l.inv.tl
    refine ⟨t, by omega, l.triC (by omega) ?_⟩
    rw [List.getD, List.getElem?_eq_getElem ht]
    exact h1
theorem PQ_onto {k : Map4} (h : k.Ok) (den : Nat) (q : Pt) : ∃ X Y, q = PQ k den X Y := by
  have hD : 0 < (((max den 1 : Nat) : Int) : Rat) := by exact_mod_cast (show (0 : Int) < ((max den 1 : Nat) : Int) by omega)
  have hd : (0 : Rat) < (k.det : Rat) := by exact_mod_cast h.pos
  have ed : (k.det : Rat) = (k.a : Rat) * (k.d : Rat) - (k.b : Rat) * (k.c : Rat) := by simp only [Map4.det, Rat.intCast_sub, Rat.intCast_mul]
  rw [ed] at hd
  unfold PQ
  generalize (((max den 1 : Nat) : Int) : Rat) = D at *
  generalize (k.a : Rat) = A at *
  generalize (k.b : Rat) = B at *
  generalize (k.c : Rat) = C at *
  generalize (k.d : Rat) = E at *
  have h1 : (A * E - B * C) * (A * E - B * C)⁻¹ = 1 := Rat.mul_inv_cancel _ (by grind)
  have h2 : D * D⁻¹ = 1 := Rat.mul_inv_cancel _ (by grind)
  refine ⟨D * (E * q.x - B * q.y) * (A * E - B * C)⁻¹, D * (A * q.y - C * q.x) * (A * E - B * C)⁻¹, ?_⟩
  refine Pt.ext ?_ ?_ <;> simp only [Rat.div_def] <;> generalize (A * E - B * C)⁻¹ = I at * <;> generalize D⁻¹ = J at * <;> grind
theorem ptS_PQ (k : Map4) (den : Nat) (X Y X' Y' s : Rat) : ptS (PQ k den X Y) (PQ k den X' Y') s = PQ k den (X + (X' - X) * s) (Y + (Y' - Y) * s) := by
  unfold PQ ptS
  refine Pt.ext ?_ ?_ <;> simp only [add_x, add_y, scale_x, scale_y, sub_x, sub_y, Rat.div_def] <;> generalize (((max den 1 : Nat) : Int) : Rat)⁻¹ = e <;> grind
theorem lin_box {p d u v s hi : Rat} (h1 : 0 ≤ p + d * u) (h2 : p + d * u ≤ hi) (h3 : 0 ≤ p + d * v) (h4 : p + d * v ≤ hi) (h5 : u ≤ s) (h6 : s ≤ v) : 0 ≤ p + d * s ∧ p + d * s ≤ hi := by
  rcases (Rat.le_total : (0 : Rat) ≤ d ∨ d ≤ 0) with h | h
  · have a1 := Rat.mul_nonneg h (show 0 ≤ s - u by grind)
    have a2 := Rat.mul_nonneg h (show 0 ≤ v - s by grind)
    constructor <;> grind
  · have a1 := Rat.mul_nonneg (show 0 ≤ -d by grind) (show 0 ≤ s - u by grind)
    have a2 := Rat.mul_nonneg (show 0 ≤ -d by grind) (show 0 ≤ v - s by grind)
    constructor <;> grind
theorem Lat.cov {m : MQ} {pl : List P2} (l : Lat ps ts m pl) (hf : FullM m) (a b : Pt) : Cov ps ts a b := by
  intro u v s h0 h1 h2 h3 hu hv
  have hk : (mapM m).Ok := map4_ok m.a m.b m.c m.d
  obtain ⟨X, Y, rfl⟩ := PQ_onto hk (denM m) a
  obtain ⟨X', Y', rfl⟩ := PQ_onto hk (denM m) b
  rw [ptS_PQ, l.inM hf] at *
  obtain ⟨a1, a2, a3, a4⟩ := hu
  obtain ⟨b1, b2, b3, b4⟩ := hv
  obtain ⟨c1, c2⟩ := lin_box a1 a2 b1 b2 h1 h2
  obtain ⟨c3, c4⟩ := lin_box a3 a4 b3 b4 h1 h2
  exact ⟨c1, c2, c3, c4⟩
end
end
section
theorem ptS_0 (a b : Pt) : ptS a b 0 = a := by refine Pt.ext ?_ ?_ <;> simp only [ptS, add_x, add_y, scale_x, scale_y, sub_x, sub_y] <;> grind
theorem ptS_1 (a b : Pt) : ptS a b 1 = b := by refine Pt.ext ?_ ?_ <;> simp only [ptS, add_x, add_y, scale_x, scale_y, sub_x, sub_y] <;> grind
section
variable {ps : List Pt} {ts : List (Nat × Nat × Nat)} {a b : Pt}
theorem found_inM (g : GoodM ps ts) {q : Pt} {t : Int} {w : Nat} (h : findB ps ts q = (t, w)) (hw : w ≠ 0) : InM ps ts q := by
  rcases find_full g q with e | ⟨k, hk, e, hne⟩
  · rw [h] at e
    injection e with _ e
    exact absurd e hw
  · refine ⟨k, hk, ?_⟩
    apply Classical.byContradiction
    intro hc
    exact hne ((where_zero (g.lft hk)).2 hc)
theorem LatM.lat {m : MQ} (h : LatM m ps ts) : ∃ pl, Lat ps ts m pl := by
  obtain ⟨pl, h1, h2, h3⟩ := h
  have hz : (zsM m pl).length = pl.length := by simp [zsM]
  refine ⟨pl, h1, h2, by rw [h3, psN_len (by omega)], fun i hi => ?_⟩
  rw [h3, ← hz, psN_get (by rw [hz]; exact hi), zsM_get hi]
  rfl
theorem across (g : GoodM ps ts) {m : MQ} (l : LatM m ps ts) (hf : FullM m) (hab : a ≠ b) (hc : ∀ i, i < (edL ts).length → cutQ a b (cor ps ((edL ts).getD i ⟨0, 0, 0, 0⟩).a) (cor ps ((edL ts).getD i ⟨0, 0, 0, 0⟩).b) ≠ 2) (d : Pc) :
    (∀ i, i + 1 < (rayS ps ts a b ts.length).length → ((rayS ps ts a b ts.length).getD i d).hi = ((rayS ps ts a b ts.length).getD (i + 1) d).lo) ∧
    (0 < (rayS ps ts a b ts.length).length → InM ps ts a → ((rayS ps ts a b ts.length).getD 0 d).lo = 0) ∧
    (0 < (rayS ps ts a b ts.length).length → InM ps ts b → ((rayS ps ts a b ts.length).getD ((rayS ps ts a b ts.length).length - 1) d).hi = 1) := by
  obtain ⟨pl, l⟩ := l.lat
  have hN : NoRun ps ts a b := not_along g hab fun e he => by
    obtain ⟨i, hi, rfl⟩ := List.getElem_of_mem he
    have h := hc i hi
    rw [List.getD, List.getElem?_eq_getElem hi] at h
    exact h
  have hC := l.cov hf a b
  exact ⟨fun i hi => contig g hN hC hi d, fun h0 ha => first_zero g hN hC h0 (by rw [ptS_0]; exact ha) d, fun h0 hb => last_one g hN hC h0 (by rw [ptS_1]; exact hb) d⟩
end
theorem full_of {m : MQ} (h : ∀ x ∈ m.cs, x < 7) : FullM m := fun i _ => by
  unfold wayM
  split
  · rename_i hl
    have hi := Nat.mod_lt i hl
    have h1 := h (m.cs.getD (i % m.cs.length) 0) (by rw [List.getD, List.getElem?_eq_getElem hi]; exact List.getElem_mem hi)
    omega
  · decide
end
end Go.Proofs.YtnofgcpajmldkaaGreatDoor
