import Derived.Test.YtnofgcpajmldkaaGreatDoorPart26
import Derived.Test.YtnofgcpajmldkaaGreatDoorPart36
import Derived.Test.YtnofgcpajmldkaaGreatDoorPart38
import Derived.Test.YtnofgcpajmldkaaGreatDoorPart40
namespace Go.Proofs.YtnofgcpajmldkaaGreatDoor
open Go Go.RowKit
set_option linter.unusedVariables false
set_option linter.unusedSimpArgs false
section
section
variable {l : List Pc} {t : Int} {s : Rat} {i : Nat}
end
section
variable {ps : List Pt} {ts : List (Nat × Nat × Nat)} {a b : Pt}
end
end
section
theorem pigeon {N : Nat} (f : Nat → Nat) (h : ∀ k, k ≤ N → f k < N) : ∃ k l, k < l ∧ l ≤ N ∧ f k = f l := by
  apply Classical.byContradiction
  intro hc
  have hnd : ((List.range (N + 1)).map f).Nodup := by
    unfold List.Nodup
    rw [List.pairwise_map]
    refine List.Pairwise.imp_of_mem (fun {a b} ha hb hlt he => hc ⟨a, b, hlt, ?_, he⟩) (List.pairwise_lt_range (n := N + 1))
    have := List.mem_range.1 hb
    omega
  have h2 := nodup_le (n := N) hnd fun x hx => by
    obtain ⟨k, hk, rfl⟩ := List.mem_map.1 hx
    have := List.mem_range.1 hk
    exact h k (by omega)
  rw [List.length_map, List.length_range] at h2
  omega
section
variable {ps : List Pt} {ts : List (Nat × Nat × Nat)} {a b : Pt}
def InM (ps : List Pt) (ts : List (Nat × Nat × Nat)) (q : Pt) : Prop := ∃ t, t < ts.length ∧ TriC ps (ts.getD t (0, 0, 0)) q
def NoRun (ps : List Pt) (ts : List (Nat × Nat × Nat)) (a b : Pt) : Prop := ∀ t, t < ts.length → ∀ lo hi : Rat, 0 ≤ lo → lo < hi → hi ≤ 1 → TriC ps (ts.getD t (0, 0, 0)) (ptS a b lo) → TriC ps (ts.getD t (0, 0, 0)) (ptS a b hi) → TriO ps (ts.getD t (0, 0, 0)) (ptS a b ((lo + hi) * (1 / 2)))
def Cov (ps : List Pt) (ts : List (Nat × Nat × Nat)) (a b : Pt) : Prop := ∀ u v s : Rat, 0 ≤ u → u ≤ s → s ≤ v → v ≤ 1 → InM ps ts (ptS a b u) → InM ps ts (ptS a b v) → InM ps ts (ptS a b s)
theorem step_k {u v : Rat} {N k : Nat} (h : u < v) (hk : k ≤ N) : u < u + (v - u) * (((k + 1 : Nat) : Rat) / ((N + 2 : Nat) : Rat)) ∧ u + (v - u) * (((k + 1 : Nat) : Rat) / ((N + 2 : Nat) : Rat)) < v := by
  have hN : (0 : Rat) < ((N + 2 : Nat) : Rat) := Rat.natCast_pos.2 (by omega)
  have h0 : (0 : Rat) < ((k + 1 : Nat) : Rat) := Rat.natCast_pos.2 (by omega)
  have h1 : ((k + 1 : Nat) : Rat) < ((N + 2 : Nat) : Rat) := Rat.natCast_lt_natCast.2 (by omega)
  have e : ((k + 1 : Nat) : Rat) / ((N + 2 : Nat) : Rat) * ((N + 2 : Nat) : Rat) = ((k + 1 : Nat) : Rat) := Rat.div_mul_cancel (by grind)
  generalize ((k + 1 : Nat) : Rat) / ((N + 2 : Nat) : Rat) = q at *
  have q0 : 0 < q := by
    rcases (Rat.le_total : q ≤ 0 ∨ 0 ≤ q) with h2 | h2
    · have h3 := Rat.mul_nonneg (show 0 ≤ -q by grind) (show (0 : Rat) ≤ ((N + 2 : Nat) : Rat) by grind)
      grind
    · rcases (Classical.em (q = 0)) with h3 | h3
      · rw [h3] at e; grind
      · grind
  have q1 : q < 1 := by
    rcases (Rat.le_total : q ≤ 1 ∨ 1 ≤ q) with h2 | h2
    · rcases (Classical.em (q = 1)) with h3 | h3
      · rw [h3] at e; grind
      · grind
    · have h3 := Rat.mul_nonneg (show 0 ≤ q - 1 by grind) (show (0 : Rat) ≤ ((N + 2 : Nat) : Rat) by grind)
      grind
  have m1 := Rat.mul_pos (show 0 < v - u by grind) q0
  have m2 := Rat.mul_pos (show 0 < v - u by grind) (show 0 < 1 - q by grind)
  constructor <;> grind
theorem step_lt {u v : Rat} {N k l : Nat} (h : u < v) (hkl : k < l) : u + (v - u) * (((k + 1 : Nat) : Rat) / ((N + 2 : Nat) : Rat)) < u + (v - u) * (((l + 1 : Nat) : Rat) / ((N + 2 : Nat) : Rat)) := by
  have hN : (0 : Rat) < ((N + 2 : Nat) : Rat) := Rat.natCast_pos.2 (by omega)
  have h1 : ((k + 1 : Nat) : Rat) < ((l + 1 : Nat) : Rat) := Rat.natCast_lt_natCast.2 (by omega)
  have e : ((k + 1 : Nat) : Rat) / ((N + 2 : Nat) : Rat) * ((N + 2 : Nat) : Rat) = ((k + 1 : Nat) : Rat) := Rat.div_mul_cancel (by grind)
  have e2 : ((l + 1 : Nat) : Rat) / ((N + 2 : Nat) : Rat) * ((N + 2 : Nat) : Rat) = ((l + 1 : Nat) : Rat) := Rat.div_mul_cancel (by grind)
  generalize ((k + 1 : Nat) : Rat) / ((N + 2 : Nat) : Rat) = q at *
  generalize ((l + 1 : Nat) : Rat) / ((N + 2 : Nat) : Rat) = r at *
  have q0 : q < r := by
    rcases (Rat.le_total : r ≤ q ∨ q ≤ r) with h2 | h2
    · have h3 := Rat.mul_nonneg (show 0 ≤ q - r by grind) (show (0 : Rat) ≤ ((N + 2 : Nat) : Rat) by grind)
      grind
    · rcases (Classical.em (q = r)) with h3 | h3
      · rw [h3] at e; grind
      · grind
  have m1 := Rat.mul_pos (show 0 < v - u by grind) (show 0 < r - q by grind)
  grind
theorem gap (g : GoodM ps ts) (hN : NoRun ps ts a b) (hC : Cov ps ts a b) {u v : Rat} (h0 : 0 ≤ u) (h1 : u < v) (h2 : v ≤ 1) (hu : InM ps ts (ptS a b u)) (hv : InM ps ts (ptS a b v)) :
    ∃ p ∈ rayS ps ts a b ts.length, ∃ s, u < s ∧ s < v ∧ p.lo ≤ s ∧ s ≤ p.hi := by
  have hall : ∀ k, k ≤ ts.length → InM ps ts (ptS a b (u + (v - u) * (((k + 1 : Nat) : Rat) / ((ts.length + 2 : Nat) : Rat)))) := fun k hk => by
    obtain ⟨k1, k2⟩ := step_k (N := ts.length) h1 hk
    exact hC u v _ h0 (by grind) (by grind) h2 hu hv
  obtain ⟨f, hf⟩ : ∃ f : Nat → Nat, ∀ k, k ≤ ts.length → f k < ts.length ∧ TriC ps (ts.getD (f k) (0, 0, 0)) (ptS a b (u + (v - u) * (((k + 1 : Nat) : Rat) / ((ts.length + 2 : Nat) : Rat)))) := by
    have h9 : ∀ k, ∃ t, k ≤ ts.length → t < ts.length ∧ TriC ps (ts.getD t (0, 0, 0)) (ptS a b (u + (v - u) * (((k + 1 : Nat) : Rat) / ((ts.length + 2 : Nat) : Rat)))) := fun k => by
      by_cases hk : k ≤ ts.length
      · obtain ⟨t, h8⟩ := hall k hk; exact ⟨t, fun _ => h8⟩
      · exact ⟨0, fun h => absurd h hk⟩
    exact ⟨fun k => Classical.choose (h9 k), fun k hk => Classical.choose_spec (h9 k) hk⟩
  obtain ⟨k, l, hkl, hl, he⟩ := pigeon f fun k hk => (hf k hk).1
  obtain ⟨a1, a2⟩ := hf k (by omega)
  obtain ⟨b1, b2⟩ := hf l hl
  rw [← he] at b2
  obtain ⟨k1, k2⟩ := step_k (N := ts.length) h1 (show k ≤ ts.length by omega)
  obtain ⟨l1, l2⟩ := step_k (N := ts.length) h1 hl
  have hlt := step_lt (N := ts.length) h1 hkl
  generalize u + (v - u) * (((k + 1 : Nat) : Rat) / ((ts.length + 2 : Nat) : Rat)) = x at *
  generalize u + (v - u) * (((l + 1 : Nat) : Rat) / ((ts.length + 2 : Nat) : Rat)) = y at *
  have ho := hN _ a1 x y (by grind) hlt (by grind) a2 b2
  obtain ⟨p, hp, e3, h3, h4⟩ := pcAt_in g a1 (s := (x + y) * (1 / 2)) (by grind) (by grind) ho
  exact ⟨p, (srtP_perm _).mem_iff.2 (rayL_has g _ (Nat.le_refl _) _ a1 p hp), (x + y) * (1 / 2), by grind, by grind, h3, h4⟩
theorem pcAt_cl (g : GoodM ps ts) {t : Nat} (ht : t < ts.length) {p : Pc} (hp : p ∈ pcAt ps a b t (ts.getD t (0, 0, 0))) : p.tri = t ∧ TriC ps (ts.getD t (0, 0, 0)) (ptS a b p.lo) ∧ TriC ps (ts.getD t (0, 0, 0)) (ptS a b p.hi) := by
  unfold pcAt at hp
  split at hp
  · rename_i h1
    split at hp
    · rcases List.mem_singleton.1 hp with rfl
      obtain ⟨c1, c2, c3, c4⟩ := spanV_some (g.lft ht) h1
      exact ⟨rfl, c4 _ (by grind) (by grind), c4 _ (by grind) (by grind)⟩
    · cases hp
  · cases hp
theorem rayL_cl (g : GoodM ps ts) : ∀ n, n ≤ ts.length → ∀ p ∈ rayL ps ts a b n, InM ps ts (ptS a b p.lo) ∧ InM ps ts (ptS a b p.hi)
  | 0, _, p, hp => by cases hp
  | n + 1, hn, p, hp => by
    rcases List.mem_append.1 hp with h | h
    · exact rayL_cl g n (by omega) p h
    · obtain ⟨h1, h2, h3⟩ := pcAt_cl g (by omega) h
      exact ⟨⟨n, by omega, h2⟩, ⟨n, by omega, h3⟩⟩
theorem rayS_cl (g : GoodM ps ts) {p : Pc} (hp : p ∈ rayS ps ts a b ts.length) : InM ps ts (ptS a b p.lo) ∧ InM ps ts (ptS a b p.hi) := rayL_cl g _ (Nat.le_refl _) p ((srtP_perm _).mem_iff.1 hp)
theorem contig (g : GoodM ps ts) (hN : NoRun ps ts a b) (hC : Cov ps ts a b) {i : Nat} (hi : i + 1 < (rayS ps ts a b ts.length).length) (d : Pc) : ((rayS ps ts a b ts.length).getD i d).hi = ((rayS ps ts a b ts.length).getD (i + 1) d).lo := by
  have hle := rayS_next (a := a) (b := b) g (Nat.le_refl _) hi d
  have hap := List.pairwise_iff_getElem.1 (rayS_apart (a := a) (b := b) g (Nat.le_refl ts.length))
  have hok := fun p hp => rayS_mem (a := a) (b := b) g (Nat.le_refl ts.length) (p := p) hp
  have hcl := fun p hp => rayS_cl (a := a) (b := b) g (p := p) hp
  have hgap := fun u v h0 h1 h2 hu hv => gap (a := a) (b := b) g hN hC (u := u) (v := v) h0 h1 h2 hu hv
  generalize rayS ps ts a b ts.length = S at *
  have e1 : S.getD i d = S[i] := by rw [List.getD, List.getElem?_eq_getElem (by omega)]; rfl
  have e2 : S.getD (i + 1) d = S[i + 1] := by rw [List.getD, List.getElem?_eq_getElem hi]; rfl
  rw [e1, e2] at hle ⊢
  have m1 := hok S[i] (List.getElem_mem _)
  have m2 := hok S[i + 1] (List.getElem_mem _)
  have q1 := m1.lo0; have q2 := m1.lh; have q3 := m2.lh; have q4 := m2.hi1
  apply Classical.byContradiction
  intro hne
  obtain ⟨p, hp, s, s1, s2, s3, s4⟩ := hgap S[i].hi S[i + 1].lo (by grind) (by grind) (by grind) (hcl _ (List.getElem_mem _)).2 (hcl _ (List.getElem_mem _)).1
  obtain ⟨j, hj, rfl⟩ := List.getElem_of_mem hp
  rcases Nat.lt_trichotomy j i with h | h | h
  · have := hap j i hj (by omega) h; grind
  · subst h; grind
  · rcases Nat.lt_or_ge (i + 1) j with h2 | h2
    · have := hap (i + 1) j hi hj h2; grind
    · obtain rfl : j = i + 1 := by omega
      grind
theorem first_zero (g : GoodM ps ts) (hN : NoRun ps ts a b) (hC : Cov ps ts a b) (hi : 0 < (rayS ps ts a b ts.length).length) (ha : InM ps ts (ptS a b 0)) (d : Pc) : ((rayS ps ts a b ts.length).getD 0 d).lo = 0 := by
  have hap := List.pairwise_iff_getElem.1 (rayS_apart (a := a) (b := b) g (Nat.le_refl ts.length))
  have hok := fun p hp => rayS_mem (a := a) (b := b) g (Nat.le_refl ts.length) (p := p) hp
  have hcl := fun p hp => rayS_cl (a := a) (b := b) g (p := p) hp
  have hgap := fun u v h0 h1 h2 hu hv => gap (a := a) (b := b) g hN hC (u := u) (v := v) h0 h1 h2 hu hv
  generalize rayS ps ts a b ts.length = S at *
  have e1 : S.getD 0 d = S[0] := by rw [List.getD, List.getElem?_eq_getElem hi]; rfl
  rw [e1]
  have m1 := hok S[0] (List.getElem_mem _)
  have q1 := m1.lo0; have q2 := m1.lh; have q3 := m1.hi1
  apply Classical.byContradiction
  intro hne
  obtain ⟨p, hp, s, s1, s2, s3, s4⟩ := hgap 0 S[0].lo (by grind) (by grind) (by grind) ha (hcl _ (List.getElem_mem _)).1
  obtain ⟨j, hj, rfl⟩ := List.getElem_of_mem hp
  rcases Nat.lt_or_ge 0 j with h | h
  · have := hap 0 j hi hj h; grind
  · obtain rfl : j = 0 := by omega
    grind
theorem last_one (g : GoodM ps ts) (hN : NoRun ps ts a b) (hC : Cov ps ts a b) (hi : 0 < (rayS ps ts a b ts.length).length) (hb : InM ps ts (ptS a b 1)) (d : Pc) : ((rayS ps ts a b ts.length).getD ((rayS ps ts a b ts.length).length - 1) d).hi = 1 := by
  have hap := List.pairwise_iff_getElem.1 (rayS_apart (a := a) (b := b) g (Nat.le_refl ts.length))
  have hok := fun p hp => rayS_mem (a := a) (b := b) g (Nat.le_refl ts.length) (p := p) hp
  have hcl := fun p hp => rayS_cl (a := a) (b := b) g (p := p) hp
  have hgap := fun u v h0 h1 h2 hu hv => gap (a := a) (b := b) g hN hC (u := u) (v := v) h0 h1 h2 hu hv
  generalize rayS ps ts a b ts.length = S at *
  have e1 : S.getD (S.length - 1) d = S[S.length - 1] := by rw [List.getD, List.getElem?_eq_getElem (by omega)]; rfl
  rw [e1]
  have m1 := hok S[S.length - 1] (List.getElem_mem _)
  have q1 := m1.lo0; have q2 := m1.lh; have q3 := m1.hi1
  apply Classical.byContradiction
  intro hne
  obtain ⟨p, hp, s, s1, s2, s3, s4⟩ := hgap S[S.length - 1].hi 1 (by grind) (by grind) (by grind) (hcl _ (List.getElem_mem _)).2 hb
  obtain ⟨j, hj, rfl⟩ := List.getElem_of_mem hp
  rcases Nat.lt_or_ge j (S.length - 1) with h | h
  · have := hap j (S.length - 1) hj (by omega) h; grind
  · obtain rfl : j = S.length - 1 := by omega
    grind
end
end
abbrev T2 := P2 × P2 × P2
section
def PQ (k : Map4) (den : Nat) (X Y : Rat) : Pt := ⟨((k.a : Rat) * X + (k.b : Rat) * Y) / (((max den 1 : Nat) : Int) : Rat), ((k.c : Rat) * X + (k.d : Rat) * Y) / (((max den 1 : Nat) : Int) : Rat)⟩
theorem PQ_of (k : Map4) (den : Nat) (A : P2) : ptOf (pdM k den A) = PQ k den (A.1 : Rat) (A.2 : Rat) := by
  simp only [ptOf, pdM, qOf, Map4.at_, PQ, Rat.intCast_add, Rat.intCast_mul, Rat.intCast_natCast]
theorem lat_turn {k : Map4} (h : k.Ok) (den : Nat) : ∃ c : Rat, 0 < c ∧ ∀ (A B : P2) (X Y : Rat), turnP (ptOf (pdM k den A)) (ptOf (pdM k den B)) (PQ k den X Y) = c * lnQ A B X Y := by
  have hD : 0 < (((max den 1 : Nat) : Int) : Rat) := by exact_mod_cast (show (0 : Int) < ((max den 1 : Nat) : Int) by omega)
  have hd : (0 : Rat) < (k.det : Rat) := by exact_mod_cast h.pos
  have ed : (k.det : Rat) = (k.a : Rat) * (k.d : Rat) - (k.b : Rat) * (k.c : Rat) := by simp only [Map4.det, Rat.intCast_sub, Rat.intCast_mul]
  have hi := Rat.inv_pos.2 hD
  refine ⟨(k.det : Rat) * ((((max den 1 : Nat) : Int) : Rat)⁻¹ * (((max den 1 : Nat) : Int) : Rat)⁻¹), Rat.mul_pos hd (Rat.mul_pos hi hi), fun A B X Y => ?_⟩
  rw [PQ_of, PQ_of, ed]
  simp only [turn_def, PQ, lnQ, Rat.div_def]
  generalize (((max den 1 : Nat) : Int) : Rat)⁻¹ = e
  grind
section
variable {ps : List Pt} {ts : List (Nat × Nat × Nat)}
structure Lat (ps : List Pt) (ts : List (Nat × Nat × Nat)) (m : MQ) (pl : List P2) : Prop where
  inv : WInv m (cellsM m).length pl ts
  dst : Dst pl
  pl_len : ps.length = pl.length
  at_ : ∀ i, i < pl.length → ps.getD i ⟨0, 0⟩ = ptOf (pdM (mapM m) (denM m) (pl.getD i (0, 0)))
theorem Lat.cell {m : MQ} {pl : List P2} (l : Lat ps ts m pl) {t : Nat} (ht : t < ts.length) : (cellsM m).getD t ((0, 0), (0, 0), (0, 0)) ∈ cellsM m := by
  have h := l.inv.tl
  rw [List.getD, List.getElem?_eq_getElem (by omega)]; exact List.getElem_mem _
theorem Lat.inC {m : MQ} {pl : List P2} (l : Lat ps ts m pl) {t : Nat} (ht : t < ts.length) {X Y : Rat} (h : TriC ps (ts.getD t (0, 0, 0)) (PQ (mapM m) (denM m) X Y)) : Go.Proofs.YtnofgcpajmldkaaGreatDoor.inC ((cellsM m).getD t ((0, 0), (0, 0), (0, 0))) X Y := by
  obtain ⟨c, hc, key⟩ := lat_turn (map4_ok m.a m.b m.c m.d) (denM m)
  have hk : mapM m = map4 m.a m.b m.c m.d := rfl
  rw [← hk] at key
  have hat := l.inv.at_ t (by have := l.inv.tl; omega)
  obtain ⟨⟨a1, a2⟩, ⟨b1, b2⟩, ⟨c1, c2⟩⟩ := hat
  obtain ⟨k1, k2, k3⟩ := h
  rw [l.at_ _ b1, l.at_ _ c1, b2, c2, ← turn_cyc, key] at k1
  rw [l.at_ _ a1, l.at_ _ c1, a2, c2, turn_cyc, key] at k2
  rw [l.at_ _ a1, l.at_ _ b1, a2, b2, key] at k3
  exact (corn_in m t X Y).2 (nn_of hc k1) (nn_of hc k2) (nn_of hc k3)
end
section
variable {ps : List Pt} {ts : List (Nat × Nat × Nat)} {q : Pt}
end
end
section
section
variable {ts : List (Nat × Nat × Nat)}
end
section
variable {ps : List Pt} {ts : List (Nat × Nat × Nat)} {q : Pt}
theorem dirE_ne (g : GoodM ps ts) {u : Nat} (hu : u < 3 * ts.length) : (dirE ts u).1 ≠ (dirE ts u).2 := by
  have h := g.tri (u / 3) (by omega)
  have hab := h.ab
  have hbc := h.bc
  have hca := h.ca
  have h3 : u % 3 = 0 ∨ u % 3 = 1 ∨ u % 3 = 2 := by omega
  unfold dirE
  rcases h3 with h3 | h3 | h3 <;> rw [h3]
  · exact hab
  · exact hbc
  · exact hca
theorem edge_inv (g : GoodM ps ts) {e : E4} (he : e ∈ edL ts) : EInv ts (3 * ts.length) (e.a, e.b) e := edL_inv (numB_good g) (by have := g.pl; omega) (fun u hu => dirE_ne g hu) he
theorem edge_lt (g : GoodM ps ts) {e : E4} (he : e ∈ edL ts) : e.a < ps.length ∧ e.b < ps.length ∧ e.a ≠ e.b := by
  obtain ⟨_, _, hlt, _, _, u, hu, hs⟩ := edge_inv g he
  have ht := numB_at (numB_good g) (show u / 3 < ts.length by omega)
  have h1 := crT_lt ht (u % 3)
  have h2 := crT_lt ht ((u % 3 + 1) % 3)
  simp only at hlt hs
  unfold dirE at hs
  rcases hs with hs | hs <;> (injection hs with e1 e2; rw [e1] at h1; rw [e2] at h2; exact ⟨by omega, by omega, by omega⟩)
end
end
section
theorem ltL_irr (p : Pt) : ¬ ltL p p := by unfold ltL; grind
theorem ltL_tr {p q r : Pt} (h : ltL p q) (k : ltL q r) : ltL p r := by unfold ltL at *; grind
theorem tri_q (x y : Rat) : x < y ∨ x = y ∨ y < x := by
  rcases (Rat.le_total : x ≤ y ∨ y ≤ x) with h | h <;> rcases Classical.em (x = y) with k | k
  · exact .inr (.inl k)
  · exact .inl (by grind)
  · exact .inr (.inl k)
  · exact .inr (.inr (by grind))
theorem ltL_tri (p q : Pt) : ltL p q ∨ p = q ∨ ltL q p := by
  rcases tri_q p.x q.x with h | h | h
  · exact .inl (.inl h)
  · rcases tri_q p.y q.y with k | k | k
    · exact .inl (.inr ⟨h, k⟩)
    · exact .inr (.inl (Pt.ext h k))
    · exact .inr (.inr (.inr ⟨h.symm, k⟩))
  · exact .inr (.inr (.inl h))
theorem ltL_of {F X Y T : Pt} (h1 : ¬ ltL X F) (h2 : ltL X Y) (h3 : ¬ ltL T Y) : ltL F T := by
  have a1 : ltL F Y := by
    rcases ltL_tri F X with h | h | h
    · exact ltL_tr h h2
    · rw [h]; exact h2
    · exact absurd h h1
  rcases ltL_tri Y T with h | h | h
  · exact ltL_tr a1 h
  · rw [← h]; exact a1
  · exact absurd h h3
def Btw (a b X : Pt) : Prop := ¬ (ltL X a ∧ ltL X b) ∧ ¬ (ltL a X ∧ ltL b X)
theorem btw_ls {a b X : Pt} (h : Btw a b X) : ¬ ltL X (lsP a b) := fun k => by
  unfold lsP at k
  split at k
  · rename_i h1; exact h.1 ⟨ltL_tr k h1, k⟩
  · rename_i h1
    rcases ltL_tri a b with h2 | h2 | h2
    · exact h.1 ⟨k, ltL_tr k h2⟩
    · exact h.1 ⟨k, h2 ▸ k⟩
    · exact h1 h2
theorem btw_gr {a b X : Pt} (h : Btw a b X) : ¬ ltL (grP a b) X := fun k => by
  unfold grP at k
  split at k
  · rename_i h1; exact h.2 ⟨ltL_tr h1 k, k⟩
  · rename_i h1
    rcases ltL_tri a b with h2 | h2 | h2
    · exact h1 h2
    · exact h.2 ⟨k, h2 ▸ k⟩
    · exact h.2 ⟨k, ltL_tr h2 k⟩
theorem gr_or (a b : Pt) : grP a b = a ∨ grP a b = b := by unfold grP; split <;> simp
theorem ls_or (a b : Pt) : lsP a b = a ∨ lsP a b = b := by unfold lsP; split <;> simp
theorem pce_lt {a b c d X Y : Pt} (h1 : Btw a b X) (h2 : Btw c d X) (k1 : Btw a b Y) (k2 : Btw c d Y) (h : ltL X Y) : pceN a b c d = 2 := by
  have e : ltL (grP (lsP a b) (lsP c d)) (lsP (grP a b) (grP c d)) := by
    refine ltL_of (X := X) (Y := Y) ?_ h ?_
    · rcases gr_or (lsP a b) (lsP c d) with e | e <;> rw [e]
      · exact btw_ls h1
      · exact btw_ls h2
    · rcases ls_or (grP a b) (grP c d) with e | e <;> rw [e]
      · exact btw_gr k1
      · exact btw_gr k2
  unfold pceN
  rw [if_neg (fun k => ltL_irr _ (ltL_tr e k)), if_neg (fun k => ltL_irr _ (k ▸ e))]
theorem pce_two {a b c d X Y : Pt} (h1 : Btw a b X) (h2 : Btw c d X) (k1 : Btw a b Y) (k2 : Btw c d Y) (h : X ≠ Y) : pceN a b c d = 2 := by
  rcases ltL_tri X Y with e | e | e
  · exact pce_lt h1 h2 k1 k2 e
  · exact absurd e h
  · exact pce_lt k1 k2 h1 h2 e
theorem lex_no {s p q p' q' : Rat} (h0 : 0 ≤ s) (h1 : s ≤ 1) (ex : (1 - s) * p + s * q = 0) (ey : (1 - s) * p' + s * q' = 0) (hp : 0 < p ∨ (p = 0 ∧ 0 < p')) (hq : 0 < q ∨ (q = 0 ∧ 0 < q')) : False := by
  rcases Classical.em (s = 0) with hs | hs
  · subst hs; grind
  · rcases Classical.em (s = 1) with ht | ht
    · subst ht; grind
    · have a0 : 0 < s := by grind
      have a1 : 0 < 1 - s := by grind
      rcases hp with hp | ⟨hp, hp'⟩ <;> rcases hq with hq | ⟨hq, hq'⟩
      · have := Rat.mul_pos a1 hp; have := Rat.mul_pos a0 hq; grind
      · have := Rat.mul_pos a1 hp; subst hq; grind
      · have := Rat.mul_pos a0 hq; subst hp; grind
      · have := Rat.mul_pos a1 hp'; have := Rat.mul_pos a0 hq'; grind
theorem btw_ptS {a b : Pt} {s : Rat} (h0 : 0 ≤ s) (h1 : s ≤ 1) : Btw a b (ptS a b s) := by
  have ex : (1 - s) * (a.x - (ptS a b s).x) + s * (b.x - (ptS a b s).x) = 0 := by simp only [ptS, add_x, scale_x, sub_x]; grind
  have ey : (1 - s) * (a.y - (ptS a b s).y) + s * (b.y - (ptS a b s).y) = 0 := by simp only [ptS, add_y, scale_y, sub_y]; grind
  generalize ptS a b s = X at *
  constructor
  · rintro ⟨k1, k2⟩
    unfold ltL at k1 k2
    exact lex_no h0 h1 ex ey (by grind) (by grind)
  · rintro ⟨k1, k2⟩
    unfold ltL at k1 k2
    exact lex_no h0 h1 (p := X.x - a.x) (q := X.x - b.x) (p' := X.y - a.y) (q' := X.y - b.y) (by grind) (by grind) (by grind) (by grind)
theorem cut_two {a b c d : Pt} {s s' r r' : Rat} (h0 : 0 ≤ s) (h1 : s ≤ 1) (h0' : 0 ≤ s') (h1' : s' ≤ 1) (k0 : 0 ≤ r) (k1 : r ≤ 1) (k0' : 0 ≤ r') (k1' : r' ≤ 1) (e : ptS a b s = ptS c d r) (e' : ptS a b s' = ptS c d r') (hne : ptS a b s ≠ ptS a b s') : cutQ a b c d = 2 := by
  have x1 := congrArg Pt.x e; have y1 := congrArg Pt.y e; have x2 := congrArg Pt.x e'; have y2 := congrArg Pt.y e'
  simp only [ptS, add_x, add_y, scale_x, scale_y, sub_x, sub_y] at x1 y1 x2 y2
  have hr : r' - r ≠ 0 := fun h => hne (by rw [e, e', show r' = r by grind])
  have hs : s' - s ≠ 0 := fun h => hne (by rw [show s' = s by grind])
  have kx : (d.x - c.x) * (r' - r) = (b.x - a.x) * (s' - s) := by grind
  have ky : (d.y - c.y) * (r' - r) = (b.y - a.y) * (s' - s) := by grind
  have hz : ∀ z w : Rat, z * w = 0 → w ≠ 0 → z = 0 := fun z w h hw => by
    rcases Rat.mul_eq_zero.1 h with h | h
    · exact h
    · exact absurd h hw
  have h2 : (b.x - a.x) * (d.y - c.y) - (b.y - a.y) * (d.x - c.x) = 0 := hz _ _ (by grind) hr
  have t1 : turnP a b c = 0 := by simp only [turn_def]; grind
  have t2 : turnP a b d = 0 := by simp only [turn_def]; grind
  have t3 : turnP c d a = 0 := by simp only [turn_def]; grind
  have t4 : turnP c d b = 0 := by simp only [turn_def]; grind
  unfold cutQ
  rw [if_pos ⟨t1, t2, t3, t4⟩]
  exact pce_two (btw_ptS h0 h1) (e ▸ btw_ptS k0 k1) (btw_ptS h0' h1') (e' ▸ btw_ptS k0' k1') hne
theorem cut_two' {a b c d : Pt} {s s' r r' : Rat} (h0 : 0 ≤ s) (h1 : s ≤ 1) (h0' : 0 ≤ s') (h1' : s' ≤ 1) (k0 : 0 ≤ r) (k1 : r ≤ 1) (k0' : 0 ≤ r') (k1' : r' ≤ 1) (e : ptS a b s = ptS c d r) (e' : ptS a b s' = ptS c d r') (hne : ptS a b s ≠ ptS a b s') : cutQ a b d c = 2 :=
  cut_two h0 h1 h0' h1' (r := 1 - r) (r' := 1 - r') (by grind) (by grind) (by grind) (by grind) (by rw [pt_rev]; exact e) (by rw [pt_rev]; exact e') hne
theorem on_edge {A B C q : Pt} (hT : 0 < turnP A B C) (h1 : 0 ≤ turnP q B C) (h2 : 0 ≤ turnP A q C) (h3 : turnP A B q = 0) : ∃ r, 0 ≤ r ∧ r ≤ 1 ∧ q = ptS A B r := by
  have hb := back_at (a := A) (b := B) (c := C) (p := q) (by grind)
  have hs : turnP q B C + turnP A q C + turnP A B q = turnP A B C := by simp only [turn_def]; grind
  have hsum : turnP q B C / turnP A B C + turnP A q C / turnP A B C = 1 := by
    have e : turnP A B C * (turnP A B C)⁻¹ = 1 := Rat.mul_inv_cancel _ (by grind)
    rw [Rat.div_def, Rat.div_def]
    rw [h3] at hs
    grind
  have p1 := (div_nn_iff hT).2 h1
  have p2 := (div_nn_iff hT).2 h2
  rw [h3, show (0 : Rat) / turnP A B C = 0 by rw [Rat.div_def]; grind] at hb
  generalize turnP q B C / turnP A B C = u at *
  generalize turnP A q C / turnP A B C = v at *
  refine ⟨v, p2, by grind, ?_⟩
  rw [← hb]
  refine Pt.ext ?_ ?_ <;> simp only [ptS, add_x, add_y, scale_x, scale_y, sub_x, sub_y] <;> grind
section
variable {ps : List Pt} {ts : List (Nat × Nat × Nat)} {a b : Pt}
theorem edge_has (g : GoodM ps ts) {t r : Nat} (ht : t < ts.length) (hr : r < 3) : ∃ e ∈ edL ts, (e.a = crT (ts.getD t (0, 0, 0)) r ∧ e.b = crT (ts.getD t (0, 0, 0)) ((r + 1) % 3)) ∨ (e.a = crT (ts.getD t (0, 0, 0)) ((r + 1) % 3) ∧ e.b = crT (ts.getD t (0, 0, 0)) r) := by
  have hd : dirE ts (3 * t + r) = (crT (ts.getD t (0, 0, 0)) r, crT (ts.getD t (0, 0, 0)) ((r + 1) % 3)) := by
    unfold dirE
    rw [show (3 * t + r) / 3 = t by omega, show (3 * t + r) % 3 = r by omega]
  have hne := dirE_ne g (show 3 * t + r < 3 * ts.length by omega)
  rw [hd] at hne
  generalize crT (ts.getD t (0, 0, 0)) r = A at *
  generalize crT (ts.getD t (0, 0, 0)) ((r + 1) % 3) = B at *
  simp only at hne
  have hi := edS_inv (ts := ts) (fun u hu => dirE_ne g hu) _ (Nat.le_refl _)
  cases hg : getM (edS ts (3 * ts.length)) (kyE A B) with
  | none =>
    have h2 := hi.2 _ hg (by unfold kyE; simp only; omega) (3 * t + r) (by omega)
    rw [hd] at h2
    unfold kyE at h2
    simp only at h2
    rcases Nat.lt_or_ge A B with h3 | h3
    · exact absurd (Prod.ext (by simp only; omega) (by simp only; omega)) h2.1
    · exact absurd (Prod.ext (by simp only; omega) (by simp only; omega)) h2.2
  | some e =>
    have h2 := hi.1 _ _ hg
    refine ⟨e, (srtE_perm _).mem_iff.2 (List.mem_map.2 ⟨_, getM_mem hg, rfl⟩), ?_⟩
    rw [h2.ea, h2.eb]
    unfold kyE
    simp only
    omega
theorem not_along (g : GoodM ps ts) (hab : a ≠ b) (hc : ∀ e ∈ edL ts, cutQ a b (cor ps e.a) (cor ps e.b) ≠ 2) : NoRun ps ts a b := by
  intro t ht lo hi h0 h1 h2 k1 k2
  have hT := g.lft ht
  unfold Lft at hT
  have hne : ptS a b lo ≠ ptS a b hi := fun e => by
    have x1 := congrArg Pt.x e; have y1 := congrArg Pt.y e
    simp only [ptS, add_x, add_y, scale_x, scale_y, sub_x, sub_y] at x1 y1
    have hz : ∀ z : Rat, z * (hi - lo) = 0 → z = 0 := fun z h => by
      rcases Rat.mul_eq_zero.1 h with h | h
      · exact h
      · grind
    have e1 := hz (b.x - a.x) (by grind)
    have e2 := hz (b.y - a.y) (by grind)
    exact hab (Pt.ext (by grind) (by grind))
  have kill : ∀ (r : Nat) (A B : Pt) (u v : Rat), r < 3 → A = cor ps (crT (ts.getD t (0, 0, 0)) r) → B = cor ps (crT (ts.getD t (0, 0, 0)) ((r + 1) % 3)) → 0 ≤ u → u ≤ 1 → 0 ≤ v → v ≤ 1 → ptS a b lo = ptS A B u → ptS a b hi = ptS A B v → False := by
    intro r A B u v hr hA hB u0 u1 v0 v1 e1 e2
    obtain ⟨e, he, hh⟩ := edge_has g ht hr
    refine hc e he ?_
    rcases hh with ⟨h3, h4⟩ | ⟨h3, h4⟩
    · rw [h3, h4, ← hA, ← hB]; exact cut_two h0 (by grind) (by grind) h2 u0 u1 v0 v1 e1 e2 hne
    · rw [h3, h4, ← hA, ← hB]; exact cut_two' h0 (by grind) (by grind) h2 u0 u1 v0 v1 e1 e2 hne
  obtain ⟨a1, a2, a3⟩ := k1
  obtain ⟨b1, b2, b3⟩ := k2
  have m1 := fun s => turn_lin1 a b (ps.getD (ts.getD t (0, 0, 0)).2.1 ⟨0, 0⟩) (ps.getD (ts.getD t (0, 0, 0)).2.2 ⟨0, 0⟩) s
  have m2 := fun s => turn_lin2 a b (ps.getD (ts.getD t (0, 0, 0)).1 ⟨0, 0⟩) (ps.getD (ts.getD t (0, 0, 0)).2.2 ⟨0, 0⟩) s
  have m3 := fun s => turn_lin3 a b (ps.getD (ts.getD t (0, 0, 0)).1 ⟨0, 0⟩) (ps.getD (ts.getD t (0, 0, 0)).2.1 ⟨0, 0⟩) s
  have c1 : ∀ A B C : Pt, turnP A B C = turnP B C A := fun A B C => by simp only [turn_def]; grind
  obtain ⟨A, hA⟩ : ∃ A, A = ps.getD (ts.getD t (0, 0, 0)).1 ⟨0, 0⟩ := ⟨_, rfl⟩
  obtain ⟨B, hB⟩ : ∃ A, A = ps.getD (ts.getD t (0, 0, 0)).2.1 ⟨0, 0⟩ := ⟨_, rfl⟩
  obtain ⟨C, hC⟩ : ∃ A, A = ps.getD (ts.getD t (0, 0, 0)).2.2 ⟨0, 0⟩ := ⟨_, rfl⟩
  unfold TriO
  rw [← hA, ← hB, ← hC] at hT
  rw [← hB, ← hC] at a1 b1 m1
  rw [← hA, ← hC] at a2 b2 m2
  rw [← hA, ← hB] at a3 b3 m3
  rw [← hA, ← hB, ← hC]
  refine ⟨?_, ?_, ?_⟩
  · apply Classical.byContradiction
    intro hn
    have y1 := m1 lo; have y2 := m1 hi; have y3 := m1 ((lo + hi) * (1 / 2))
    obtain ⟨u, u0, u1, e1⟩ := on_edge (A := B) (B := C) (C := A) (q := ptS a b lo) (by rw [← c1]; exact hT) (by rw [← c1]; exact a2) (by rw [← c1]; exact a3) (by rw [← c1]; grind)
    obtain ⟨v, v0, v1, e2⟩ := on_edge (A := B) (B := C) (C := A) (q := ptS a b hi) (by rw [← c1]; exact hT) (by rw [← c1]; exact b2) (by rw [← c1]; exact b3) (by rw [← c1]; grind)
    exact kill 1 B C u v (by decide) hB hC u0 u1 v0 v1 e1 e2
  · apply Classical.byContradiction
    intro hn
    have y1 := m2 lo; have y2 := m2 hi; have y3 := m2 ((lo + hi) * (1 / 2))
    obtain ⟨u, u0, u1, e1⟩ := on_edge (A := C) (B := A) (C := B) (q := ptS a b lo) (by rw [c1]; exact hT) (by rw [c1]; exact a3) (by rw [c1]; exact a1) (by rw [c1]; grind)
    obtain ⟨v, v0, v1, e2⟩ := on_edge (A := C) (B := A) (C := B) (q := ptS a b hi) (by rw [c1]; exact hT) (by rw [c1]; exact b3) (by rw [c1]; exact b1) (by rw [c1]; grind)
    exact kill 2 C A u v (by decide) hC hA u0 u1 v0 v1 e1 e2
  · apply Classical.byContradiction
    intro hn
    have y1 := m3 lo; have y2 := m3 hi; have y3 := m3 ((lo + hi) * (1 / 2))
    obtain ⟨u, u0, u1, e1⟩ := on_edge (A := A) (B := B) (C := C) (q := ptS a b lo) hT a1 a2 (by grind)
    obtain ⟨v, v0, v1, e2⟩ := on_edge (A := A) (B := B) (C := C) (q := ptS a b hi) hT b1 b2 (by grind)
    exact kill 0 A B u v (by decide) hA hB u0 u1 v0 v1 e1 e2
end
end
end Go.Proofs.YtnofgcpajmldkaaGreatDoor
