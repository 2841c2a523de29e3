import Derived.Test.YtgiacpkjnikjdaaGreatPart40
import Derived.Test.YtgiacpkjnikjdaaGreatPart42
namespace Go.Proofs.YtgiacpkjnikjdaaGreat
open Go Go.RowKit
set_option linter.unusedVariables false
set_option linter.unusedSimpArgs false
section
def PQ (k : Map4) (den : Nat) (X Y : Rat) : Pt := ⟨((k.a : Rat) * X + (k.b : Rat) * Y) / (((max den 1 : Nat) : Int) : Rat), ((k.c : Rat) * X + (k.d : Rat) * Y) / (((max den 1 : Nat) : Int) : Rat)⟩
theorem PQ_of (k : Map4) (den : Nat) (A : P2) : ptOf (pdM k den A) = PQ k den (A.1 : Rat) (A.2 : Rat) := by
  simp only [ptOf, pdM, qOf, Map4.at_, PQ, Rat.intCast_add, Rat.intCast_mul, Rat.intCast_natCast]
theorem PQ_mid (k : Map4) (den : Nat) (A B : P2) : scaleP (ptOf (pdM k den A) + ptOf (pdM k den B)) (1 / 2) = PQ k den (((A.1 + B.1 : Nat) : Rat) * (1 / 2)) (((A.2 + B.2 : Nat) : Rat) * (1 / 2)) := by
  rw [PQ_of, PQ_of]
  refine Pt.ext ?_ ?_ <;> simp only [PQ, scale_x, scale_y, add_x, add_y, Rat.natCast_add, Rat.div_def] <;> generalize (((max den 1 : Nat) : Int) : Rat)⁻¹ = e <;> grind
theorem lat_turn {k : Map4} (h : k.Ok) (den : Nat) : ∃ c : Rat, 0 < c ∧ ∀ (A B : P2) (X Y : Rat), turnP (ptOf (pdM k den A)) (ptOf (pdM k den B)) (PQ k den X Y) = c * lnQ A B X Y := by
  have hD : 0 < (((max den 1 : Nat) : Int) : Rat) := by exact_mod_cast (show (0 : Int) < ((max den 1 : Nat) : Int) by omega)
  have hd : (0 : Rat) < (k.det : Rat) := by exact_mod_cast h.pos
  have ed : (k.det : Rat) = (k.a : Rat) * (k.d : Rat) - (k.b : Rat) * (k.c : Rat) := by simp only [Map4.det, Rat.intCast_sub, Rat.intCast_mul]
  have hi := Rat.inv_pos.2 hD
  refine ⟨(k.det : Rat) * ((((max den 1 : Nat) : Int) : Rat)⁻¹ * (((max den 1 : Nat) : Int) : Rat)⁻¹), Rat.mul_pos hd (Rat.mul_pos hi hi), fun A B X Y => ?_⟩
  rw [PQ_of, PQ_of, ed]
  simp only [turn_def, PQ, lnQ, Rat.div_def]
  generalize (((max den 1 : Nat) : Int) : Rat)⁻¹ = e
  grind
theorem rot_ex (m : MQ) (t : Nat) {k : Nat} (hk : k < 3) : ∃ r, r < 3 ∧ rotM m t r = k := by
  unfold rotM
  generalize t * (m.fst / 3) = q
  have e : (m.fst + q) % 3 = 0 ∨ (m.fst + q) % 3 = 1 ∨ (m.fst + q) % 3 = 2 := by omega
  rcases e with e | e | e
  · exact ⟨k, hk, by omega⟩
  · exact ⟨(k + 2) % 3, Nat.mod_lt _ (by decide), by omega⟩
  · exact ⟨(k + 1) % 3, Nat.mod_lt _ (by decide), by omega⟩
theorem rot_next (m : MQ) (t r : Nat) : rotM m t ((r + 1) % 3) = (rotM m t r + 1) % 3 := by unfold rotM; omega
def crn (t : Nat × Nat × Nat) (r : Nat) : Nat := if r = 0 then t.1 else if r = 1 then t.2.1 else t.2.2
def hasI (t : Nat × Nat × Nat) (p : Nat) : Bool := t.1 == p || t.2.1 == p || t.2.2 == p
theorem hasI_iff {t : Nat × Nat × Nat} {p : Nat} : hasI t p = true ↔ ∃ r, r < 3 ∧ crn t r = p := by
  simp only [hasI, Bool.or_eq_true, beq_iff_eq]
  constructor
  · rintro ((h | h) | h)
    · exact ⟨0, by omega, h⟩
    · exact ⟨1, by omega, h⟩
    · exact ⟨2, by omega, h⟩
  · rintro ⟨r, hr, h⟩
    have : r = 0 ∨ r = 1 ∨ r = 2 := by omega
    rcases this with rfl | rfl | rfl
    · exact .inl (.inl h)
    · exact .inl (.inr h)
    · exact .inr h
theorem TriAt.crn {m : MQ} {pl : List P2} {n : Nat × Nat × Nat} {t : Nat} (h : TriAt m pl n t) {r : Nat} (hr : r < 3) : Go.Proofs.YtgiacpkjnikjdaaGreat.crn n r < pl.length ∧ pl.getD (Go.Proofs.YtgiacpkjnikjdaaGreat.crn n r) (0, 0) = cornM m t r := by
  have : r = 0 ∨ r = 1 ∨ r = 2 := by omega
  rcases this with rfl | rfl | rfl
  · exact h.a
  · exact h.b
  · exact h.c
section
variable {ps : List Pt} {ts : List (Nat × Nat × Nat)}
structure Lat (ps : List Pt) (ts : List (Nat × Nat × Nat)) (m : MQ) (pl : List P2) : Prop where
  inv : WInv m (cellsM m).length pl ts
  dst : Dst pl
  pl_len : ps.length = pl.length
  at_ : ∀ i, i < pl.length → ps.getD i ⟨0, 0⟩ = ptOf (pdM (mapM m) (denM m) (pl.getD i (0, 0)))
theorem GoodM.lattice (g : GoodM ps ts) : ∃ m pl, Lat ps ts m pl := by
  obtain ⟨m, pl, h1, h2, h3⟩ := g.lat
  have hz : (zsM m pl).length = pl.length := by simp [zsM]
  refine ⟨m, pl, h1, h2, by rw [h3, psN_len (by omega)], fun i hi => ?_⟩
  rw [h3, ← hz, psN_get (by rw [hz]; exact hi), zsM_get hi]
  rfl
theorem Lat.cell {m : MQ} {pl : List P2} (l : Lat ps ts m pl) {t : Nat} (ht : t < ts.length) : (cellsM m).getD t ((0, 0), (0, 0), (0, 0)) ∈ cellsM m := by
  have h := l.inv.tl
  rw [List.getD, List.getElem?_eq_getElem (by omega)]; exact List.getElem_mem _
theorem Lat.inC {m : MQ} {pl : List P2} (l : Lat ps ts m pl) {t : Nat} (ht : t < ts.length) {X Y : Rat} (h : TriC ps (ts.getD t (0, 0, 0)) (PQ (mapM m) (denM m) X Y)) : Go.Proofs.YtgiacpkjnikjdaaGreat.inC ((cellsM m).getD t ((0, 0), (0, 0), (0, 0))) X Y := by
  obtain ⟨c, hc, key⟩ := lat_turn (map4_ok m.a m.b m.c m.d) (denM m)
  have hk : mapM m = map4 m.a m.b m.c m.d := rfl
  rw [← hk] at key
  have hat := l.inv.at_ t (by have := l.inv.tl; omega)
  obtain ⟨⟨a1, a2⟩, ⟨b1, b2⟩, ⟨c1, c2⟩⟩ := hat
  obtain ⟨k1, k2, k3⟩ := h
  rw [l.at_ _ b1, l.at_ _ c1, b2, c2, ← turn_cyc, key] at k1
  rw [l.at_ _ a1, l.at_ _ c1, a2, c2, turn_cyc, key] at k2
  rw [l.at_ _ a1, l.at_ _ b1, a2, b2, key] at k3
  exact (corn_in m t X Y).2 (nn_of hc k1) (nn_of hc k2) (nn_of hc k3)
theorem Lat.idx {m : MQ} {pl : List P2} (l : Lat ps ts m pl) {t p : Nat} (ht : t < ts.length) (hp : p < pl.length) (h : ∃ k, k < 3 ∧ comp ((cellsM m).getD t ((0, 0), (0, 0), (0, 0))) k = pl.getD p (0, 0)) : hasI (ts.getD t (0, 0, 0)) p = true := by
  obtain ⟨k, hk, e⟩ := h
  obtain ⟨r, hr, e2⟩ := rot_ex m t hk
  obtain ⟨h1, h2⟩ := (l.inv.at_ t (by have := l.inv.tl; omega)).crn hr
  have e3 : cornM m t r = pl.getD p (0, 0) := by rw [← e, ← e2]; rfl
  exact hasI_iff.2 ⟨r, hr, l.dst _ _ h1 hp (by rw [h2, e3])⟩
theorem mesh_used (g : GoodM ps ts) {p : Nat} (hp : p < ps.length) : ∃ j, j < ts.length ∧ hasI (ts.getD j (0, 0, 0)) p = true := by
  obtain ⟨m, pl, l⟩ := g.lattice
  obtain ⟨j, hj, h⟩ := l.inv.used p (by rw [← l.pl_len]; exact hp)
  refine ⟨j, by have := l.inv.tl; omega, ?_⟩
  simp only [hasI, Bool.or_eq_true, beq_iff_eq]
  rcases h with h | h | h
  · exact .inl (.inl h)
  · exact .inl (.inr h)
  · exact .inr h
theorem mesh_dst (g : GoodM ps ts) {p q : Nat} (hp : p < ps.length) (hq : q < ps.length) (h : ps.getD p ⟨0, 0⟩ = ps.getD q ⟨0, 0⟩) : p = q := by
  obtain ⟨m, pl, l⟩ := g.lattice
  obtain ⟨j, hj, hh⟩ := mesh_used g hq
  obtain ⟨r, hr, e⟩ := hasI_iff.1 hh
  have hp' : p < pl.length := by rw [← l.pl_len]; exact hp
  have hq' : q < pl.length := by rw [← l.pl_len]; exact hq
  rw [l.at_ p hp', l.at_ q hq'] at h
  refine l.dst p q hp' hq' ?_
  have hD : 0 < (((max (denM m) 1 : Nat) : Int) : Rat) := by exact_mod_cast (show (0 : Int) < ((max (denM m) 1 : Nat) : Int) by omega)
  have hk := map4_ok m.a m.b m.c m.d
  have hdet := hk.pos
  have hx := congrArg Pt.x h
  have hy := congrArg Pt.y h
  rw [PQ_of, PQ_of] at hx hy
  simp only [PQ, Rat.div_def] at hx hy
  have hi := Rat.inv_pos.2 hD
  generalize (((max (denM m) 1 : Nat) : Int) : Rat)⁻¹ = e at *
  generalize pl.getD p (0, 0) = A at *
  generalize pl.getD q (0, 0) = B at *
  obtain ⟨x1, y1⟩ := A
  obtain ⟨x2, y2⟩ := B
  simp only at hx hy
  have hd : (0 : Rat) < ((mapM m).det : Rat) := by exact_mod_cast hdet
  have ed : ((mapM m).det : Rat) = ((mapM m).a : Rat) * ((mapM m).d : Rat) - ((mapM m).b : Rat) * ((mapM m).c : Rat) := by simp only [Map4.det, Rat.intCast_sub, Rat.intCast_mul]
  rw [ed] at hd
  generalize ((mapM m).a : Rat) = a at *
  generalize ((mapM m).b : Rat) = b at *
  generalize ((mapM m).c : Rat) = c at *
  generalize ((mapM m).d : Rat) = d at *
  clear hD hk hdet ed h
  have hX : ((x1 : Rat) - (x2 : Rat)) * (a * d - b * c) * e = 0 := by grind
  have hY : ((y1 : Rat) - (y2 : Rat)) * (a * d - b * c) * e = 0 := by grind
  have z1 : (x1 : Rat) - (x2 : Rat) = 0 := by
    rcases Rat.mul_eq_zero.1 hX with h | h
    · rcases Rat.mul_eq_zero.1 h with h | h
      · exact h
      · grind
    · grind
  have z2 : (y1 : Rat) - (y2 : Rat) = 0 := by
    rcases Rat.mul_eq_zero.1 hY with h | h
    · rcases Rat.mul_eq_zero.1 h with h | h
      · exact h
      · grind
    · grind
  have w1 : (x1 : Rat) = (x2 : Rat) := by grind
  have w2 : (y1 : Rat) = (y2 : Rat) := by grind
  exact Prod.ext (by exact_mod_cast w1) (by exact_mod_cast w2)
theorem mesh_corner (g : GoodM ps ts) {p t : Nat} (hp : p < ps.length) (ht : t < ts.length) (h : TriC ps (ts.getD t (0, 0, 0)) (ps.getD p ⟨0, 0⟩)) : hasI (ts.getD t (0, 0, 0)) p = true := by
  obtain ⟨m, pl, l⟩ := g.lattice
  have hp' : p < pl.length := by rw [← l.pl_len]; exact hp
  obtain ⟨j, hj, hh⟩ := mesh_used g hp
  obtain ⟨r, hr, e⟩ := hasI_iff.1 hh
  have hc := ((l.inv.at_ j (by have := l.inv.tl; omega)).crn hr).2
  rw [e] at hc
  refine l.idx ht hp' ?_
  rw [l.at_ p hp', PQ_of] at h
  have h2 := l.inC ht h
  rw [hc] at h2 ⊢
  exact conf_corner (l.cell hj) (l.cell ht) (Nat.mod_lt _ (by decide)) h2
theorem mesh_mid (g : GoodM ps ts) {s t r : Nat} (hs : s < ts.length) (ht : t < ts.length) (hr : r < 3) (h : TriC ps (ts.getD t (0, 0, 0)) (scaleP (ps.getD (crn (ts.getD s (0, 0, 0)) r) ⟨0, 0⟩ + ps.getD (crn (ts.getD s (0, 0, 0)) ((r + 1) % 3)) ⟨0, 0⟩) (1 / 2))) :
    hasI (ts.getD t (0, 0, 0)) (crn (ts.getD s (0, 0, 0)) r) = true ∧ hasI (ts.getD t (0, 0, 0)) (crn (ts.getD s (0, 0, 0)) ((r + 1) % 3)) = true := by
  obtain ⟨m, pl, l⟩ := g.lattice
  have hat := l.inv.at_ s (by have := l.inv.tl; omega)
  obtain ⟨a1, a2⟩ := hat.crn hr
  obtain ⟨b1, b2⟩ := hat.crn (Nat.mod_lt (r + 1) (show 0 < 3 by decide))
  rw [l.at_ _ a1, l.at_ _ b1, PQ_mid, a2, b2] at h
  have h2 := l.inC ht h
  unfold cornM at h2
  rw [rot_next] at h2
  obtain ⟨k1, k2⟩ := conf_mid (l.cell hs) (l.cell ht) (r := rotM m s r) (Nat.mod_lt _ (by decide)) h2
  refine ⟨l.idx ht a1 ?_, l.idx ht b1 ?_⟩
  · rw [a2]; exact k1
  · rw [b2]; unfold cornM; rw [rot_next]; exact k2
end
end
section
def trK (t : T3) : List P2 := [kyE t.1 t.2.1, kyE t.2.1 t.2.2, kyE t.2.2 t.1]
def dvK (md : List (P2 × Nat)) (k : P2) : List P2 := match getM md k with
  | none => [k]
  | some n => [(k.1, n), (k.2, n)]
structure MidM (md : List (P2 × Nat)) (N : Nat) : Prop where
  new : ∀ k n, getM md k = some n → N ≤ n
  inj : ∀ k k' n, getM md k = some n → getM md k' = some n → k = k'
def Inn (md : List (P2 × Nat)) (N : Nat) (κ : P2) : Prop := ∀ k : P2, k.1 < k.2 → k.2 < N → κ ∉ dvK md k
def innK (md : List (P2 × Nat)) (n : Nat) (k : P2) : List P2 := match getM md k with
  | none => []
  | some n' => [kyE n n']
section
variable {md : List (P2 × Nat)} {N M n a b c e p : Nat} {k κ : P2} {T : T3} {ts ts' : List T3}
theorem dvK_none (h : getM md k = none) : dvK md k = [k] := by unfold dvK; rw [h]
theorem dvK_some (h : getM md k = some n) : dvK md k = [(k.1, n), (k.2, n)] := by unfold dvK; rw [h]
theorem dv_two (h : getM md (kyE a b) = some n) : (dvK md (kyE a b)).count κ = [((a : Nat), n), (b, n)].count κ := by
  rw [dvK_some h]
  unfold kyE
  rcases Nat.le_total a b with h1 | h1
  · rw [Nat.min_eq_left h1, Nat.max_eq_right h1]
  · rw [Nat.min_eq_right h1, Nat.max_eq_left h1]
    simp only [List.count_cons, List.count_nil]
    omega
theorem kyE_hi (h : p < N) (hn : N ≤ n) : kyE n p = (p, n) ∧ kyE p n = (p, n) := by
  unfold kyE
  rw [Nat.min_eq_right (by omega), Nat.max_eq_left (by omega), Nat.min_eq_left (by omega), Nat.max_eq_right (by omega)]; exact ⟨rfl, rfl⟩
theorem one_cnt (hM : MidM md N) (hn : N ≤ n) (hc : c < N) (he : e < N) : ((hvT md 1 (n, c, e)).flatMap trK).count κ = [((c : Nat), n), (e, n)].count κ + (dvK md (kyE c e)).count κ + 2 * (innK md n (kyE c e)).count κ := by
  cases hb : getM md (baseK (n, c, e)) with
  | none =>
    have hb' : getM md (kyE c e) = none := hb
    rw [hvT_no hb, dvK_none hb']
    unfold innK
    rw [hb']
    show ([kyE n c, kyE c e, kyE e n] : List P2).count κ = _
    rw [(kyE_hi hc hn).1, (kyE_hi he hn).2]
    simp only [List.count_cons, List.count_nil]
    omega
  | some n' =>
    have hb' : getM md (kyE c e) = some n' := hb
    have hn' := hM.new _ _ hb'
    rw [hvT_yes hb, dv_two hb']
    unfold innK
    rw [hb']
    show ([kyE n' n, kyE n c, kyE c n', kyE n' e, kyE e n, kyE n n'] : List P2).count κ = _
    rw [(kyE_hi hc hn).1, (kyE_hi hc hn').2, (kyE_hi he hn').1, (kyE_hi he hn).2, kyE_comm n' n]
    simp only [List.count_cons, List.count_nil]
    omega
theorem dvK_fst (h : κ ∈ dvK md k) : κ.1 = k.1 ∨ κ.1 = k.2 := by
  cases hg : getM md k with
  | none => rw [dvK_none hg, List.mem_singleton] at h; exact .inl (by rw [h])
  | some n =>
    rw [dvK_some hg] at h
    simp only [List.mem_cons, List.not_mem_nil, or_false] at h
    rcases h with rfl | rfl
    · exact .inl rfl
    · exact .inr rfl
theorem hv_cnt (hM : MidM md N) (hT : TrN N T) (hcl : getM md (baseK T) = none → getM md (kyE T.1 T.2.1) = none ∧ getM md (kyE T.2.2 T.1) = none) : ∃ I : List P2, (∀ κ, ((hvT md 2 T).flatMap trK).count κ = ((trK T).flatMap (dvK md)).count κ + 2 * I.count κ) ∧ ∀ κ ∈ I, Inn md N κ := by
  obtain ⟨p0, p1, p2⟩ := T
  obtain ⟨⟨a0, a1, a2⟩, d1, d2, d3⟩ := hT
  simp only at a0 a1 a2 d1 d2 d3
  cases hb : getM md (baseK (p0, p1, p2)) with
  | none =>
    obtain ⟨h1, h2⟩ := hcl hb
    have hb' : getM md (kyE p1 p2) = none := hb
    refine ⟨[], fun κ => ?_, fun κ h => by cases h⟩
    rw [hvT_no hb]
    show ([kyE p0 p1, kyE p1 p2, kyE p2 p0] : List P2).count κ = (dvK md (kyE p0 p1) ++ (dvK md (kyE p1 p2) ++ (dvK md (kyE p2 p0) ++ []))).count κ + 2 * 0
    rw [dvK_none h1, dvK_none hb', dvK_none h2]
    rfl
  | some n =>
    have hb' : getM md (kyE p1 p2) = some n := hb
    have hn := hM.new _ _ hb'
    refine ⟨(p0, n) :: (innK md n (kyE p0 p1) ++ innK md n (kyE p2 p0)), fun κ => ?_, fun κ h k h1 h2 hk => ?_⟩
    · rw [hvT_yes hb, List.flatMap_append, List.count_append]
      show ((hvT md 1 (n, p0, p1)).flatMap trK).count κ + ((hvT md 1 (n, p2, p0)).flatMap trK).count κ = (dvK md (kyE p0 p1) ++ (dvK md (kyE p1 p2) ++ (dvK md (kyE p2 p0) ++ []))).count κ + _
      rw [one_cnt hM hn a0 a1, one_cnt hM hn a2 a0]
      simp only [List.count_append, List.count_cons, List.count_nil, dv_two hb']
      omega
    · have inn : ∀ kk, κ ∈ innK md n kk → False := fun kk hh => by
        unfold innK at hh
        split at hh
        · cases hh
        · rename_i n' hg
          rw [List.mem_singleton] at hh
          have := hM.new _ _ hg
          have h3 : κ.1 = min n n' := by rw [hh]; rfl
          rcases dvK_fst hk with h4 | h4 <;> omega
      rcases List.mem_cons.1 h with rfl | h
      · cases hg : getM md k with
        | none =>
          rw [dvK_none hg, List.mem_singleton] at hk
          rw [← hk] at h2
          simp only at h2
          omega
        | some n' =>
          rw [dvK_some hg] at hk
          have hnn : n = n' ∧ (p0 = k.1 ∨ p0 = k.2) := by
            simp only [List.mem_cons, List.not_mem_nil, or_false, Prod.mk.injEq] at hk
            omega
          obtain ⟨rfl, h3⟩ := hnn
          have := hM.inj _ _ _ hg hb'
          rw [this] at h3
          unfold kyE at h3
          simp only at h3
          omega
      · exact (List.mem_append.1 h).elim (inn _) (inn _)
theorem sub_cnt {ch : T3 → List T3} (h : ∀ t ∈ ts, ∃ I : List P2, (∀ κ, ((ch t).flatMap trK).count κ = ((trK t).flatMap (dvK md)).count κ + 2 * I.count κ) ∧ ∀ κ ∈ I, Inn md N κ) : ∃ I : List P2, (∀ κ, (allK (ts.flatMap ch)).count κ = ((allK ts).flatMap (dvK md)).count κ + 2 * I.count κ) ∧ ∀ κ ∈ I, Inn md N κ := by
  induction ts with
  | nil => exact ⟨[], fun κ => rfl, fun κ h => by cases h⟩
  | cons t r ih =>
    obtain ⟨I1, a1, b1⟩ := h t List.mem_cons_self
    obtain ⟨I2, a2, b2⟩ := ih fun t ht => h t (List.mem_cons_of_mem _ ht)
    refine ⟨I1 ++ I2, fun κ => ?_, fun κ hk => (List.mem_append.1 hk).elim (b1 κ) (b2 κ)⟩
    have e1 : allK ((t :: r).flatMap ch) = (ch t).flatMap trK ++ allK (r.flatMap ch) := by
      show List.flatMap trK ((t :: r).flatMap ch) = _
      rw [List.flatMap_cons, List.flatMap_append]; rfl
    have e2 : (allK (t :: r)).flatMap (dvK md) = (trK t).flatMap (dvK md) ++ (allK r).flatMap (dvK md) := by
      show List.flatMap (dvK md) ((t :: r).flatMap trK) = _
      rw [List.flatMap_cons, List.flatMap_append]; rfl
    rw [e1, e2, List.count_append, List.count_append, List.count_append, a1, a2]
    omega
theorem cnt_flat {l : List P2} {f : P2 → List P2} (k0 : P2) (h1 : (f k0).count κ = 1) (h2 : ∀ k ∈ l, k ≠ k0 → κ ∉ f k) : (l.flatMap f).count κ = l.count k0 := by
  induction l with
  | nil => rfl
  | cons k r ih =>
    rw [List.flatMap_cons, List.count_append, ih fun k hk => h2 k (List.mem_cons_of_mem _ hk)]
    by_cases e : k = k0
    · subst e
      rw [h1, List.count_cons_self, Nat.add_comm]
    · rw [List.count_eq_zero.2 (h2 k List.mem_cons_self e), List.count_cons_of_ne e, Nat.zero_add]
theorem dv_inj (hM : MidM md N) {k' : P2} (hk : k.2 < N) (hk' : k'.2 < N) (h : κ ∈ dvK md k) (h' : κ ∈ dvK md k') : k = k' := by
  cases hg : getM md k with
  | none =>
    rw [dvK_none hg, List.mem_singleton] at h
    cases hg' : getM md k' with
    | none => rw [dvK_none hg', List.mem_singleton] at h'; rw [← h, h']
    | some n' =>
      rw [dvK_some hg'] at h'
      have := hM.new _ _ hg'
      have h2 : κ.2 = n' := by
        simp only [List.mem_cons, List.not_mem_nil, or_false] at h'
        rcases h' with rfl | rfl <;> rfl
      rw [h] at h2
      omega
  | some n =>
    rw [dvK_some hg] at h
    have := hM.new _ _ hg
    have h2 : κ.2 = n := by
      simp only [List.mem_cons, List.not_mem_nil, or_false] at h
      rcases h with rfl | rfl <;> rfl
    cases hg' : getM md k' with
    | none =>
      rw [dvK_none hg', List.mem_singleton] at h'
      rw [h'] at h2
      omega
    | some n' =>
      rw [dvK_some hg'] at h'
      have h3 : κ.2 = n' := by
        simp only [List.mem_cons, List.not_mem_nil, or_false] at h'
        rcases h' with rfl | rfl <;> rfl
      exact hM.inj _ _ _ hg (by rw [hg', ← h3, h2])
theorem dv_nodup (h : k.1 < k.2) : (dvK md k).Nodup := by
  cases hg : getM md k with
  | none => rw [dvK_none hg]; simp
  | some n =>
    rw [dvK_some hg]
    simp only [List.nodup_cons, List.mem_singleton, List.not_mem_nil, not_false_eq_true, List.nodup_nil, and_true, Prod.mk.injEq]
    omega
theorem dv_once (h : k.1 < k.2) (hm : κ ∈ dvK md k) : (dvK md k).count κ = 1 := by
  have h1 := List.count_pos_iff.2 hm
  have h2 := List.nodup_iff_count.1 (dv_nodup (md := md) h) κ
  omega
theorem sub_rim (hM : MidM md N) (hk : ∀ k ∈ allK ts, k.1 < k.2 ∧ k.2 < N) (hn' : numB M ts' = true) (hM' : M ≤ 4611686018427387904) (hc : ∃ I : List P2, (∀ κ, (allK ts').count κ = ((allK ts).flatMap (dvK md)).count κ + 2 * I.count κ) ∧ ∀ κ ∈ I, Inn md N κ) {s : T3} :
    s ∈ rimL ts' ↔ (∃ k, (allK ts).count k = 1 ∧ (s.1, s.2.1) ∈ dvK md k) ∧ s.2.2 = 0 := by
  obtain ⟨I, h1, h2⟩ := hc
  have hs := h1 (s.1, s.2.1)
  have key : ∀ k ∈ allK ts, (s.1, s.2.1) ∈ dvK md k → ((allK ts).flatMap (dvK md)).count (s.1, s.2.1) = (allK ts).count k := fun k hkk hm => cnt_flat k (dv_once (hk k hkk).1 hm) fun k' hk' hne hm' => hne (dv_inj hM (hk k' hk').2 (hk k hkk).2 hm' hm)
  rw [mem_rimL hn' hM']
  constructor
  · rintro ⟨h, h0⟩
    have h3 : ((allK ts).flatMap (dvK md)).count (s.1, s.2.1) = 1 := by omega
    obtain ⟨k, hkk, hm⟩ := List.mem_flatMap.1 (List.count_pos_iff.1 (show 0 < _ by rw [h3]; decide))
    exact ⟨⟨k, by rw [← key k hkk hm, h3], hm⟩, h0⟩
  · rintro ⟨⟨k, h3, hm⟩, h0⟩
    have hkk : k ∈ allK ts := List.count_pos_iff.1 (by rw [h3]; decide)
    have h4 : I.count (s.1, s.2.1) = 0 := List.count_eq_zero.2 fun h5 => h2 _ h5 k (hk k hkk).1 (hk k hkk).2 hm
    exact ⟨by rw [hs, key k hkk hm, h3, h4], h0⟩
end
end
section
def onS (u v p : Pt) : Prop := turnP u v p = 0 ∧ ¬ ltL p (lsP u v) ∧ ¬ ltL (grP u v) p
instance (u v p : Pt) : Decidable (onS u v p) := by unfold onS; infer_instance
section
variable {u v p q : Pt}
theorem lt_tot (h : u ≠ v) : ltL u v ∨ ltL v u := by
  unfold ltL
  rcases (show u.x < v.x ∨ u.x = v.x ∨ v.x < u.x by grind) with h1 | h1 | h1
  · exact .inl (.inl h1)
  · rcases (show u.y < v.y ∨ u.y = v.y ∨ v.y < u.y by grind) with h2 | h2 | h2
    · exact .inl (.inr ⟨h1, h2⟩)
    · exact absurd (Pt.ext h1 h2) h
    · exact .inr (.inr ⟨h1.symm, h2⟩)
  · exact .inr (.inl h1)
theorem lt_asym (h : ltL u v) : ¬ ltL v u := by unfold ltL at *; grind
theorem lsP_lt (h : ltL u v) : lsP u v = u ∧ lsP v u = u ∧ grP u v = v ∧ grP v u = v := by
  have := lt_asym h
  unfold lsP grP
  exact ⟨if_neg this, if_pos h, if_pos h, if_neg this⟩
theorem onS_symm (h : onS u v p) : onS v u p := by
  by_cases e : u = v
  · subst e; exact h
  obtain ⟨h1, h2, h3⟩ := h
  refine ⟨by simp only [turn_def] at *; grind, ?_⟩
  rcases lt_tot e with k | k
  · obtain ⟨a, b, c, d⟩ := lsP_lt k
    rw [a] at h2; rw [c] at h3; rw [b, d]; exact ⟨h2, h3⟩
  · obtain ⟨a, b, c, d⟩ := lsP_lt k
    rw [b] at h2; rw [d] at h3; rw [a, c]; exact ⟨h2, h3⟩
theorem on_par1 (h : onS u v p) (k : ltL u v) : ∃ s : Rat, 0 ≤ s ∧ s ≤ 1 ∧ p.x = u.x + s * (v.x - u.x) ∧ p.y = u.y + s * (v.y - u.y) := by
  obtain ⟨h1, h2, h3⟩ := h
  obtain ⟨a, b, c, d⟩ := lsP_lt k
  rw [a] at h2; rw [c] at h3
  simp only [turn_def] at h1
  unfold ltL at h2 h3 k
  rcases k with k | ⟨k1, k2⟩
  · have hd : 0 < v.x - u.x := by grind
    have hi := Rat.inv_pos.2 hd
    have he : (v.x - u.x)⁻¹ * (v.x - u.x) = 1 := Rat.inv_mul_cancel _ (by grind)
    have g1 : 0 ≤ p.x - u.x := by grind
    have g2 : 0 ≤ v.x - p.x := by grind
    have n1 := Rat.mul_nonneg g1 (Rat.le_of_lt hi)
    have n2 := Rat.mul_nonneg g2 (Rat.le_of_lt hi)
    generalize (v.x - u.x)⁻¹ = e at *
    exact ⟨(p.x - u.x) * e, n1, by grind, by grind, by grind⟩
  · have hd : 0 < v.y - u.y := by grind
    have hi := Rat.inv_pos.2 hd
    have he : (v.y - u.y)⁻¹ * (v.y - u.y) = 1 := Rat.inv_mul_cancel _ (by grind)
    have hx : p.x = u.x := by
      have : (v.y - u.y) * (p.x - u.x) = 0 := by grind
      rcases Rat.mul_eq_zero.1 this with h | h
      · grind
      · grind
    have g1 : 0 ≤ p.y - u.y := by grind
    have g2 : 0 ≤ v.y - p.y := by grind
    have n1 := Rat.mul_nonneg g1 (Rat.le_of_lt hi)
    have n2 := Rat.mul_nonneg g2 (Rat.le_of_lt hi)
    generalize (v.y - u.y)⁻¹ = e at *
    exact ⟨(p.y - u.y) * e, n1, by grind, by grind, by grind⟩
theorem on_par (h : onS u v p) (hne : u ≠ v) : ∃ s : Rat, 0 ≤ s ∧ s ≤ 1 ∧ p.x = u.x + s * (v.x - u.x) ∧ p.y = u.y + s * (v.y - u.y) := by
  rcases lt_tot hne with k | k
  · exact on_par1 h k
  · obtain ⟨s, h1, h2, h3, h4⟩ := on_par1 (onS_symm h) k
    exact ⟨1 - s, by grind, by grind, by grind, by grind⟩
theorem onS_lt (k : ltL u v) : onS u v u ∧ onS u v v ∧ onS u v (scaleP (u + v) (1 / 2)) := by
  obtain ⟨a, b, c, d⟩ := lsP_lt k
  unfold onS
  rw [a, c]
  refine ⟨⟨by simp only [turn_def]; grind, fun h => lt_asym h h, lt_asym k⟩, ⟨by simp only [turn_def]; grind, lt_asym k, fun h => lt_asym h h⟩, by simp only [turn_def, scale_x, scale_y, add_x, add_y]; grind, ?_, ?_⟩
  · unfold ltL at *; simp only [scale_x, scale_y, add_x, add_y]; grind
  · unfold ltL at *; simp only [scale_x, scale_y, add_x, add_y]; grind
theorem onS_ends (hne : u ≠ v) : onS u v u ∧ onS u v v ∧ onS u v (scaleP (u + v) (1 / 2)) := by
  rcases lt_tot hne with k | k
  · exact onS_lt k
  · obtain ⟨h1, h2, h3⟩ := onS_lt k
    have e : scaleP (u + v) (1 / 2) = scaleP (v + u) (1 / 2) := by refine Pt.ext ?_ ?_ <;> simp only [scale_x, scale_y, add_x, add_y] <;> grind
    rw [e]
    exact ⟨onS_symm h2, onS_symm h1, onS_symm h3⟩
theorem sq_half : dotP (scaleP (u + v) (1 / 2) - u) (scaleP (u + v) (1 / 2) - u) * 4 = dotP (v - u) (v - u) ∧ dotP (scaleP (u + v) (1 / 2) - v) (scaleP (u + v) (1 / 2) - v) * 4 = dotP (v - u) (v - u) := by
  constructor <;> simp only [dotP, sub_x, sub_y, scale_x, scale_y, add_x, add_y] <;> grind
end
section
variable {ps : List Pt} {ts : List T3}
def EdgAt (ts : List T3) (t r : Nat) (k : P2) : Prop := t < ts.length ∧ r < 3 ∧ kyE (crn (ts.getD t (0, 0, 0)) r) (crn (ts.getD t (0, 0, 0)) ((r + 1) % 3)) = k
theorem edg_of {k : P2} (h : k ∈ allK ts) : ∃ t r, EdgAt ts t r k := by
  obtain ⟨T, hT, hk⟩ := List.mem_flatMap.1 h
  obtain ⟨t, ht, rfl⟩ := List.getElem_of_mem hT
  have e : ts.getD t (0, 0, 0) = ts[t] := by rw [List.getD, List.getElem?_eq_getElem ht]; rfl
  simp only [List.mem_cons, List.not_mem_nil, or_false] at hk
  rcases hk with h | h | h
  · exact ⟨t, 0, ht, by decide, by rw [e]; exact h.symm⟩
  · exact ⟨t, 1, ht, by decide, by rw [e]; exact h.symm⟩
  · exact ⟨t, 2, ht, by decide, by rw [e]; exact h.symm⟩
theorem tri_seg (g : GoodM ps ts) {t r : Nat} (ht : t < ts.length) (hr : r < 3) {p : Pt} (h : onS (ps.getD (crn (ts.getD t (0, 0, 0)) r) ⟨0, 0⟩) (ps.getD (crn (ts.getD t (0, 0, 0)) ((r + 1) % 3)) ⟨0, 0⟩) p) : TriC ps (ts.getD t (0, 0, 0)) p := by
  have hL := g.tri t ht
  have hp := hL.pos
  have hr' : r = 0 ∨ r = 1 ∨ r = 2 := by omega
  have gen : ∀ A B C : Pt, 0 < turnP A B C → onS A B p → 0 ≤ turnP p B C ∧ 0 ≤ turnP A p C ∧ 0 ≤ turnP A B p := fun A B C hpos ho => by
    have hne : A ≠ B := fun e => by subst e; simp only [turn_def] at hpos; grind
    obtain ⟨s, h1, h2, h3, h4⟩ := on_par ho hne
    have n1 := Rat.mul_nonneg h1 (Rat.le_of_lt hpos)
    have n2 := Rat.mul_nonneg (show 0 ≤ 1 - s by grind) (Rat.le_of_lt hpos)
    have e1 : turnP p B C = (1 - s) * turnP A B C := by simp only [turn_def, h3, h4]; grind
    have e2 : turnP A p C = s * turnP A B C := by simp only [turn_def, h3, h4]; grind
    exact ⟨by rw [e1]; exact n2, by rw [e2]; exact n1, by rw [ho.1]; exact Rat.le_refl⟩
  generalize ts.getD t (0, 0, 0) = T at *
  rcases hr' with rfl | rfl | rfl
  · exact gen _ _ _ hp h
  · obtain ⟨k1, k2, k3⟩ := gen _ _ (ps.getD T.1 ⟨0, 0⟩) (by rw [turn_cyc]; exact hp) h
    exact ⟨by rw [← turn_cyc]; exact k3, by rw [← turn_cyc]; exact k1, by rw [← turn_cyc]; exact k2⟩
  · obtain ⟨k1, k2, k3⟩ := gen _ _ (ps.getD T.2.1 ⟨0, 0⟩) (by rw [← turn_cyc]; exact hp) h
    exact ⟨by rw [turn_cyc]; exact k2, by rw [turn_cyc]; exact k3, by rw [turn_cyc]; exact k1⟩
theorem seg_tri (g : GoodM ps ts) {t r : Nat} {k : P2} (hk : EdgAt ts t r k) {p : Pt} (h : onS (ps.getD k.1 ⟨0, 0⟩) (ps.getD k.2 ⟨0, 0⟩) p) : TriC ps (ts.getD t (0, 0, 0)) p := by
  obtain ⟨ht, hr, hk⟩ := hk
  refine tri_seg g ht hr ?_
  rw [← hk] at h
  unfold kyE at h
  simp only at h
  rcases Nat.le_total (crn (ts.getD t (0, 0, 0)) r) (crn (ts.getD t (0, 0, 0)) ((r + 1) % 3)) with e | e
  · rw [Nat.min_eq_left e, Nat.max_eq_right e] at h; exact h
  · rw [Nat.min_eq_right e, Nat.max_eq_left e] at h; exact onS_symm h
theorem third_off (g : GoodM ps ts) {t r x : Nat} {k : P2} (hk : EdgAt ts t r k) (hx : hasI (ts.getD t (0, 0, 0)) x = true) (h1 : x ≠ k.1) (h2 : x ≠ k.2) : turnP (ps.getD k.1 ⟨0, 0⟩) (ps.getD k.2 ⟨0, 0⟩) (ps.getD x ⟨0, 0⟩) ≠ 0 := by
  obtain ⟨ht, hr, hk⟩ := hk
  have hp := (g.tri t ht).pos
  have hr' : r = 0 ∨ r = 1 ∨ r = 2 := by omega
  have sw : ∀ A B C : Pt, turnP B A C = - turnP A B C := fun A B C => by simp only [turn_def]; grind
  have fin : ∀ {a b c : Nat}, kyE a b = k → x = c ∨ x = a ∨ x = b → 0 < turnP (ps.getD a ⟨0, 0⟩) (ps.getD b ⟨0, 0⟩) (ps.getD c ⟨0, 0⟩) → turnP (ps.getD k.1 ⟨0, 0⟩) (ps.getD k.2 ⟨0, 0⟩) (ps.getD x ⟨0, 0⟩) ≠ 0 := fun {a b c} hab hc hpos => by
    have e : (k.1 = a ∧ k.2 = b) ∨ (k.1 = b ∧ k.2 = a) := by
      rw [← hab]
      unfold kyE
      simp only
      omega
    have hxc : x = c := by omega
    rw [hxc]
    rcases e with ⟨e1, e2⟩ | ⟨e1, e2⟩
    · rw [e1, e2]; grind
    · rw [e1, e2, sw]; grind
  obtain ⟨q, hq, hqx⟩ := hasI_iff.1 hx
  have hq' : q = 0 ∨ q = 1 ∨ q = 2 := by omega
  generalize ts.getD t (0, 0, 0) = T at *
  rcases hr' with rfl | rfl | rfl
  · exact fin (c := T.2.2) hk (by rcases hq' with rfl | rfl | rfl <;> simp [crn] at hqx ⊢ <;> omega) hp
  · exact fin (c := T.1) hk (by rcases hq' with rfl | rfl | rfl <;> simp [crn] at hqx ⊢ <;> omega) (by show 0 < turnP (ps.getD T.2.1 ⟨0, 0⟩) (ps.getD T.2.2 ⟨0, 0⟩) (ps.getD T.1 ⟨0, 0⟩); rw [turn_cyc]; exact hp)
  · exact fin (c := T.2.1) hk (by rcases hq' with rfl | rfl | rfl <;> simp [crn] at hqx ⊢ <;> omega) (by show 0 < turnP (ps.getD T.2.2 ⟨0, 0⟩) (ps.getD T.1 ⟨0, 0⟩) (ps.getD T.2.1 ⟨0, 0⟩); rw [← turn_cyc]; exact hp)
theorem on_end (g : GoodM ps ts) {t r x : Nat} {k : P2} (hk : EdgAt ts t r k) (hx : x < ps.length) (h : onS (ps.getD k.1 ⟨0, 0⟩) (ps.getD k.2 ⟨0, 0⟩) (ps.getD x ⟨0, 0⟩)) : x = k.1 ∨ x = k.2 := by
  rcases Nat.decEq x k.1 with h1 | h1
  · rcases Nat.decEq x k.2 with h2 | h2
    · exact absurd h.1 (third_off g hk (mesh_corner g hx hk.1 (seg_tri g hk h)) h1 h2)
    · exact .inr h2
  · exact .inl h1
theorem on_mid (g : GoodM ps ts) {t r s r' x : Nat} {k k' : P2} (hk : EdgAt ts t r k) (hk' : EdgAt ts s r' k') (hs : k.1 < k.2) (hs' : k'.1 < k'.2) (hl : k'.2 < ps.length) (hx : x = k'.1 ∨ x = k'.2) (h1 : onS (ps.getD k.1 ⟨0, 0⟩) (ps.getD k.2 ⟨0, 0⟩) (ps.getD x ⟨0, 0⟩)) (h2 : onS (ps.getD k.1 ⟨0, 0⟩) (ps.getD k.2 ⟨0, 0⟩) (scaleP (ps.getD k'.1 ⟨0, 0⟩ + ps.getD k'.2 ⟨0, 0⟩) (1 / 2))) : k' = k := by
  have hT := seg_tri g hk h2
  obtain ⟨ht', hr', hkk⟩ := hk'
  have hsym : ∀ A B : Pt, scaleP (A + B) (1 / 2) = scaleP (B + A) (1 / 2) := fun A B => by refine Pt.ext ?_ ?_ <;> simp only [scale_x, scale_y, add_x, add_y] <;> grind
  have hm : hasI (ts.getD t (0, 0, 0)) k'.1 = true ∧ hasI (ts.getD t (0, 0, 0)) k'.2 = true := by
    rw [← hkk] at hT ⊢
    unfold kyE at hT ⊢
    simp only at hT ⊢
    rcases Nat.le_total (crn (ts.getD s (0, 0, 0)) r') (crn (ts.getD s (0, 0, 0)) ((r' + 1) % 3)) with e | e
    · rw [Nat.min_eq_left e, Nat.max_eq_right e] at hT ⊢
      exact mesh_mid g ht' hk.1 hr' hT
    · rw [Nat.min_eq_right e, Nat.max_eq_left e, hsym] at hT
      rw [Nat.min_eq_right e, Nat.max_eq_left e]
      exact (mesh_mid g ht' hk.1 hr' hT).symm
  have z : turnP (ps.getD k.1 ⟨0, 0⟩) (ps.getD k.2 ⟨0, 0⟩) (ps.getD k'.1 ⟨0, 0⟩) + turnP (ps.getD k.1 ⟨0, 0⟩) (ps.getD k.2 ⟨0, 0⟩) (ps.getD k'.2 ⟨0, 0⟩) = 0 := by
    have h3 := h2.1
    simp only [turn_def, scale_x, scale_y, add_x, add_y] at h3 ⊢
    grind
  have hxe := on_end g hk (by omega) h1
  have end0 : ∀ y, y = k.1 ∨ y = k.2 → turnP (ps.getD k.1 ⟨0, 0⟩) (ps.getD k.2 ⟨0, 0⟩) (ps.getD y ⟨0, 0⟩) = 0 := fun y hy => by
    rcases hy with rfl | rfl <;> simp only [turn_def] <;> grind
  have both : (k'.1 = k.1 ∨ k'.1 = k.2) ∧ (k'.2 = k.1 ∨ k'.2 = k.2) := by
    rcases hx with rfl | rfl
    · rw [end0 _ hxe] at z
      refine ⟨hxe, Decidable.byContradiction fun hc => third_off g hk hm.2 (fun e => hc (.inl e)) (fun e => hc (.inr e)) (by grind)⟩
    · rw [end0 _ hxe] at z
      refine ⟨Decidable.byContradiction fun hc => third_off g hk hm.1 (fun e => hc (.inl e)) (fun e => hc (.inr e)) (by grind), hxe⟩
  exact Prod.ext (by omega) (by omega)
end
end
end Go.Proofs.YtgiacpkjnikjdaaGreat
