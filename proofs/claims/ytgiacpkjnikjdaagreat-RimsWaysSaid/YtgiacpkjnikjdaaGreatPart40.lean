import Derived.Test.YtgiacpkjnikjdaaGreatPart33
import Derived.Test.YtgiacpkjnikjdaaGreatPart37
import Derived.Test.YtgiacpkjnikjdaaGreatPart39
namespace Go.Proofs.YtgiacpkjnikjdaaGreat
open Go Go.RowKit
set_option linter.unusedVariables false
set_option linter.unusedSimpArgs false
section
def hvA (md : List (P2 × Nat)) (ts : List T3) : List T3 := ts.flatMap (hvT md 2)
def hpN (md : List (P2 × Nat)) (ts : List T3) : Nat → List Nat
  | 0 => []
  | i + 1 => hpN md ts i ++ rpN (hvT md 2 (ts.getD i (0, 0, 0))).length i
section
variable {md : List (P2 × Nat)} {ts ss : List T3} {i N : Nat} {es : List E4}
end
structure BsX (ps : List Pt) (ts ss : List T3) (ms : List Int) where
  l : List E4
  p : E4 → Bool
  el : l = (edL ts).filter p
  all : ∀ e, p e = true ↔ Clo ts (MkK ts ms) (e.a, e.b)
  x : RdX (halP ps l) (hvA (midS ps.length l l.length) ts) (halX ps.length ss l (hvA (midS ps.length l l.length) ts)) (hpN (midS ps.length l l.length) ts ts.length) 0
instance {ps : List Pt} {ts ss : List T3} {ms : List Int} : Ref (BsX ps ts ss ms) := ⟨fun b => Ref.val b.x, fun b => Ref.rows b.x, fun b y hy => Ref.ro b.x y hy⟩
section
variable {ts ss : List T3} {N : Nat} {es : List E4} {ms : List Int}
structure CutE (ts : List T3) (ms : List Int) (l : List E4) : Prop where
  ex : ∃ p : E4 → Bool, l = (edL ts).filter p ∧ ∀ e, p e = true ↔ Clo ts (MkK ts ms) (e.a, e.b)
theorem DX.cut (u : DX ts ms) : CutE ts ms u.l := ⟨u.p, u.el, u.all⟩
theorem CutE.mem {l : List E4} (h : CutE ts ms l) {e : E4} : e ∈ l ↔ e ∈ edL ts ∧ Clo ts (MkK ts ms) (e.a, e.b) := by
  obtain ⟨p, h1, h2⟩ := h.ex
  rw [h1, List.mem_filter, h2]
end
section
variable {P : Program} {ops : Array Oper} {rest : List Oper} {Q : Exit → Act → World → Prop} {n d : Nat} {F : List (Nat × Value)} {w0 : Base} {S : Nat → Prop} {L : List As} {t : TypeId} {p : String} {af : Array Edge} {y : Operand} {f : FuncId} {xs : List Operand} {args : List Value} {tys : Array TypeId} {ps : List Pt} {ts ss : List T3} {ms : List Int}
theorem OkL.makeInt {m : Nat} {ty T : TypeId} {x y : Operand} {ki kj : IntKind} {bytes : Nat} (ht : MakeT P t T (vN 0) bytes) (hx : evF F x = some (.int ki (m : Nat))) (hy : evF F y = some (.int kj (m : Nat))) (hm : m ≤ 1099511627776) (hb : Nat.ble bytes 16 = true) (hd : Nat.ble (d + 1) n = true)
    (next : ∀ b, OwnOk (some ⟨b, 0, none⟩) m m → OkL P ops rest Q n ((d, .slice (some ⟨b, 0, none⟩) m m) :: F) w0 (rowW (some ⟨b, 0, none⟩) T 1 m m (zL (List.replicate m 0)) :: L)) :
    OkL P ops (⟨some d, .makeSlice t x y, ty, p, af, none⟩ :: rest) Q n F w0 L := OkL.makeRow ht hx hy hm hb hd fun b ho => by
  have h := next b ho
  unfold zL at h
  rw [List.map_replicate] at h
  exact h
end
theorem zL_set (l : List Int) (j : Nat) (z : Int) : (zL l).set j (.int .i64 z) = zL (l.set j z) := by unfold zL; rw [List.map_set]
end
section
structure RO where
  p : Option Addr
  c : Nat
  l : List Nat
  ok : OwnOk p l.length c
abbrev ro0 : RO := ⟨none, 0, [], OwnOk.none⟩
@[reducible] def roV (x : RO) : Value := .slice x.p x.l.length x.c
def roW (T : Nat) (x : RO) : As := rowW x.p T 1 x.l.length x.c (inL x.l)
def roR (x : RO) : As := rowR x.p (inL x.l)
def roT (T : Nat) (kvs : List (Nat × RO)) : List As := kvs.map fun kv => roW T kv.2
def roO (T : Nat) (kvs : List (Nat × RO)) (k : Nat) : List As := roT T (kvs.filter fun kv => decide (kv.1 ≠ k))
def rdT (kvs : List (Nat × RO)) : List As := kvs.map fun kv => roR kv.2
def roL (kvs : List (Nat × RO)) : List (Nat × List Nat) := kvs.map fun kv => (kv.1, kv.2.l)
section
variable {kvs : List (Nat × RO)} {k T : Nat} {s : RO}
theorem getM_memG {β : Type} {kvs : List (Nat × β)} {k : Nat} {s : β} (h : getM kvs k = some s) : (k, s) ∈ kvs := by
  induction kvs with
  | nil => cases h
  | cons x r ih =>
    obtain ⟨a, b⟩ := x
    unfold getM at h
    split at h
    · rename_i e
      injection h with h
      subst e h
      exact List.mem_cons_self
    · exact List.mem_cons_of_mem _ (ih h)
theorem getM_roL : getM (roL kvs) k = (getM kvs k).map (·.l) := by
  induction kvs with
  | nil => rfl
  | cons x r ih =>
    obtain ⟨a, b⟩ := x
    show getM ((a, b.l) :: roL r) k = (getM ((a, b) :: r) k).map (·.l)
    unfold getM
    split
    · rfl
    · exact ih
theorem roL_l {kvs : List (Nat × RO)} {k : Nat} : (getM (roL kvs) k).getD [] = ((getM kvs k).getD ro0).l := by
  rw [getM_roL]
  cases getM kvs k <;> rfl
theorem putM_roL : roL (putM kvs k s) = putM (roL kvs) k s.l := by
  induction kvs with
  | nil => rfl
  | cons x r ih =>
    obtain ⟨a, b⟩ := x
    show roL (putM ((a, b) :: r) k s) = putM ((a, b.l) :: roL r) k s.l
    unfold putM
    split
    · rfl
    · show (a, b.l) :: roL (putM r k s) = _
      rw [ih]
theorem roO_none (h : getM kvs k = none) : roO T kvs k = roT T kvs := by
  unfold roO
  congr 1
  induction kvs with
  | nil => rfl
  | cons x r ih =>
    obtain ⟨a, b⟩ := x
    unfold getM at h
    split at h
    · cases h
    · rename_i e
      rw [List.filter_cons, if_pos (by simpa using fun e2 => e e2.symm), ih h]
theorem roO_some (hm : OkM okI kvs) (h : getM kvs k = some s) : (roT T kvs).Perm (roW T s :: roO T kvs k) := by
  have ho := hm.once
  clear hm
  induction kvs with
  | nil => cases h
  | cons x r ih =>
    obtain ⟨a, b⟩ := x
    obtain ⟨h1, h2⟩ := List.pairwise_cons.1 ho
    unfold getM at h
    unfold roO at ih ⊢
    rw [List.filter_cons]
    split at h
    · rename_i e
      subst e
      injection h with h
      subst h
      rw [if_neg (by simp)]
      have e : (r.filter fun kv => decide (kv.1 ≠ k)) = r := List.filter_eq_self.2 fun y hy => decide_eq_true fun e => h1 y hy e.symm
      rw [e]; exact List.Perm.refl _
    · rename_i e
      rw [if_pos (by simpa using fun e2 => e e2.symm)]
      exact ((ih h h2).cons (roW T b)).trans (List.Perm.swap _ _ _)
theorem put_perm (hm : OkM okI kvs) : (roT T (putM kvs k s)).Perm (roW T s :: roO T kvs k) := by
  have ho := hm.once
  clear hm
  induction kvs with
  | nil => exact List.Perm.refl _
  | cons x r ih =>
    obtain ⟨a, b⟩ := x
    obtain ⟨h1, h2⟩ := List.pairwise_cons.1 ho
    unfold putM
    unfold roO at ih ⊢
    rw [List.filter_cons]
    split
    · rename_i e
      subst e
      rw [if_neg (by simp)]
      have e : (r.filter fun kv => decide (kv.1 ≠ k)) = r := List.filter_eq_self.2 fun y hy => decide_eq_true fun e => h1 y hy e.symm
      rw [e]; exact List.Perm.refl _
    · rename_i e
      rw [if_pos (by simpa using fun e2 => e e2.symm)]
      exact ((ih h2).cons (roW T b)).trans (List.Perm.swap _ _ _)
theorem push_ro {A1 A2 : List As} (hm : OkM okI kvs) : (A1 ++ roW T s :: (A2 ++ roO T kvs k)).Perm (A1 ++ (A2 ++ roT T (putM kvs k s))) := by
  refine (List.Perm.refl A1).append ?_
  have h1 : (roW T s :: (A2 ++ roO T kvs k)).Perm (A2 ++ roW T s :: roO T kvs k) := List.perm_middle.symm
  exact h1.trans ((List.Perm.refl A2).append (put_perm hm).symm)
end
section
variable {P : Program} {ops : Array Oper} {rest : List Oper} {Q : Exit → Act → World → Prop} {n : Nat} {F : List (Nat × Value)} {w0 : Base} {L A : List As} {kvs : List (Nat × RO)} {k T : Nat}
theorem OkL.pullRO (hm : OkM okI kvs) {sq : RO} (hs : sq = (getM kvs k).getD ro0) (next : OkL P ops rest Q n F w0 (roW T sq :: (A ++ roO T kvs k))) : OkL P ops rest Q n F w0 (A ++ roT T kvs) := by
  cases hg : getM kvs k with
  | none =>
    rw [hg] at hs
    rw [roO_none hg] at next
    subst hs
    exact OkL.nilRow T 1 next
  | some s =>
    have hs : sq = s := by rw [hg] at hs; exact hs
    subst hs
    refine OkL.permL ?_ next
    have h1 : (A ++ roT T kvs).Perm (A ++ roW T sq :: roO T kvs k) := (List.Perm.refl A).append (roO_some hm hg)
    exact h1.trans List.perm_middle
theorem Own.frzRO {w : World} (h : Own w0 w (A ++ roT T kvs)) : Own w0 w (A ++ rdT kvs) := by
  obtain ⟨h1, h2, h3⟩ := h
  refine ⟨h1, fun x hx b e => ?_, ?_⟩
  · rcases List.mem_append.1 hx with hx | hx
    · exact h2 x (List.mem_append_left _ hx) b e
    · obtain ⟨kv, hkv, rfl⟩ := List.mem_map.1 hx
      obtain ⟨_, o, ho, hp⟩ := h2 (roW T kv.2) (List.mem_append_right _ (List.mem_map.2 ⟨kv, hkv, rfl⟩)) b e
      exact ⟨.inl rfl, o, ho, lies_of_rowW kv.2.ok (by rw [inL_length, Nat.mul_one]) hp⟩
  · obtain ⟨p1, p2, p3⟩ := List.pairwise_append.1 h3
    refine List.pairwise_append.2 ⟨p1, ?_, fun x hx y hy => ?_⟩
    · unfold rdT
      unfold roT at p2
      rw [List.pairwise_map] at p2 ⊢
      exact p2.imp fun {a b} h => h.elim (fun k => by cases k.1) (fun k => .inr k)
    · obtain ⟨kv, hkv, rfl⟩ := List.mem_map.1 hy
      rcases p3 x hx (roW T kv.2) (List.mem_map.2 ⟨kv, hkv, rfl⟩) with k | k
      · cases k.2
      · exact .inr k
theorem OkL.frzRO (next : OkL P ops rest Q n F w0 (A ++ rdT kvs)) : OkL P ops rest Q n F w0 (A ++ roT T kvs) := fun a w ha hW => next a w ha (Own.frzRO hW)
theorem OkL.dupRO {sq : RO} (hs : sq = (getM kvs k).getD ro0) (next : OkL P ops rest Q n F w0 (roR sq :: (A ++ rdT kvs))) : OkL P ops rest Q n F w0 (A ++ rdT kvs) := fun a w ha hW => by
  refine next a w ha ?_
  cases hg : getM kvs k with
  | none => rw [hg] at hs; subst hs; exact hW.addRo (Bel.refl _ _) rfl (fun b e => by cases e) (fun b e => by cases e)
  | some s =>
    have hs : sq = s := by rw [hg] at hs; exact hs
    subst hs
    have hmm : (k, sq) ∈ kvs := getM_memG hg
    have hm : roR sq ∈ A ++ rdT kvs := List.mem_append_right _ (List.mem_map.2 ⟨(k, sq), hmm, rfl⟩)
    exact hW.addRo (Bel.refl _ _) rfl (fun b e => (hW.2.1 _ hm b e).2) (fun b e => .inr ⟨_, hm, rfl, e⟩)
theorem OkL.shrink (i : Nat) {q : Option Addr} {z m m' c : Nat} {cs : List Value} (hi : L[i]? = some (rowW q T z m c cs)) (hm : m' ≤ m) {L' : List As} (hs : setL L i (rowW q T z m' c (cs.take (m' * z))) = some L') (next : OkL P ops rest Q n F w0 L') : OkL P ops rest Q n F w0 L := fun a w ha hW => by
  refine next a w ha (setL_eq hs ▸ hW.freeze hi rfl (fun o hp => ?_) (fun e => by cases e))
  obtain ⟨cur, rfl, h1, h2⟩ := hp
  refine ⟨cur, rfl, h1, ?_⟩
  have hz : m' * z ≤ m * z := Nat.mul_le_mul_right _ hm
  rw [← h2, List.take_take, Nat.min_eq_left hz]
end
section
variable {P : Program} {ops : Array Oper} {rest : List Oper} {Q : Exit → Act → World → Prop} {n d i z m c c2 : Nat} {F : List (Nat × Value)} {w0 : Base} {L : List As} {t ty T : TypeId} {p : String} {af : Array Edge} {x y : Operand} {cs vs cs' : List Value} {q : Option Addr} {v u : Value} {A0 A1 A2 A3 A4 : As}
theorem OkL.storeRow4 {j n' : Nat} (hx : evF F x = some (pP (pB q) (pO q + j * 1))) (hy : evF F y = some v) (ho : OwnOk q n' c) (hcl : cs.length = n' * 1) (hj : j < n')
    (hv : v.cells = #[v]) (hs : ∀ w, (sizeOf ty).run P w = .ok 1 w) (h1 : v.oneCell' = true) (hc : cs.set j v = cs') (next : OkL P ops rest Q n F w0 (A0 :: A1 :: A2 :: A3 :: rowW q T 1 n' c cs' :: L)) : OkL P ops (⟨none, .store ty x y, t, p, af, none⟩ :: rest) Q n F w0 (A0 :: A1 :: A2 :: A3 :: rowW q T 1 n' c cs :: L) := by
  subst hc
  rw [← lay_set (by omega)] at next
  exact OkL.storeRow 4 (vs := [v]) hx hy rfl ho hcl (ho.row.ne (by omega)) hv hs (by simp [h1]) (by simp; omega) next
end
section
variable {P : Program} {ops : Array Oper} {rest : List Oper} {Q : Exit → Act → World → Prop} {n : Nat} {F : List (Nat × Value)} {w0 : Base} {L : List As} {d : Option Tmp} {op : Op} {t : TypeId} {p : String} {af : Array Edge} {g : Nat × Bool}
theorem OkL.unguard (hw : Wt ops n F ⟨d, op, t, p, af, some g⟩) (next : OkL P ops (⟨d, op, t, p, af, none⟩ :: rest) Q n F w0 L) : OkL P ops (⟨d, op, t, p, af, some g⟩ :: rest) Q n F w0 L := fun a w ha hW => by
  have h := next a w ha hW
  unfold wpList at h ⊢
  rw [if_pos (hw a ha)]
  rw [if_pos (wt_none rfl a ha)] at h
  exact h
end
theorem OwnOk.less {p : Option Addr} {n n' c : Nat} (h : OwnOk p n c) (hn : n' ≤ n) : OwnOk p n' c := ⟨fun e => ⟨by have := (h.nil e).1; omega, (h.nil e).2⟩, h.at0, Nat.le_trans hn h.le, h.max⟩
def cnU (ts : List T3) (s : Nat) : Nat := crT (ts.getD (s / 3) (0, 0, 0)) (s % 3)
def atN (ts : List T3) : Nat → List (Nat × List Nat)
  | 0 => []
  | s + 1 => putM (atN ts s) (cnU ts s) ((getM (atN ts s) (cnU ts s)).getD [] ++ [s / 3])
def atL (ts : List T3) (p : Nat) : List Nat := (getM (atN ts (3 * ts.length)) p).getD []
section
variable {ts : List T3} {N : Nat}
theorem getD_memN {l : List Nat} {j : Nat} (h : j < l.length) : l.getD j 0 ∈ l := by rw [List.getD, List.getElem?_eq_getElem h]; exact List.getElem_mem h
theorem atN_mem {p o : Nat} : ∀ s, o ∈ (getM (atN ts s) p).getD [] ↔ ∃ u, u < s ∧ cnU ts u = p ∧ u / 3 = o
  | 0 => ⟨fun h => (by cases h), fun ⟨u, h, _⟩ => absurd h (Nat.not_lt_zero _)⟩
  | s + 1 => by
    show o ∈ (getM (putM _ _ _) p).getD [] ↔ _
    rw [getM_put]
    split
    · rename_i e
      rw [Option.getD_some, List.mem_append, List.mem_singleton, ← e, atN_mem s]
      constructor
      · rintro (⟨u, h1, h2, h3⟩ | h)
        · exact ⟨u, by omega, h2, h3⟩
        · exact ⟨s, by omega, e.symm, h.symm⟩
      · rintro ⟨u, h1, h2, h3⟩
        rcases Nat.lt_or_ge u s with h4 | h4
        · exact .inl ⟨u, h4, h2, h3⟩
        · exact .inr (by rw [← h3, show u = s by omega])
    · rename_i e
      rw [atN_mem s]
      constructor
      · rintro ⟨u, h1, h2, h3⟩; exact ⟨u, by omega, h2, h3⟩
      · rintro ⟨u, h1, h2, h3⟩
        refine ⟨u, ?_, h2, h3⟩
        rcases Nat.lt_or_ge u s with h4 | h4
        · exact h4
        · exact absurd (by rw [← h2, show u = s by omega]) e
theorem atL_mem {p o : Nat} : o ∈ atL ts p ↔ o < ts.length ∧ ∃ r, r < 3 ∧ crT (ts.getD o (0, 0, 0)) r = p := by
  unfold atL
  rw [atN_mem]
  constructor
  · rintro ⟨u, h1, h2, rfl⟩; exact ⟨by omega, u % 3, by omega, h2⟩
  · rintro ⟨h1, r, h2, h3⟩
    refine ⟨3 * o + r, by omega, ?_, by omega⟩
    unfold cnU
    rw [show (3 * o + r) / 3 = o by omega, show (3 * o + r) % 3 = r by omega]; exact h3
theorem atN_len {p : Nat} : ∀ s, ((getM (atN ts s) p).getD []).length ≤ s
  | 0 => Nat.le_refl _
  | s + 1 => by
    show ((getM (putM _ _ _) p).getD []).length ≤ _
    rw [getM_put]
    split
    · rw [Option.getD_some, List.length_append]; have := atN_len (p := cnU ts s) s; show _ + 1 ≤ _; omega
    · have := atN_len (p := p) s; omega
theorem atL_len (p : Nat) : (atL ts p).length ≤ 3 * ts.length := atN_len _
theorem atN_succ {t r : Nat} (hr : r < 3) : atN ts (3 * t + r + 1) = putM (atN ts (3 * t + r)) (crT (ts.getD t (0, 0, 0)) r) ((getM (atN ts (3 * t + r)) (crT (ts.getD t (0, 0, 0)) r)).getD [] ++ [t]) := by
  show putM _ _ _ = _
  unfold cnU
  rw [show (3 * t + r) / 3 = t by omega, show (3 * t + r) % 3 = r by omega]
def tch (ts : List T3) (i j : Nat) : Prop := ∃ r s, r < 3 ∧ s < 3 ∧ crT (ts.getD i (0, 0, 0)) r = crT (ts.getD j (0, 0, 0)) s
theorem tch.symm {i j : Nat} (h : tch ts i j) : tch ts j i := by obtain ⟨r, s, a, b, c⟩ := h; exact ⟨s, r, b, a, c.symm⟩
theorem tch_at {k u : Nat} (hu : u < ts.length) : tch ts k u ↔ ∃ r, r < 3 ∧ u ∈ atL ts (crT (ts.getD k (0, 0, 0)) r) := by
  constructor
  · rintro ⟨r, s, h1, h2, h3⟩; exact ⟨r, h1, atL_mem.2 ⟨hu, s, h2, h3.symm⟩⟩
  · rintro ⟨r, h1, h2⟩; obtain ⟨_, s, h3, h4⟩ := atL_mem.1 h2; exact ⟨r, s, h1, h3, h4.symm⟩
inductive Cnx (ts : List T3) (i : Nat) : Nat → Prop
  | refl : Cnx ts i i
  | step {j k : Nat} : Cnx ts i j → k < ts.length → tch ts j k → Cnx ts i k
theorem Cnx.trans {i j k : Nat} (h : Cnx ts i j) (h2 : Cnx ts j k) : Cnx ts i k := by
  induction h2 with
  | refl => exact h
  | step _ a b ih => exact .step ih a b
theorem Cnx.symm {i j : Nat} (hi : i < ts.length) (h : Cnx ts i j) : Cnx ts j i := by
  have key : j < ts.length ∧ Cnx ts j i := by
    induction h with
    | refl => exact ⟨hi, .refl⟩
    | step _ a b ih => exact ⟨a, (Cnx.step .refl ih.1 b.symm).trans ih.2⟩
  exact key.2
abbrev gZ (l : List Int) (s : Nat) : Int := l.getD s 0
theorem gZ_set {l : List Int} {o s : Nat} {z : Int} (ho : o < l.length) : gZ (l.set o z) s = if s = o then z else gZ l s := by
  unfold gZ
  rw [List.getD, List.getElem?_set]
  by_cases h : o = s
  · subst h; rw [if_pos rfl, if_pos ho, if_pos rfl]; rfl
  · rw [if_neg h, if_neg (fun e => h e.symm)]; rfl
structure PtO (ts : List T3) (t n : Nat) (l : List Int) : Prop where
  len : l.length = ts.length
  rng : ∀ s, s < ts.length → -1 ≤ gZ l s ∧ gZ l s < n
  done : ∀ s, s < t → 0 ≤ gZ l s
  clo : ∀ s u, s < ts.length → u < ts.length → tch ts s u → 0 ≤ gZ l s → gZ l u = gZ l s
  fst : ∀ k, k < n → ∃ f, f < t ∧ gZ l f = (k : Int) ∧ ∀ s, s < f → gZ l s < k
  cnx : ∀ s u, s < ts.length → u < ts.length → 0 ≤ gZ l s → gZ l s = gZ l u → Cnx ts s u
  nle : n ≤ t
structure Fld (ts : List T3) (t n : Nat) (l0 l : List Int) (td : List Nat) (k r j : Nat) : Prop where
  len : l.length = ts.length
  old : ∀ s, s < ts.length → 0 ≤ gZ l0 s → gZ l s = gZ l0 s
  new : ∀ s, s < ts.length → gZ l0 s < 0 → gZ l s = -1 ∨ gZ l s = n ∧ Cnx ts t s
  root : gZ l t = n
  tdn : ∀ s ∈ td, s < ts.length ∧ gZ l s = n ∧ gZ l0 s < 0
  nd : td.Nodup
  kk : k < ts.length ∧ gZ l k = n ∧ gZ l0 k < 0
  prc : ∀ s, s < ts.length → gZ l0 s < 0 → gZ l s = n → s ∉ td → s ≠ k → ∀ u, u < ts.length → tch ts s u → gZ l u = n
  part : ∀ r', r' < r → ∀ u ∈ atL ts (crT (ts.getD k (0, 0, 0)) r'), gZ l u = n
  pj : ∀ q, q < j → gZ l ((atL ts (crT (ts.getD k (0, 0, 0)) r)).getD q 0) = n
structure Fl0 (ts : List T3) (t n : Nat) (l0 l : List Int) (td : List Nat) : Prop where
  len : l.length = ts.length
  old : ∀ s, s < ts.length → 0 ≤ gZ l0 s → gZ l s = gZ l0 s
  new : ∀ s, s < ts.length → gZ l0 s < 0 → gZ l s = -1 ∨ gZ l s = n ∧ Cnx ts t s
  root : gZ l t = n
  tdn : ∀ s ∈ td, s < ts.length ∧ gZ l s = n ∧ gZ l0 s < 0
  nd : td.Nodup
  prc : ∀ s, s < ts.length → gZ l0 s < 0 → gZ l s = n → s ∉ td → ∀ u, u < ts.length → tch ts s u → gZ l u = n
def muP (l : List Int) (td : List Nat) : Nat := 2 * l.count (-1) + td.length
variable {t n k r j o : Nat} {l0 l : List Int} {td : List Nat}
theorem PtO.start (hl : l.length = ts.length) (h : ∀ s, s < ts.length → gZ l s = -1) : PtO ts 0 0 l := ⟨hl, fun s hs => by rw [h s hs]; omega, fun s hs => absurd hs (Nat.not_lt_zero _), fun s u hs _ _ h0 => by rw [h s hs] at h0; omega, fun k hk => absurd hk (Nat.not_lt_zero _), fun s u hs _ h0 => by rw [h s hs] at h0; omega, Nat.le_refl _⟩
theorem PtO.next (h : PtO ts t n l) (ht : 0 ≤ gZ l t) : PtO ts (t + 1) n l := ⟨h.len, h.rng, fun s hs => by
    rcases Nat.lt_or_ge s t with h1 | h1
    · exact h.done s h1
    · rw [show s = t by omega]; exact ht, h.clo, fun k hk => by obtain ⟨f, a, b, c⟩ := h.fst k hk; exact ⟨f, by omega, b, c⟩, h.cnx, by have := h.nle; omega⟩
theorem Fl0.start (h : PtO ts t n l0) (ht : t < ts.length) (hn : gZ l0 t < 0) : Fl0 ts t n l0 (l0.set t n) [t] := by
  have hlt : t < l0.length := by rw [h.len]; exact ht
  refine ⟨by rw [List.length_set, h.len], fun s hs h0 => ?_, fun s hs h0 => ?_, by rw [gZ_set hlt, if_pos rfl], fun s hs => ?_, by simp, fun s hs h0 hn' hnt u hu htc => ?_⟩
  · rw [gZ_set hlt, if_neg (fun e => by subst e; omega)]
  · rw [gZ_set hlt]
    split
    · rename_i e; subst e; exact .inr ⟨rfl, .refl⟩
    · exact .inl (by have := (h.rng s hs).1; omega)
  · rw [List.mem_singleton] at hs
    subst hs
    exact ⟨ht, by rw [gZ_set hlt, if_pos rfl], hn⟩
  · rw [List.mem_singleton] at hnt
    rw [gZ_set hlt, if_neg hnt] at hn'
    have := (h.rng s hs).2
    omega
theorem Fl0.tl (h : Fl0 ts t n l0 l td) : td.length ≤ ts.length := nodup_le h.nd fun x hx => (h.tdn x hx).1
theorem Fl0.pop (h : Fl0 ts t n l0 l td) (h0 : 0 < td.length) : Fld ts t n l0 l (td.take (td.length - 1)) (td.getD (td.length - 1) 0) 0 0 := by
  have e : td = td.take (td.length - 1) ++ [td.getD (td.length - 1) 0] := by
    have := take_succ_getD (l := td) (d := 0) (i := td.length - 1) (by omega)
    rw [show td.length - 1 + 1 = td.length by omega, List.take_length] at this
    exact this
  have hmem : ∀ s, s ∈ td ↔ s ∈ td.take (td.length - 1) ∨ s = td.getD (td.length - 1) 0 := fun s => by
    conv => lhs; rw [e]
    rw [List.mem_append, List.mem_singleton]
  refine ⟨h.len, h.old, h.new, h.root, fun s hs => h.tdn s ((hmem s).2 (.inl hs)), h.nd.sublist (List.take_sublist _ _), h.tdn _ ((hmem _).2 (.inr rfl)), fun s hs h1 h2 h3 h4 => h.prc s hs h1 h2 (fun h5 => ((hmem s).1 h5).elim h3 h4), fun r' hr => absurd hr (Nat.not_lt_zero _), fun q hq => absurd hq (Nat.not_lt_zero _)⟩
theorem mu_pop (h0 : 0 < td.length) : muP l (td.take (td.length - 1)) < muP l td := by unfold muP; rw [List.length_take]; omega
theorem Fld.keep (h : Fld ts t n l0 l td k r j) (hP : PtO ts t n l0) (ho : o = (atL ts (crT (ts.getD k (0, 0, 0)) r)).getD j 0) (hj : j < (atL ts (crT (ts.getD k (0, 0, 0)) r)).length) (hr : r < 3) (hl : 0 ≤ gZ l o) : Fld ts t n l0 l td k r (j + 1) := by
  have hm : o ∈ atL ts (crT (ts.getD k (0, 0, 0)) r) := by rw [ho]; exact getD_memN hj
  have hot := (atL_mem.1 hm).1
  have htc : tch ts k o := (tch_at hot).2 ⟨r, hr, hm⟩
  refine ⟨h.len, h.old, h.new, h.root, h.tdn, h.nd, h.kk, h.prc, h.part, fun q hq => ?_⟩
  rcases Nat.lt_or_ge q j with h1 | h1
  · exact h.pj q h1
  · rw [show q = j by omega, ← ho]
    rcases Int.lt_or_le (gZ l0 o) 0 with h2 | h2
    · rcases h.new o hot h2 with h3 | h3
      · omega
      · exact h3.1
    · have := hP.clo o k hot h.kk.1 htc.symm h2
      have := h.kk.2.2
      omega
theorem Fld.push (h : Fld ts t n l0 l td k r j) (hP : PtO ts t n l0) (ht : t < ts.length) (ho : o = (atL ts (crT (ts.getD k (0, 0, 0)) r)).getD j 0) (hj : j < (atL ts (crT (ts.getD k (0, 0, 0)) r)).length) (hr : r < 3) (hl : gZ l o < 0) : Fld ts t n l0 (l.set o n) (td ++ [o]) k r (j + 1) := by
  have hm : o ∈ atL ts (crT (ts.getD k (0, 0, 0)) r) := by rw [ho]; exact getD_memN hj
  have hot := (atL_mem.1 hm).1
  have htc : tch ts k o := (tch_at hot).2 ⟨r, hr, hm⟩
  have hlt : o < l.length := by rw [h.len]; exact hot
  have h0 : gZ l0 o < 0 := by
    rcases Int.lt_or_le (gZ l0 o) 0 with h2 | h2
    · exact h2
    · have := h.old o hot h2; omega
  have hck : Cnx ts t k := by
    rcases h.new k h.kk.1 h.kk.2.2 with h3 | h3
    · have := h.kk.2.1; omega
    · exact h3.2
  have up : ∀ s, gZ l s = n → gZ (l.set o n) s = n := fun s hs => by
    rw [gZ_set hlt]; split
    · rfl
    · exact hs
  refine ⟨by rw [List.length_set, h.len], fun s hs h1 => ?_, fun s hs h1 => ?_, up _ h.root, fun s hs => ?_, ?_, ⟨h.kk.1, up _ h.kk.2.1, h.kk.2.2⟩, fun s hs h1 h2 h3 h4 u hu h5 => ?_, fun r' hr' u hu => up _ (h.part r' hr' u hu), fun q hq => ?_⟩
  · rw [gZ_set hlt, if_neg (fun e => by subst e; omega)]; exact h.old s hs h1
  · rw [gZ_set hlt]
    split
    · rename_i e; subst e; exact .inr ⟨rfl, hck.step hs htc⟩
    · exact h.new s hs h1
  · rcases List.mem_append.1 hs with hs | hs
    · obtain ⟨a, b, c⟩ := h.tdn s hs; exact ⟨a, up _ b, c⟩
    · rw [List.mem_singleton] at hs; subst hs; exact ⟨hot, by rw [gZ_set hlt, if_pos rfl], h0⟩
  · refine List.nodup_append.2 ⟨h.nd, by simp, fun a ha b hb e => ?_⟩
    rw [List.mem_singleton] at hb
    subst hb e
    have := (h.tdn a ha).2.1
    omega
  · have hso : s ≠ o := fun e => h3 (List.mem_append_right _ (List.mem_singleton.2 e))
    rw [gZ_set hlt, if_neg hso] at h2
    exact up _ (h.prc s hs h1 h2 (fun h6 => h3 (List.mem_append_left _ h6)) h4 u hu h5)
  · rcases Nat.lt_or_ge q j with h1 | h1
    · exact up _ (h.pj q h1)
    · rw [show q = j by omega, ← ho, gZ_set hlt, if_pos rfl]
theorem Fld.tl (h : Fld ts t n l0 l td k r j) : td.length ≤ ts.length := nodup_le h.nd fun x hx => (h.tdn x hx).1
theorem Fld.isneg (h : Fld ts t n l0 l td k r j) (ho : o < ts.length) (hl : gZ l o < 0) : gZ l o = -1 := by
  rcases Int.lt_or_le (gZ l0 o) 0 with h2 | h2
  · rcases h.new o ho h2 with h3 | h3
    · exact h3
    · omega
  · have := h.old o ho h2; omega
theorem mu_push (ho : o < l.length) (hl : gZ l o = -1) : muP (l.set o (n : Int)) (td ++ [o]) < muP l td := by
  have hp : 0 < l.count (-1) := List.count_pos_iff.2 (by rw [← hl]; unfold gZ; rw [List.getD, List.getElem?_eq_getElem ho]; exact List.getElem_mem ho)
  have e : (l.set o (n : Int)).count (-1) = l.count (-1) - 1 := by
    rw [List.count_set ho]
    have h1 : l[o] = -1 := by unfold gZ at hl; rw [List.getD, List.getElem?_eq_getElem ho] at hl; exact hl
    simp [h1] <;> omega
  unfold muP
  rw [e, List.length_append]
  show _ + (_ + 1) < _
  omega
theorem Fld.corner (h : Fld ts t n l0 l td k r j) (hj : (atL ts (crT (ts.getD k (0, 0, 0)) r)).length ≤ j) : Fld ts t n l0 l td k (r + 1) 0 :=
  ⟨h.len, h.old, h.new, h.root, h.tdn, h.nd, h.kk, h.prc, fun r' hr u hu => by
    rcases Nat.lt_or_ge r' r with h1 | h1
    · exact h.part r' h1 u hu
    · rw [show r' = r by omega] at hu
      obtain ⟨q, hq, rfl⟩ := List.getElem_of_mem hu
      have := h.pj q (by omega)
      rw [List.getD, List.getElem?_eq_getElem hq] at this
      exact this, fun q hq => absurd hq (Nat.not_lt_zero _)⟩
theorem Fld.close (h : Fld ts t n l0 l td k 3 0) : Fl0 ts t n l0 l td := ⟨h.len, h.old, h.new, h.root, h.tdn, h.nd, fun s hs h1 h2 h3 u hu h5 => by
  by_cases e : s = k
  · subst e
    obtain ⟨r, hr, hm⟩ := (tch_at hu).1 h5
    exact h.part r hr u hm
  · exact h.prc s hs h1 h2 h3 e u hu h5⟩
theorem Fl0.finish (h : Fl0 ts t n l0 l td) (hP : PtO ts t n l0) (ht : t < ts.length) (h0 : td.length = 0) (hn : gZ l0 t < 0) : PtO ts (t + 1) (n + 1) l := by
  have htd : td = [] := List.eq_nil_of_length_eq_zero h0
  subst htd
  have cs : ∀ s, s < ts.length → (0 ≤ gZ l0 s ∧ gZ l s = gZ l0 s) ∨ (gZ l0 s < 0 ∧ (gZ l s = -1 ∨ gZ l s = n ∧ Cnx ts t s)) := fun s hs => by
    rcases Int.lt_or_le (gZ l0 s) 0 with h2 | h2
    · exact .inr ⟨h2, h.new s hs h2⟩
    · exact .inl ⟨h2, h.old s hs h2⟩
  refine ⟨h.len, fun s hs => ?_, fun s hs => ?_, fun s u hs hu htc h1 => ?_, fun k hk => ?_, fun s u hs hu h1 h2 => ?_, by have := hP.nle; omega⟩
  · have := hP.rng s hs
    rcases cs s hs with ⟨a, b⟩ | ⟨a, b | b⟩ <;> omega
  · rcases Nat.lt_or_ge s t with h1 | h1
    · have h2 := hP.done s h1
      rw [h.old s (by omega) h2]; exact h2
    · rw [show s = t by omega, h.root]; omega
  · rcases cs s hs with ⟨a, b⟩ | ⟨a, b | b⟩
    · have h3 := hP.clo s u hs hu htc a
      rw [b, h.old u hu (by omega), h3]
    · omega
    · rw [b.1]; exact h.prc s hs a b.1 (by simp) u hu htc
  · rcases Nat.lt_or_ge k n with h1 | h1
    · obtain ⟨f, a, b, c⟩ := hP.fst k h1
      refine ⟨f, by omega, by rw [h.old f (by omega) (by omega)]; exact b, fun s hs => ?_⟩
      have := hP.done s (by omega)
      rw [h.old s (by omega) this]; exact c s hs
    · refine ⟨t, by omega, by rw [h.root, show k = n by omega], fun s hs => ?_⟩
      have h2 := hP.done s hs
      rw [h.old s (by omega) h2]
      have := (hP.rng s (by omega)).2
      omega
  · rcases cs s hs with ⟨a, b⟩ | ⟨a, b | b⟩
    · rcases cs u hu with ⟨a', b'⟩ | ⟨a', b' | b'⟩
      · exact hP.cnx s u hs hu a (by omega)
      · omega
      · have := (hP.rng s hs).2; omega
    · omega
    · rcases cs u hu with ⟨a', b'⟩ | ⟨a', b' | b'⟩
      · have := (hP.rng u hu).2; omega
      · omega
      · exact (b.2.symm ht).trans b'.2
end
structure Pts (ts : List T3) (l : List Int) (n : Nat) : Prop where
  len : l.length = ts.length
  rng : ∀ s, s < ts.length → 0 ≤ gZ l s ∧ gZ l s < n
  clo : ∀ s u, s < ts.length → u < ts.length → tch ts s u → gZ l u = gZ l s
  fst : ∀ k, k < n → ∃ f, f < ts.length ∧ gZ l f = (k : Int) ∧ ∀ s, s < f → gZ l s < k
  cnx : ∀ s u, s < ts.length → u < ts.length → gZ l s = gZ l u → Cnx ts s u
  nle : n ≤ ts.length
theorem PtO.fin {ts : List T3} {n : Nat} {l : List Int} (h : PtO ts ts.length n l) : Pts ts l n := ⟨h.len, fun s hs => ⟨h.done s hs, (h.rng s hs).2⟩, fun s u hs hu htc => h.clo s u hs hu htc (h.done s hs), h.fst, fun s u hs hu => h.cnx s u hs hu (h.done s hs), h.nle⟩
structure PaX (ts : List T3) where
  l : List Int
  n : Nat
  pts : Pts ts l n
  r : RX (zL l) l.length
instance {ts : List T3} : Ref (PaX ts) := ⟨fun x => .tuple #[x.r.val, vN x.n], fun x => [x.r.row], fun x y hy => by rcases List.mem_singleton.1 hy with rfl; rfl⟩
theorem retPa {S : Nat → Prop} {W w : World} {L : List As} {ts : List T3} {l : List Int} {n : Nat} (hw : Own ⟨W, none⟩ w L) (i : Nat) {q : Option Addr} {T m c : Nat} (hi : L[i]? = some (rowW q T 1 m c (zL l))) (ho : OwnOk q m c) (hl : m = l.length) (h : Pts ts l n) {v : Value} (hv : v = .tuple #[.slice q m c, vN n]) : GivesR (PaX ts) S W (.returned v) w := by
  subst hl
  refine ⟨⟨l, n, h, ⟨q, c, ho.row⟩⟩, by rw [hv]; rfl, hw.out, fun y hy => ?_⟩
  rcases List.mem_singleton.1 hy with rfl
  exact own_row hw i hi ho (by rw [zL_length, Nat.mul_one])
def mnN (n t : Nat) : List Int := List.replicate t (-1) ++ List.replicate (n - t) 0
theorem mnN_len {n t : Nat} (h : t ≤ n) : (mnN n t).length = n := by unfold mnN; rw [List.length_append, List.length_replicate, List.length_replicate]; omega
theorem mnN_set {n t : Nat} (h : t < n) : (mnN n t).set t (-1) = mnN n (t + 1) := by
  unfold mnN
  rw [List.set_append_right _ _ (by rw [List.length_replicate]; exact Nat.le_refl _), List.length_replicate, Nat.sub_self, show n - t = (n - (t + 1)) + 1 by omega, List.replicate_succ, List.set_cons_zero, List.replicate_succ', List.append_assoc]; rfl
theorem mnN_all {n s : Nat} (h : s < n) : gZ (mnN n n) s = -1 := by
  unfold mnN gZ
  rw [Nat.sub_self, List.replicate_zero, List.append_nil, List.getD, List.getElem?_replicate, if_pos h]; rfl
section
variable {ts : List T3} {n n' : Nat} {l l' : List Int}
theorem Pts.iff (h : Pts ts l n) {s u : Nat} (hs : s < ts.length) (hu : u < ts.length) : gZ l s = gZ l u ↔ Cnx ts s u := by
  refine ⟨h.cnx s u hs hu, fun c => ?_⟩
  have key : u < ts.length → gZ l s = gZ l u := by
    clear hu
    induction c with
    | refl => intro _; rfl
    | step c1 hk htc ih =>
      rename_i j k
      intro _
      have hj : j < ts.length := by
        cases c1 with
        | refl => exact hs
        | step _ a _ => exact a
      rw [ih hj, h.clo _ _ hj hk htc]
  exact key hu
theorem pts_step (h : Pts ts l n) (h' : Pts ts l' n') {k : Nat} (ih : ∀ j, j < k → ∀ s, s < ts.length → (gZ l s = (j : Int) ↔ gZ l' s = (j : Int))) (hk : k < n) : k < n' ∧ ∀ s, s < ts.length → (gZ l s = (k : Int) ↔ gZ l' s = (k : Int)) := by
  obtain ⟨f, hf, f1, f2⟩ := h.fst k hk
  have hr := h'.rng f hf
  have hv : (k : Int) ≤ gZ l' f := by
    rcases Int.lt_or_le (gZ l' f) k with h1 | h1
    · have h2 := (ih (gZ l' f).toNat (by omega) f hf).2 (by omega)
      omega
    · exact h1
  have hkn : k < n' := by omega
  obtain ⟨g, hg, g1, g2⟩ := h'.fst k hkn
  have hu : (k : Int) ≤ gZ l g := by
    have hr2 := h.rng g hg
    rcases Int.lt_or_le (gZ l g) k with h1 | h1
    · have h2 := (ih (gZ l g).toNat (by omega) g hg).1 (by omega)
      omega
    · exact h1
  have hfg : f = g := by
    rcases Nat.lt_trichotomy f g with h1 | h1 | h1
    · have := g2 f h1; omega
    · exact h1
    · have := f2 g h1; omega
  subst hfg
  refine ⟨hkn, fun s hs => ?_⟩
  rw [← f1, h.iff hs hf, f1, ← g1, h'.iff hs hf]
theorem pts_all (h : Pts ts l n) (h' : Pts ts l' n') (k : Nat) : k < n → k < n' ∧ ∀ s, s < ts.length → (gZ l s = (k : Int) ↔ gZ l' s = (k : Int)) := by
  induction k using Nat.strongRecOn with
  | ind k ih => exact fun hk => pts_step h h' (fun j hj => (ih j hj (by omega)).2) hk
theorem pts_n (h : Pts ts l n) (h' : Pts ts l' n') : n = n' := by
  have h1 : n ≤ n' := by
    rcases Nat.eq_zero_or_pos n with e | e
    · omega
    · have := (pts_all h h' (n - 1) (by omega)).1; omega
  have h2 : n' ≤ n := by
    rcases Nat.eq_zero_or_pos n' with e | e
    · omega
    · have := (pts_all h' h (n' - 1) (by omega)).1; omega
  omega
theorem pts_one (h : Pts ts l n) (h0 : 0 < ts.length) (hc : ∀ s, s < ts.length → Cnx ts 0 s) : n = 1 := by
  have hr := h.rng 0 h0
  rcases Nat.lt_or_ge 1 n with h1 | h1
  · obtain ⟨f, hf, f1, _⟩ := h.fst 0 (by omega)
    obtain ⟨g, hg, g1, _⟩ := h.fst 1 h1
    have e1 := (h.iff h0 hf).2 (hc f hf)
    have e2 := (h.iff h0 hg).2 (hc g hg)
    omega
  · omega
end
structure L1X (l : List Nat) where
  r : RX (inL l) l.length
  q : RX [Value.slice r.p l.length r.c] 1
instance {l : List Nat} : Ref (L1X l) := ⟨fun x => x.q.val, fun x => [x.q.row, x.r.row], fun x y hy => by simp only [List.mem_cons, List.not_mem_nil, or_false] at hy; rcases hy with rfl | rfl <;> rfl⟩
theorem giveL1 {S : Nat → Prop} {W w : World} {ls : List (List Nat)} {l : List Nat} {e : Ending} (hl : ls = [l]) (h : GivesR (LPX ls) S W e w) : GivesR (L1X l) S W e w := by
  subst hl
  obtain ⟨⟨rs, he, q⟩, h1, h2, h3⟩ := h
  cases rs with
  | nil => simp at he
  | cons r t =>
    cases t with
    | cons _ _ => simp at he
    | nil =>
      have e2 : r.l = l := by simpa using he
      subst e2
      exact ⟨⟨⟨r.p, r.c, r.ok⟩, q⟩, h1, h2, h3⟩
structure LnX (n : Nat) where
  cs : List Value
  q : RX cs n
instance {n : Nat} : Ref (LnX n) := ⟨fun x => x.q.val, fun x => [x.q.row], fun x y hy => by rcases List.mem_singleton.1 hy with rfl; rfl⟩
theorem giveLn {S : Nat → Prop} {W w : World} {ls : List (List Nat)} {n : Nat} {e : Ending} (hl : ls.length = n) (h : GivesR (LPX ls) S W e w) : GivesR (LnX n) S W e w := by
  obtain ⟨⟨rs, he, q⟩, h1, h2, h3⟩ := h
  have e2 : rs.length = n := by rw [← hl, ← he, List.length_map]
  subst e2
  exact ⟨⟨rvL rs, q⟩, h1, h2, fun y hy => h3 y (by rcases List.mem_singleton.1 hy with rfl; exact List.mem_cons_self)⟩
theorem eqB_way (D : Nat) (a b : T3) : EqB Tryz.prog (D + 2) 68 (.agg (t3L a).toArray) (.agg (t3L b).toArray) (decide (a = b)) := by
  rw [← t3_iff]
  exact EqB.struct Tryz.underlying68 Tryz.stoodInHeld68 (EqF.one (by decide) Tryz.isAgg3 rfl rfl (EqB.int Tryz.underlying3) (EqF.one (by decide) Tryz.isAgg3 rfl rfl (EqB.int Tryz.underlying3) (EqF.one (by decide) Tryz.isAgg3 rfl rfl (EqB.int Tryz.underlying3) EqF.nil)))
theorem eqB_way_t (D : Nat) {a b : T3} (h : a = b) : EqB Tryz.prog (D + 2) 68 (.agg (t3L a).toArray) (.agg (t3L b).toArray) true := by
  have := eqB_way D a b; rwa [decide_eq_true h] at this
end
end Go.Proofs.YtgiacpkjnikjdaaGreat
