import Derived.WideKeyEntry
import Derived.Test.YtgiacpkjnikjdaaGreatPart15
import Derived.Test.YtgiacpkjnikjdaaGreatPart33
namespace Go.Proofs.YtgiacpkjnikjdaaGreat
open Go Go.RowKit
set_option linter.unusedVariables false
set_option linter.unusedSimpArgs false
section
theorem keyOf_arr2 {P : Program} {k e : TypeId} (hu : P.underlying k = some (.array 2 e)) (he : P.underlying e = some (.int .i64)) (ce : P.cellsOf e = 1) (ck : P.cellsOf k = 2) (hk : P.keyType k = true) (hr : k < P.types.size)
    {a b : Int} (wa : (Lit.int .i64 a).wf = true) (wb : (Lit.int .i64 b).wf = true) : ∃ l, keyOf P k (.agg #[.int .i64 a, .int .i64 b]) = some l := by
  have h0 : 0 < P.types.size := Nat.lt_of_le_of_lt (Nat.zero_le _) hr
  obtain ⟨d, hd⟩ : ∃ d, P.types.size = d + 1 := ⟨P.types.size - 1, by omega⟩
  have hf : (Value.agg #[.int .i64 a, .int .i64 b]).formed P k = true := by
    unfold Value.formed
    simp only [hu, ck]
    rfl
  have hl : P.keyLits (P.types.size + 1) k (Value.agg #[.int .i64 a, .int .i64 b]).cells.toList = some [.int .i64 a, .int .i64 b] := by
    rw [hd]
    unfold Program.keyLits
    simp only [hu]
    show (if ([Value.int .i64 a, Value.int .i64 b] : List Value).length = P.cellsOf k then _ else _) = _
    rw [if_pos (by rw [ck]; rfl)]
    have e0 : P.keyLits (d + 1) e ((([Value.int .i64 a, Value.int .i64 b] : List Value).drop (0 * P.cellsOf e)).take (P.cellsOf e)) = some [.int .i64 a] := by
      rw [ce]; exact keyLits_int he d wa
    have e1 : P.keyLits (d + 1) e ((([Value.int .i64 a, Value.int .i64 b] : List Value).drop (1 * P.cellsOf e)).take (P.cellsOf e)) = some [.int .i64 b] := by
      rw [ce]; exact keyLits_int he d wb
    show (List.mapM (fun i => P.keyLits (d + 1) e ((([Value.int .i64 a, Value.int .i64 b] : List Value).drop (i * P.cellsOf e)).take (P.cellsOf e))) [0, 1]).map List.flatten = _
    simp only [List.mapM_cons, List.mapM_nil, e0, e1]
    rfl
  refine ⟨.string (keyBytes [.int .i64 a, .int .i64 b]), ?_⟩
  unfold keyOf
  simp only [hu, hk, hf, Bool.and_self, if_true, hl]
  rfl
theorem keyPair {P : Program} (hl : laidOutB P = true) {k e : TypeId} (hr : k < P.types.size) (ht : P.keyTypeAt 2 k = true) (hw : (match P.underlying k with | some (.array _ _) | some (.struct _) => true | _ => false) = true) (hu : P.underlying k = some (.array 2 e)) (he : P.underlying e = some (.int .i64)) (ce : P.cellsOf e = 1) (ck : P.cellsOf k = 2) (hk : P.keyType k = true) : KeyE P k kEd okE where
  law := .of_law (deep_law_laid hl (m := 2) (by decide) hr ht hw)
  key := fun a h => keyOf_arr2 hu he ce ck hk hr (wf_nat h.1) (wf_nat h.2)
  inj := fun a b h => posL_inj h
theorem okE_mk {a b : Nat} (ha : a < 4611686018427387904) (hb : b < 4611686018427387904) : okE (a, b) := ⟨ha, hb⟩
def findM {α β : Type} [DecidableEq α] : List (α × β) → α → Nat
  | [], _ => 0
  | (k, v) :: r, x => if x = k then 0 else findM r x + 1
section
variable {α β : Type} {enc : α → Value} {eV : β → Value} {ok : α → Prop} {P : Program} {kt : TypeId} {n : Nat} {F : List (Nat × Value)} {w0 : Base} {L : List As} {d : Nat} {mp kp vp sp : Operand} {t : TypeId} {pp : String} {af : Array Edge} {g : Option (Nat × Bool)} {tx et : TypeId} {b : Nat} {ops : Array Oper} {rest : List Oper} {Q : Exit → Act → World → Prop}
def mapB {α β : Type} [DecidableEq α] (b : Nat) (enc : α → Value) (eV : β → Value) (kvs : List (α × β)) (x : α) (v : β) : As := ⟨some b, fun o => o = .map (entsM enc eV kvs 0).toArray kvs.length ∨ o = .map (entsM enc eV (putM kvs x v) 0).toArray (putM kvs x v).length, false⟩
variable [DecidableEq α]
theorem putM_same : ∀ {kvs : List (α × β)} {x : α} {v : β}, getM kvs x = some v → putM kvs x v = kvs
  | (k, u) :: r, x, v, h => by
    unfold getM at h
    unfold putM
    split at h
    · rename_i e; injection h with h; rw [if_pos e, h]
    · rename_i e; rw [if_neg e, putM_same h]
theorem putM_at_find : ∀ {kvs : List (α × β)} {x : α} {v : β}, (putM kvs x v)[findM kvs x]? = some (x, v)
  | [], _, _ => rfl
  | (k, u) :: r, x, v => by
    unfold putM findM
    split
    · rename_i e; rw [List.getElem?_cons_zero, e]
    · rw [List.getElem?_cons_succ, putM_at_find]
theorem putM_set {x : α} {u v : β} : ∀ {kvs : List (α × β)}, (putM kvs x u).set (findM kvs x) (x, v) = putM kvs x v
  | [] => rfl
  | (k, w) :: r => by
    by_cases e : x = k
    · simp [putM, findM, e]
    · simp [putM, findM, e, putM_set]
theorem findM_at : ∀ {kvs : List (α × β)} {j : Nat} {x : α} {v : β}, kvs.Pairwise (fun p q => p.1 ≠ q.1) → kvs[j]? = some (x, v) → findM kvs x = j
  | (k, u) :: r, 0, x, v, _, h => by
    simp only [List.getElem?_cons_zero, Option.some.injEq, Prod.mk.injEq] at h
    rw [findM, if_pos h.1.symm]
  | (k, u) :: r, j + 1, x, v, hp, h => by
    obtain ⟨h1, h2⟩ := List.pairwise_cons.1 hp
    rw [List.getElem?_cons_succ] at h
    rw [findM, if_neg (fun e => h1 (x, v) (List.mem_of_getElem? h) e.symm), findM_at h2 h]
theorem findM_none : ∀ {kvs : List (α × β)} {x : α}, (∀ p ∈ kvs, p.1 ≠ x) → findM kvs x = kvs.length
  | [], _, _ => rfl
  | (k, v) :: r, x, h => by
    rw [findM, if_neg (fun e => h (k, v) List.mem_cons_self e.symm), findM_none fun p hp => h p (List.mem_cons_of_mem _ hp)]; rfl
theorem wk_mapB {i : Nat} {kvs : List (α × β)} (x : α) (v : β) (hi : L[i]? = some (mapA b enc eV kvs)) : Wk (L.set i (mapB b enc eV kvs x v)) L := fun w0 w hw => by
  exact hw.freeze (i := i) (y := mapB b enc eV kvs x v) hi rfl (fun o h => .inl h) (fun e => by cases e)
theorem wk_mapB' {i : Nat} {kvs : List (α × β)} (x : α) (v : β) (hi : L[i]? = some (mapA b enc eV (putM kvs x v))) : Wk (L.set i (mapB b enc eV kvs x v)) L := fun w0 w hw => by
  exact hw.freeze (i := i) (y := mapB b enc eV kvs x v) hi rfl (fun o h => .inr h) (fun e => by cases e)
theorem wkB (i : Nat) {kvs : List (α × β)} {x : α} {v : β} {LA : List As} (hi : L[i]? = some (mapA b enc eV kvs)) (hs : setL L i (mapB b enc eV kvs x v) = some LA) : Wk LA L := setL_eq hs ▸ wk_mapB x v hi
theorem wkB' (i : Nat) {kvs : List (α × β)} {x : α} {v : β} {LA : List As} (hi : L[i]? = some (mapA b enc eV (putM kvs x v))) (hs : setL L i (mapB b enc eV kvs x v) = some LA) : Wk LA L := setL_eq hs ▸ wk_mapB' x v hi
theorem ex_lookupB (K : KeyE P kt enc ok) (i : Nat) {kvs : List (α × β)} {x : α} {z0 v : β} {dd : Option Tmp} (hx : evF F mp = some (.map (some b))) (hk : evF F kp = some (enc x)) (ht : P.underlying tx = some (.map kt et)) (hz : ∀ w, (zeroValue et).run P w = .ok (eV z0) w) (hi : L[i]? = some (mapB b enc eV kvs x v)) (hm : OkM ok kvs) (hok : ok x) (hv : v = (getM kvs x).getD z0) :
    Ex P n F w0 L ⟨dd, .lookup tx mp kp false, t, pp, af, g⟩ (eV v) := fun A w ha hw => by
  obtain ⟨_, o, ho, hp⟩ := hw.2.1 _ (List.mem_of_getElem? hi) b rfl
  obtain ⟨lx, hlx⟩ := K.key x hok
  have hc := fun em => K.law.check w em hlx
  have key : ∀ kvs' : List (α × β), OkM ok kvs' → (getM kvs' x).getD z0 = v → w.heap[b]? = some (.map (entsM enc eV kvs' 0).toArray kvs'.length) → (execOp A.eval ⟨dd, .lookup tx mp kp false, t, pp, af, g⟩).run P w = .ok (.value (eV v)) w := fun kvs' hm' hg ho => by
    rcases run_findM (eV := eV) K hm' hok w with ⟨h1, _, h2⟩ | ⟨j, u, _, h1, h2⟩
    · rw [h1] at hg
      simp only [execOp, ha.ev hx, ha.ev hk, Instr.lookup, Sem.run_bind, run_underlying ht, getObj_map ho, Result.andThen_ok, Sem.run_pure, hc, List.toList_toArray, h2, hz]
      rw [← hg]; rfl
    · rw [h1] at hg
      simp only [execOp, ha.ev hx, ha.ev hk, Instr.lookup, Sem.run_bind, run_underlying ht, getObj_map ho, Result.andThen_ok, Sem.run_pure, hc, List.toList_toArray, h2]
      rw [← hg]; rfl
  rcases hp with hp | hp
  · exact key kvs hm hv.symm (by rw [ho, hp])
  · exact key (putM kvs x v) (hm.put hok) (by rw [getM_put, if_pos rfl]; rfl) (by rw [ho, hp])
theorem OkL.mapEntry (K : KeyE P kt enc ok) (i : Nat) {kvs : List (α × β)} {x : α} {z0 v : β} (hx : evF F mp = some (.map (some b))) (hk : evF F kp = some (enc x)) (ht : P.underlying tx = some (.map kt et)) (hz : ∀ w, (zeroValue et).run P w = .ok (eV z0) w) (hi : L[i]? = some (mapA b enc eV kvs)) (hm : OkM ok kvs) (hok : ok x) (hv : v = (getM kvs x).getD z0) (hd : Nat.ble (d + 1) n = true)
    (next : OkL P ops rest Q n ((d, .tuple #[eV v, vN (findM kvs x)]) :: F) w0 (L.set i (mapA b enc eV (putM kvs x v)))) : OkL P ops (⟨some d, .mapEntry tx mp kp, t, pp, af, none⟩ :: rest) Q n F w0 L := fun a w ha hW => by
  obtain ⟨_, o, ho, hp⟩ := hW.2.1 _ (List.mem_of_getElem? hi) b rfl
  have ho : w.heap[b]? = some (.map (entsM enc eV kvs 0).toArray kvs.length) := by rw [ho, hp]
  obtain ⟨lx, hlx⟩ := K.key x hok
  have hc := fun em => K.law.check w em hlx
  have hst := K.law.stays w hlx
  have hrun : (execOp a.eval ⟨some d, .mapEntry tx mp kp, t, pp, af, none⟩).run P w = .ok (.value (.tuple #[eV v, vN (findM kvs x)])) (Go.ChangeMaps.setBlock w b (.map (entsM enc eV (putM kvs x v) 0).toArray (putM kvs x v).length)) := by
    rcases run_findM (eV := eV) K hm hok w with ⟨h0, h1, h2⟩ | ⟨j, u, hj, h1, h2⟩
    · rw [h0] at hv
      simp only [Option.getD_none] at hv
      subst hv
      rw [putM_none h1, findM_none h1, entsM_append, List.length_append]
      simp only [execOp, ha.ev hx, ha.ev hk, Instr.mapEntry, Sem.run_bind, run_underlying ht, getObj_map ho, Result.andThen_ok, hc, List.toList_toArray, h2, hz, run_setMap ho, Sem.run_pure, List.push_toArray, Nat.zero_add, List.length_singleton]
      rfl
    · rw [h1] at hv
      simp only [Option.getD_some] at hv
      subst hv
      rw [putM_same h1, findM_at hm.once hj]
      have e1 : (entsM enc eV kvs 0)[j]? = some ⟨enc x, eV v, 0 + j⟩ := by rw [entsM_get, hj]; rfl
      have e2 := ents_modify (enc := enc) (eV := eV) (y := v) hj
      have e3 : kvs.set j (x, v) = kvs := by
        apply List.ext_getElem?
        intro q
        rw [List.getElem?_set]
        split
        · rename_i e; subst e; split
          · exact hj.symm
          · rename_i h9; rw [List.getElem?_eq_none (by omega)]
        · rfl
      rw [e3] at e2
      have e4 : (entsM enc eV kvs 0).toArray.modify j (fun e => { e with key := enc x }) = (entsM enc eV kvs 0).toArray := by
        apply Array.ext_getElem?
        intro q
        rw [Array.getElem?_modify]
        simp only [List.getElem?_toArray]
        split
        · rename_i e; subst e; rw [e1]; rfl
        · rfl
      simp only [execOp, ha.ev hx, ha.ev hk, Instr.mapEntry, Sem.run_bind, run_underlying ht, getObj_map ho, Result.andThen_ok, hc, List.toList_toArray, List.getElem?_toArray, h2, e1, hst, e4, run_setMap ho, Sem.run_pure, Option.map_some, Option.getD_some]
      simp [goInt, e1, hst, e4, run_setMap ho, Result.andThen]
  unfold wpList
  rw [if_pos (wt_none rfl a ha)]
  left
  unfold Oper.wp
  rw [hrun, Oper.upon_value]
  exact next _ _ (ha.put (blt_lt' hd)) (hW.turn hi rfl rfl (grw_setBlock _ _ _) ⟨_, setBlock_at ho, rfl⟩)
theorem OkL.entryStore (i : Nat) {kvs : List (α × β)} {x : α} {u y : β} (hx : evF F mp = some (.map (some b))) (hs : evF F sp = some (vN (findM kvs x))) (hv : evF F vp = some (eV y)) (hi : L[i]? = some (mapA b enc eV (putM kvs x u)))
    (next : OkL P ops rest Q n F w0 (L.set i (mapA b enc eV (putM kvs x y)))) : OkL P ops (⟨none, .entryStore tx mp sp vp, t, pp, af, none⟩ :: rest) Q n F w0 L := fun a w ha hW => by
  obtain ⟨_, o, ho, hp⟩ := hW.2.1 _ (List.mem_of_getElem? hi) b rfl
  have ho : w.heap[b]? = some (.map (entsM enc eV (putM kvs x u) 0).toArray (putM kvs x u).length) := by rw [ho, hp]
  have hf := putM_at_find (kvs := kvs) (x := x) (v := u)
  have hlt : findM kvs x < (putM kvs x u).length := (List.getElem?_eq_some_iff.1 hf).1
  have e0 : (entsM enc eV (putM kvs x u) 0)[findM kvs x]? = some ⟨enc x, eV u, findM kvs x⟩ := by rw [entsM_get, hf]; simp
  have hnd : ((entsM enc eV (putM kvs x u) 0).map (·.born)).Nodup := by
    have e1 : ∀ (l : List (α × β)) (s : Nat), (entsM enc eV l s).map (·.born) = List.range' s l.length := by
      intro l
      induction l with
      | nil => intro s; rfl
      | cons p r ih => intro s; rw [entsM, List.map_cons, ih, List.length_cons, List.range'_succ]
    rw [e1]; exact List.nodup_range'
  have hidx : (entsM enc eV (putM kvs x u) 0).toArray.findIdx? (fun e => ((e.born : Nat) : Int) == ((findM kvs x : Nat) : Int)) = some (findM kvs x) := by
    rw [WideElems.findIdx_arr]
    exact WideElems.findIdx_born hnd e0
  have hset : (putM kvs x u).set (findM kvs x) (x, y) = putM kvs x y := putM_set
  have hmod := ents_modify (enc := enc) (eV := eV) (y := y) hf
  have hmod2 : (entsM enc eV (putM kvs x u) 0).toArray.modify (findM kvs x) (fun e => { e with val := eV y }) = (entsM enc eV (putM kvs x y) 0).toArray := by
    rw [← hset, ← hmod]
    apply Array.ext_getElem?
    intro q
    rw [Array.getElem?_modify, Array.getElem?_modify]
    simp only [List.getElem?_toArray]
    split
    · rename_i e; subst e; rw [e0]; rfl
    · rfl
  have hl2 : (putM kvs x y).length = (putM kvs x u).length := by rw [← hset, List.length_set]
  have hrun : (execOp a.eval ⟨none, .entryStore tx mp sp vp, t, pp, af, none⟩).run P w = .ok .skip (Go.ChangeMaps.setBlock w b (.map (entsM enc eV (putM kvs x y) 0).toArray (putM kvs x y).length)) := by
    rw [← hmod2, hl2]
    simp only [execOp, ha.ev hx, ha.ev hs, ha.ev hv, Instr.entryStore, Sem.run_bind, getObj_map ho, Result.andThen_ok, asInt, asIntOf, Sem.run_pure, hidx, run_setMap ho]
  unfold wpList
  rw [if_pos (wt_none rfl a ha)]
  left
  unfold Oper.wp
  rw [hrun, Oper.upon_skip]
  exact next _ _ ha.put_none (hW.turn hi rfl rfl (grw_setBlock _ _ _) ⟨_, setBlock_at ho, rfl⟩)
end
end
section
abbrev T3 := Nat × Nat × Nat
section
variable {ts ts' : List T3} {N : Nat}
theorem okT_ne {t : T3} (h : okT N t = true) : t.1 ≠ t.2.1 ∧ t.2.1 ≠ t.2.2 ∧ t.2.2 ≠ t.1 := by
  simp only [okT, Bool.and_eq_true, Bool.not_eq_true', decide_eq_false_iff_not, decide_eq_true_eq] at h
  exact ⟨h.1.1.2, h.1.2, h.2⟩
theorem dirE_neN (hn : numB N ts = true) {u : Nat} (hu : u < 3 * ts.length) : (dirE ts u).1 ≠ (dirE ts u).2 := by
  obtain ⟨hab, hbc, hca⟩ := okT_ne (numB_at hn (show u / 3 < ts.length by omega))
  have h3 : u % 3 = 0 ∨ u % 3 = 1 ∨ u % 3 = 2 := by omega
  unfold dirE
  rcases h3 with h3 | h3 | h3 <;> rw [h3]
  · exact hab
  · exact hbc
  · exact hca
theorem dirE_lt (hn : numB N ts = true) {u : Nat} (hu : u < 3 * ts.length) : (dirE ts u).1 < N ∧ (dirE ts u).2 < N := by
  have h := numB_at hn (show u / 3 < ts.length by omega)
  exact ⟨crT_lt h _, crT_lt h _⟩
theorem Fst.uniq {s a b : Nat} {y z : Int} (h : Fst ts s a b y) (k : Fst ts s a b z) : y = z := by
  rcases h with ⟨h1, h2⟩ | ⟨u, h1, h2, h3, h4⟩ <;> rcases k with ⟨k1, k2⟩ | ⟨v, k1, k2, k3, k4⟩
  · omega
  · exact absurd k3 (h2 v k1)
  · exact absurd h3 (k2 u h1)
  · rcases Nat.lt_trichotomy u v with h | h | h
    · exact absurd h3 (k4 u h)
    · rw [h2, k2, h]
    · exact absurd k3 (h4 v h)
theorem mem_edL (hn : numB N ts = true) (hN : N ≤ 4611686018427387904) {e : E4} : e ∈ edL ts ↔ EInv ts (3 * ts.length) (e.a, e.b) e := by
  have hd : ∀ u, u < 3 * ts.length → (dirE ts u).1 ≠ (dirE ts u).2 := fun u hu => dirE_neN hn hu
  refine ⟨fun h => edL_inv hn hN hd h, fun h => ?_⟩
  obtain ⟨i1, i2⟩ := edS_inv hd _ (Nat.le_refl _)
  cases hg : getM (edS ts (3 * ts.length)) (e.a, e.b) with
  | none =>
    obtain ⟨u, hu, hs⟩ := h.some
    have h3 := i2 _ hg h.lt u hu
    rcases hs with hs | hs
    · exact absurd hs h3.1
    · exact absurd hs h3.2
  | some e' =>
    have h3 := i1 _ _ hg
    have e1 : e' = e := by
      have a1 := h3.ea; have a2 := h3.eb; have a3 := h3.l.uniq h.l; have a4 := h3.r.uniq h.r
      cases e; cases e'; simp only at a1 a2 a3 a4; subst a1 a2 a3 a4; rfl
    rw [e1] at hg
    unfold edL
    exact (srtE_perm _).mem_iff.2 (List.mem_map.2 ⟨_, getM_mem hg, rfl⟩)
def LtE (x y : E4) : Prop := x.a < y.a ∨ (x.a = y.a ∧ x.b < y.b)
theorem edL_sorted (hn : numB N ts = true) (hN : N ≤ 4611686018427387904) : (edL ts).Pairwise LtE := by
  have h1 : OnceE ((edS ts (3 * ts.length)).map (·.2)) := once_vals (edS_ok hn hN _ (Nat.le_refl _)) (edS_ends ts _)
  have h2 : OnceE (edL ts) := (List.Perm.pairwise_iff (R := fun x y : E4 => ¬ (x.a = y.a ∧ x.b = y.b)) (fun h k => h ⟨k.1.symm, k.2.symm⟩) (srtE_perm _)).2 h1
  exact (List.Pairwise.and (srtE_sorted _) h2).imp fun {x y} h => by
    have h3 := leE_iff.1 h.1
    have h4 := h.2
    unfold LtE
    omega
def WayT (ts : List T3) (j a b : Nat) : Prop := ∃ r, r < 3 ∧ dirE ts (3 * j + r) = (a, b)
def FstT (ts : List T3) (n a b : Nat) (z : Int) : Prop := (z = -1 ∧ ∀ j, j < n → ¬ WayT ts j a b) ∨ ∃ j, j < n ∧ z = (j : Int) ∧ WayT ts j a b ∧ ∀ i, i < j → ¬ WayT ts i a b
theorem fst_tri {n a b : Nat} {z : Int} (h : Fst ts (3 * n) a b z) : FstT ts n a b z := by
  rcases h with ⟨h1, h2⟩ | ⟨u, h1, h2, h3, h4⟩
  · exact .inl ⟨h1, fun j hj ⟨r, hr, k⟩ => h2 _ (by omega) k⟩
  · exact .inr ⟨u / 3, by omega, h2, ⟨u % 3, by omega, by rw [show 3 * (u / 3) + u % 3 = u by omega]; exact h3⟩, fun i hi ⟨r, hr, k⟩ => h4 _ (by omega) k⟩
theorem fst_tri' {n a b : Nat} {z : Int} (h : FstT ts n a b z) : Fst ts (3 * n) a b z := by
  rcases h with ⟨h1, h2⟩ | ⟨j, h1, h2, ⟨r, hr, h3⟩, h4⟩
  · exact .inl ⟨h1, fun u hu k => h2 (u / 3) (by omega) ⟨u % 3, by omega, by rw [show 3 * (u / 3) + u % 3 = u by omega]; exact k⟩⟩
  · have key : ∀ m, m ≤ 3 → (∀ q, q < m → dirE ts (3 * j + q) ≠ (a, b)) ∨ ∃ q, q < m ∧ dirE ts (3 * j + q) = (a, b) ∧ ∀ p, p < q → dirE ts (3 * j + p) ≠ (a, b) := by
      intro m
      induction m with
      | zero => intro _; exact .inl fun q hq => absurd hq (Nat.not_lt_zero _)
      | succ m ih =>
        intro hm
        rcases ih (by omega) with h | ⟨q, h5, h6, h7⟩
        · by_cases k : dirE ts (3 * j + m) = (a, b)
          · exact .inr ⟨m, by omega, k, h⟩
          · refine .inl fun q hq => ?_
            rcases Nat.lt_or_ge q m with h8 | h8
            · exact h q h8
            · rw [show q = m by omega]; exact k
        · exact .inr ⟨q, by omega, h6, h7⟩
    rcases key 3 (Nat.le_refl _) with k | ⟨q, h5, h6, h7⟩
    · exact absurd h3 (k r hr)
    · refine .inr ⟨3 * j + q, by omega, by rw [h2]; congr 1; omega, h6, fun v hv k => ?_⟩
      rcases Nat.lt_or_ge v (3 * j) with h8 | h8
      · exact h4 (v / 3) (by omega) ⟨v % 3, by omega, by rw [show 3 * (v / 3) + v % 3 = v by omega]; exact k⟩
      · exact h7 (v - 3 * j) (by omega) (by rw [show 3 * j + (v - 3 * j) = v by omega]; exact k)
structure SameT (ts ts' : List T3) : Prop where
  len : ts.length = ts'.length
  way : ∀ j, j < ts.length → ∀ a b, WayT ts j a b ↔ WayT ts' j a b
theorem SameT.symm (h : SameT ts ts') : SameT ts' ts := ⟨h.len.symm, fun j hj a b => (h.way j (by rw [h.len]; exact hj) a b).symm⟩
theorem SameT.fst (h : SameT ts ts') {a b : Nat} {z : Int} (k : Fst ts (3 * ts.length) a b z) : Fst ts' (3 * ts'.length) a b z := by
  rw [← h.len]
  refine fst_tri' ?_
  rcases fst_tri k with ⟨h1, h2⟩ | ⟨j, h1, h2, h3, h4⟩
  · exact .inl ⟨h1, fun j hj k => h2 j hj ((h.way j hj a b).2 k)⟩
  · exact .inr ⟨j, h1, h2, (h.way j h1 a b).1 h3, fun i hi k => h4 i hi ((h.way i (by omega) a b).2 k)⟩
theorem SameT.inv (h : SameT ts ts') {e : E4} (k : EInv ts (3 * ts.length) (e.a, e.b) e) : EInv ts' (3 * ts'.length) (e.a, e.b) e := by
  obtain ⟨u, hu, hs⟩ := k.some
  refine ⟨k.ea, k.eb, k.lt, h.fst k.l, h.fst k.r, ?_⟩
  have key : ∀ a b, dirE ts u = (a, b) → ∃ v, v < 3 * ts'.length ∧ dirE ts' v = (a, b) := fun a b hd => by
    obtain ⟨r, hr, h3⟩ := (h.way (u / 3) (by omega) a b).1 ⟨u % 3, by omega, by rw [show 3 * (u / 3) + u % 3 = u by omega]; exact hd⟩
    exact ⟨3 * (u / 3) + r, by rw [← h.len]; omega, h3⟩
  rcases hs with hs | hs
  · obtain ⟨v, h1, h2⟩ := key _ _ hs; exact ⟨v, h1, .inl h2⟩
  · obtain ⟨v, h1, h2⟩ := key _ _ hs; exact ⟨v, h1, .inr h2⟩
theorem dirE_at {j r : Nat} (hr : r < 3) : dirE ts (3 * j + r) = (crT (ts.getD j (0, 0, 0)) r, crT (ts.getD j (0, 0, 0)) ((r + 1) % 3)) := by
  unfold dirE
  rw [show (3 * j + r) / 3 = j by omega, show (3 * j + r) % 3 = r by omega]
def keyU (ts : List T3) (u : Nat) : P2 := kyE (dirE ts u).1 (dirE ts u).2
def manS (ts : List T3) : Nat → List (P2 × Nat)
  | 0 => []
  | s + 1 => putM (manS ts s) (keyU ts s) ((getM (manS ts s) (keyU ts s)).getD 0 + 1)
def allK (ts : List T3) : List P2 := ts.flatMap fun t => [kyE t.1 t.2.1, kyE t.2.1 t.2.2, kyE t.2.2 t.1]
theorem manS_count (k : P2) : ∀ s, (getM (manS ts s) k).getD 0 = ((List.range s).map (keyU ts)).count k
  | 0 => rfl
  | s + 1 => by
    rw [manS, getM_put, List.range_succ, List.map_append, List.count_append, List.map_singleton, List.count_singleton]
    by_cases h : k = keyU ts s
    · subst h
      rw [if_pos rfl, Option.getD_some, manS_count _ s]; simp
    · rw [if_neg h, manS_count k s, if_neg (by simpa using fun e => h e.symm)]; rfl
theorem manS_succ {t i : Nat} (hi : i < 3) : manS ts (3 * t + i + 1) = putM (manS ts (3 * t + i)) (kyE (crT (ts.getD t (0, 0, 0)) i) (crT (ts.getD t (0, 0, 0)) ((i + 1) % 3))) ((getM (manS ts (3 * t + i)) (kyE (crT (ts.getD t (0, 0, 0)) i) (crT (ts.getD t (0, 0, 0)) ((i + 1) % 3)))).getD 0 + 1) := by
  rw [manS]
  unfold keyU
  rw [dirE_at hi]
theorem manS_le (s : Nat) (k : P2) : (getM (manS ts s) k).getD 0 ≤ s := by
  rw [manS_count]
  exact Nat.le_trans List.count_le_length (by simp)
theorem manS_ok (hn : numB N ts = true) (hN : N ≤ 4611686018427387904) : ∀ s, s ≤ 3 * ts.length → OkM okE (manS ts s)
  | 0, _ => OkM.nil
  | s + 1, hs => by
    obtain ⟨h1, h2⟩ := dirE_lt hn (show s < 3 * ts.length by omega)
    exact (manS_ok hn hN s (by omega)).put (okE_ky (Nat.lt_of_lt_of_le h1 hN) (Nat.lt_of_lt_of_le h2 hN))
theorem allK_range : (List.range (3 * ts.length)).map (keyU ts) = allK ts := by
  have key : ∀ n, n ≤ ts.length → (List.range (3 * n)).map (keyU ts) = allK (ts.take n) := by
    intro n
    induction n with
    | zero => intro _; rfl
    | succ n ih =>
      intro hn
      have e1 : List.range (3 * (n + 1)) = List.range (3 * n) ++ [3 * n, 3 * n + 1, 3 * n + 2] := by
        rw [show 3 * (n + 1) = 3 * n + 1 + 1 + 1 by omega, List.range_succ, List.range_succ, List.range_succ]; simp
      have e2 : ts.take (n + 1) = ts.take n ++ [ts.getD n (0, 0, 0)] := by
        rw [List.take_add_one, List.getElem?_eq_getElem (show n < ts.length by omega), List.getD, List.getElem?_eq_getElem (show n < ts.length by omega)]; rfl
      have k0 := dirE_at (ts := ts) (j := n) (show 0 < 3 by decide)
      have k1 := dirE_at (ts := ts) (j := n) (show 1 < 3 by decide)
      have k2 := dirE_at (ts := ts) (j := n) (show 2 < 3 by decide)
      rw [e1, e2, List.map_append, ih (by omega)]
      unfold allK
      rw [List.flatMap_append]
      congr 1
      simp only [List.map_cons, List.map_nil, List.flatMap_cons, List.flatMap_nil, List.append_nil, keyU]
      rw [show 3 * n = 3 * n + 0 by omega, k0, show 3 * n + 0 + 1 = 3 * n + 1 by omega, k1, show 3 * n + 0 + 2 = 3 * n + 2 by omega, k2]
      rfl
  have h := key ts.length (Nat.le_refl _)
  rwa [List.take_length] at h
def cntE (ts : List T3) (k : P2) : Nat := (getM (manS ts (3 * ts.length)) k).getD 0
theorem cntE_eq (k : P2) : cntE ts k = (allK ts).count k := by unfold cntE; rw [manS_count, allK_range]
def rimN (ts : List T3) (i : Nat) : List T3 := (((edL ts).take i).filter fun e => decide (cntE ts (e.a, e.b) = 1)).map fun e => (e.a, e.b, 0)
def rimL (ts : List T3) : List T3 := rimN ts (edL ts).length
theorem rimN_yes {i : Nat} (hi : i < (edL ts).length) (h : cntE ts (((edL ts).getD i ⟨0, 0, 0, 0⟩).a, ((edL ts).getD i ⟨0, 0, 0, 0⟩).b) = 1) : rimN ts (i + 1) = rimN ts i ++ [(((edL ts).getD i ⟨0, 0, 0, 0⟩).a, ((edL ts).getD i ⟨0, 0, 0, 0⟩).b, 0)] := by
  rw [List.getD, List.getElem?_eq_getElem hi] at h ⊢
  unfold rimN
  rw [List.take_add_one, List.getElem?_eq_getElem hi, List.filter_append, List.map_append]
  simp only [Option.toList_some, Option.getD_some] at h ⊢
  rw [List.filter_cons, if_pos (decide_eq_true h)]; rfl
theorem rimN_no {i : Nat} (hi : i < (edL ts).length) (h : ¬ cntE ts (((edL ts).getD i ⟨0, 0, 0, 0⟩).a, ((edL ts).getD i ⟨0, 0, 0, 0⟩).b) = 1) : rimN ts (i + 1) = rimN ts i := by
  rw [List.getD, List.getElem?_eq_getElem hi] at h
  unfold rimN
  rw [List.take_add_one, List.getElem?_eq_getElem hi, List.filter_append, List.map_append]
  simp only [Option.toList_some, Option.getD_some] at h ⊢
  rw [List.filter_cons, if_neg (by simpa using h)]; simp
theorem rimN_len (i : Nat) : (rimN ts i).length ≤ i := by
  unfold rimN
  rw [List.length_map]
  exact Nat.le_trans (List.length_filter_le _ _) (List.length_take_le _ _)
theorem mem_keys (hn : numB N ts = true) (hN : N ≤ 4611686018427387904) {a b : Nat} : (a, b) ∈ allK ts ↔ ∃ e ∈ edL ts, e.a = a ∧ e.b = b := by
  rw [← allK_range, List.mem_map]
  constructor
  · rintro ⟨u, hu, hk⟩
    have hu := List.mem_range.1 hu
    have hne := dirE_neN hn hu
    unfold keyU kyE at hk
    injection hk with h1 h2
    have hlt : a < b := by omega
    have hd : dirE ts u = (a, b) ∨ dirE ts u = (b, a) := by
      rcases Nat.lt_or_ge (dirE ts u).1 (dirE ts u).2 with h | h
      · exact .inl (Prod.ext (by omega) (by omega))
      · exact .inr (Prod.ext (by omega) (by omega))
    obtain ⟨i1, i2⟩ := edS_inv (fun u hu => dirE_neN hn hu) _ (Nat.le_refl _)
    cases hg : getM (edS ts (3 * ts.length)) (a, b) with
    | none =>
      have h3 := i2 _ hg hlt u hu
      rcases hd with hd | hd
      · exact absurd hd h3.1
      · exact absurd hd h3.2
    | some e =>
      have h3 := i1 _ _ hg
      refine ⟨e, ?_, h3.ea, h3.eb⟩
      unfold edL
      exact (srtE_perm _).mem_iff.2 (List.mem_map.2 ⟨_, getM_mem hg, rfl⟩)
  · rintro ⟨e, he, rfl, rfl⟩
    have h := (mem_edL hn hN).1 he
    obtain ⟨u, hu, hs⟩ := h.some
    have hlt := h.lt
    simp only at hlt hs
    refine ⟨u, List.mem_range.2 hu, ?_⟩
    unfold keyU kyE
    rcases hs with hs | hs <;> rw [hs] <;> exact Prod.ext (by simp only; omega) (by simp only; omega)
def LtS (x y : T3) : Prop := x.1 < y.1 ∨ (x.1 = y.1 ∧ x.2.1 < y.2.1)
theorem rimL_sorted (hn : numB N ts = true) (hN : N ≤ 4611686018427387904) : (rimL ts).Pairwise LtS := by
  unfold rimL rimN
  rw [List.pairwise_map, List.take_length]
  exact (edL_sorted hn hN).filter _
theorem mem_rimL (hn : numB N ts = true) (hN : N ≤ 4611686018427387904) {s : T3} : s ∈ rimL ts ↔ (allK ts).count (s.1, s.2.1) = 1 ∧ s.2.2 = 0 := by
  unfold rimL rimN
  rw [List.take_length, List.mem_map]
  constructor
  · rintro ⟨e, he, rfl⟩
    obtain ⟨h1, h2⟩ := List.mem_filter.1 he
    exact ⟨by rw [← cntE_eq]; exact of_decide_eq_true h2, rfl⟩
  · rintro ⟨h1, h2⟩
    have hm : (s.1, s.2.1) ∈ allK ts := List.count_pos_iff.1 (by omega)
    obtain ⟨e, he, ea, eb⟩ := (mem_keys hn hN).1 hm
    refine ⟨e, List.mem_filter.2 ⟨he, decide_eq_true (by rw [cntE_eq, ea, eb]; exact h1)⟩, ?_⟩
    exact Prod.ext ea (Prod.ext eb h2.symm)
end
end
section
abbrev E0 : E4 := ⟨0, 0, 0, 0⟩
def midS (N : Nat) (es : List E4) : Nat → List (P2 × Nat)
  | 0 => []
  | i + 1 => putM (midS N es i) (kyE (es.getD i E0).a (es.getD i E0).b) (N + i)
def sidS (N : Nat) (ss : List T3) : Nat → List (P2 × Nat)
  | 0 => []
  | k + 1 => if (ss.getD (ss.length - 1 - k) (0, 0, 0)).1 < N ∧ (ss.getD (ss.length - 1 - k) (0, 0, 0)).2.1 < N then putM (sidS N ss k) (kyE (ss.getD (ss.length - 1 - k) (0, 0, 0)).1 (ss.getD (ss.length - 1 - k) (0, 0, 0)).2.1) (ss.getD (ss.length - 1 - k) (0, 0, 0)).2.2 else sidS N ss k
def halS (N : Nat) (ss : List T3) (es : List E4) : Nat → List (P2 × Nat)
  | 0 => sidS N ss ss.length
  | i + 1 => putM (putM (halS N ss es i) (kyE (es.getD i E0).a (N + i)) ((getM (halS N ss es i) (kyE (es.getD i E0).a (es.getD i E0).b)).getD 0)) (kyE (es.getD i E0).b (N + i)) ((getM (halS N ss es i) (kyE (es.getD i E0).a (es.getD i E0).b)).getD 0)
def mrkV (N : Nat) (ss : List T3) (es : List E4) (a b : Nat) : Nat := (getM (halS N ss es es.length) (kyE a b)).getD 0
def mdE (ps : List Pt) (e : E4) : Pt := scaleP (cor ps e.a + cor ps e.b) (1 / 2)
def halN (ps : List Pt) (es : List E4) : Nat → List Pt
  | 0 => ps
  | i + 1 => halN ps es i ++ [mdE ps (es.getD i E0)]
def halP (ps : List Pt) (es : List E4) : List Pt := halN ps es es.length
def mrkN (N : Nat) (ss : List T3) (es : List E4) (rs : List T3) (i : Nat) : List T3 := (rs.take i).map (fun s => (s.1, s.2.1, mrkV N ss es s.1 s.2.1)) ++ rs.drop i
def halX (N : Nat) (ss : List T3) (es : List E4) (ts : List T3) : List T3 := (rimL ts).map fun s => (s.1, s.2.1, mrkV N ss es s.1 s.2.1)
section
variable {N M i : Nat} {es : List E4} {ts : List T3} {t : T3} {ss rs : List T3} {ps : List Pt}
theorem take_succ_getD {α : Type} {l : List α} {d : α} {i : Nat} (h : i < l.length) : l.take (i + 1) = l.take i ++ [l.getD i d] := by
  rw [List.take_add_one, List.getElem?_eq_getElem h, List.getD, List.getElem?_eq_getElem h]; rfl
theorem halN_len : ∀ i, (halN ps es i).length = ps.length + i
  | 0 => rfl
  | i + 1 => by rw [halN, List.length_append, halN_len i]; rfl
theorem halP_len : (halP ps es).length = ps.length + es.length := halN_len _
theorem mrkN_all : mrkN N ss es rs rs.length = rs.map fun s => (s.1, s.2.1, mrkV N ss es s.1 s.2.1) := by unfold mrkN; simp
theorem mrkN_len : (mrkN N ss es rs i).length = rs.length := by unfold mrkN; simp; omega
theorem mrkN_get (h : i < rs.length) : (mrkN N ss es rs i).getD i (0, 0, 0) = rs.getD i (0, 0, 0) := by
  unfold mrkN
  rw [List.getD, List.getElem?_append_right (by simp; omega), List.length_map, List.length_take, Nat.min_eq_left (by omega), Nat.sub_self, List.getElem?_drop]
  rfl
theorem mrkN_succ (h : i < rs.length) : (mrkN N ss es rs i).set i ((rs.getD i (0, 0, 0)).1, (rs.getD i (0, 0, 0)).2.1, mrkV N ss es (rs.getD i (0, 0, 0)).1 (rs.getD i (0, 0, 0)).2.1) = mrkN N ss es rs (i + 1) := by
  unfold mrkN
  rw [take_succ_getD (d := (0, 0, 0)) h, List.map_append, List.set_append_right _ _ (by simp; omega), List.length_map, List.length_take, Nat.min_eq_left (by omega), Nat.sub_self, drop_at (d := (0, 0, 0)) h, List.set_cons_zero, List.append_assoc]
  rfl
theorem mrkN_step {v : Nat} (h : i < rs.length) (hv : v = mrkV N ss es (rs.getD i (0, 0, 0)).1 (rs.getD i (0, 0, 0)).2.1) : (mrkN N ss es rs i).set i (((mrkN N ss es rs i).getD i (0, 0, 0)).1, ((mrkN N ss es rs i).getD i (0, 0, 0)).2.1, v) = mrkN N ss es rs (i + 1) := by
  rw [mrkN_get h, hv]; exact mrkN_succ h
theorem sidS_yes {k : Nat} (h : (ss.getD (ss.length - 1 - k) (0, 0, 0)).1 < N ∧ (ss.getD (ss.length - 1 - k) (0, 0, 0)).2.1 < N) : putM (sidS N ss k) (kyE (ss.getD (ss.length - 1 - k) (0, 0, 0)).1 (ss.getD (ss.length - 1 - k) (0, 0, 0)).2.1) (ss.getD (ss.length - 1 - k) (0, 0, 0)).2.2 = sidS N ss (k + 1) := by
  rw [sidS, if_pos h]
theorem sidS_no {k : Nat} (h : ¬ ((ss.getD (ss.length - 1 - k) (0, 0, 0)).1 < N ∧ (ss.getD (ss.length - 1 - k) (0, 0, 0)).2.1 < N)) : sidS N ss k = sidS N ss (k + 1) := by
  rw [sidS, if_neg h]
theorem midS_ok (hes : ∀ e ∈ es, e.a < N ∧ e.b < N) (hN : N ≤ 4611686018427387904) : ∀ i, i ≤ es.length → OkM okE (midS N es i)
  | 0, _ => OkM.nil
  | i + 1, h => by
    have h1 := hes (es.getD i E0) (by rw [List.getD, List.getElem?_eq_getElem (show i < es.length by omega)]; exact List.getElem_mem _)
    exact (midS_ok hes hN i (by omega)).put (okE_ky (by omega) (by omega))
theorem sidS_ok (hN : N ≤ 4611686018427387904) : ∀ k, OkM okE (sidS N ss k)
  | 0 => OkM.nil
  | k + 1 => by
    unfold sidS
    split
    · rename_i h; exact (sidS_ok hN k).put (okE_ky (by omega) (by omega))
    · exact sidS_ok hN k
theorem halS_ok (hes : ∀ e ∈ es, e.a < N ∧ e.b < N) (hN : N + es.length ≤ 4611686018427387904) : ∀ i, i ≤ es.length → OkM okE (halS N ss es i)
  | 0, _ => sidS_ok (by omega) _
  | i + 1, h => by
    have h1 := hes (es.getD i E0) (by rw [List.getD, List.getElem?_eq_getElem (show i < es.length by omega)]; exact List.getElem_mem _)
    exact ((halS_ok hes hN i (by omega)).put (okE_ky (by omega) (by omega))).put (okE_ky (by omega) (by omega))
theorem edge_ends (hn : numB N ts = true) (hN : N ≤ 4611686018427387904) {e : E4} (he : e ∈ edL ts) : e.a < e.b ∧ e.b < N := by
  have h := (mem_edL hn hN).1 he
  obtain ⟨u, hu, hs⟩ := h.some
  have h2 := dirE_lt hn hu
  have hlt := h.lt
  simp only at hlt hs
  rcases hs with hs | hs <;> rw [hs] at h2 <;> simp only at h2 <;> omega
theorem edge_two (hn : numB N ts = true) (hN : N ≤ 4611686018427387904) : ∀ e ∈ edL ts, e.a < N ∧ e.b < N := fun e he => by
  have := edge_ends hn hN he; omega
theorem rimL_lt (hn : numB N ts = true) (hN : N ≤ 4611686018427387904) {s : T3} (hs : s ∈ rimL ts) : s.1 < N ∧ s.2.1 < N := by
  unfold rimL rimN at hs
  rw [List.take_length, List.mem_map] at hs
  obtain ⟨e, he, rfl⟩ := hs
  exact edge_two hn hN e (List.mem_filter.1 he).1
theorem midS_get (hs : es.Pairwise LtE) (hl : ∀ e ∈ es, e.a < e.b) {j : Nat} : ∀ i, i ≤ es.length → j < i → getM (midS N es i) ((es.getD j E0).a, (es.getD j E0).b) = some (N + j)
  | 0, _, h => absurd h (Nat.not_lt_zero _)
  | i + 1, hi, hj => by
    have m : ∀ k, k < es.length → es.getD k E0 ∈ es := fun k hk => by rw [List.getD, List.getElem?_eq_getElem hk]; exact List.getElem_mem _
    have k1 : kyE (es.getD i E0).a (es.getD i E0).b = ((es.getD i E0).a, (es.getD i E0).b) := by
      have := hl _ (m i (by omega)); unfold kyE; exact Prod.ext (by simp only; omega) (by simp only; omega)
    rw [midS, getM_put, k1]
    rcases Nat.lt_or_ge j i with h | h
    · have h2 : LtE (es.getD j E0) (es.getD i E0) := by
        rw [List.getD, List.getD, List.getElem?_eq_getElem (show j < es.length by omega), List.getElem?_eq_getElem (show i < es.length by omega)]
        exact List.pairwise_iff_getElem.1 hs j i (by omega) (by omega) h
      rw [if_neg (fun e => by injection e with e1 e2; unfold LtE at h2; omega)]
      exact midS_get hs hl i (by omega) h
    · rw [show j = i by omega, if_pos rfl]
theorem keys_of {t : T3} (h : t ∈ ts) : kyE t.1 t.2.1 ∈ allK ts ∧ kyE t.2.1 t.2.2 ∈ allK ts ∧ kyE t.2.2 t.1 ∈ allK ts := by
  unfold allK
  refine ⟨List.mem_flatMap.2 ⟨t, h, ?_⟩, List.mem_flatMap.2 ⟨t, h, ?_⟩, List.mem_flatMap.2 ⟨t, h, ?_⟩⟩ <;> simp
end
end
end Go.Proofs.YtgiacpkjnikjdaaGreat
