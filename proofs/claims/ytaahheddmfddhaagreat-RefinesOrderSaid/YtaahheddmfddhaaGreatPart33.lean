import Derived.WideKeyEntry
import Derived.Test.YtaahheddmfddhaaGreatPart15
import Derived.Test.YtaahheddmfddhaaGreatPart32
namespace Go.Proofs.YtaahheddmfddhaaGreat
open Go Go.RowKit
set_option linter.unusedVariables false
set_option linter.unusedSimpArgs false
section
theorem keyOf_arr2 {P : Program} {k e : TypeId} (hu : P.underlying k = some (.array 2 e)) (he : P.underlying e = some (.int .i64)) (ce : P.cellsOf e = 1) (ck : P.cellsOf k = 2) (hk : P.keyType k = true) (hr : k < P.types.size)
    {a b : Int} (wa : (Lit.int .i64 a).wf = true) (wb : (Lit.int .i64 b).wf = true) : ∃ l, keyOf P k (.agg #[.int .i64 a, .int .i64 b]) = some l := by
  have h0 : 0 < P.types.size := Nat.lt_of_le_of_lt (Nat.zero_le _) hr
  obtain ⟨d, hd⟩ : ∃ d, P.types.size = d + 1 := ⟨P.types.size - 1, by omega⟩
  have hf : (Value.agg #[.int .i64 a, .int .i64 b]).formed P k = true := by
    unfold Value.formed
    simp only [hu, ck]
    rfl
  have hl : P.keyLits (P.types.size + 1) k (Value.agg #[.int .i64 a, .int .i64 b]).cells.toList = some [.int .i64 a, .int .i64 b] := by
    rw [hd]
    unfold Program.keyLits
    simp only [hu]
    show (if ([Value.int .i64 a, Value.int .i64 b] : List Value).length = P.cellsOf k then _ else _) = _
    rw [if_pos (by rw [ck]; rfl)]
    have e0 : P.keyLits (d + 1) e ((([Value.int .i64 a, Value.int .i64 b] : List Value).drop (0 * P.cellsOf e)).take (P.cellsOf e)) = some [.int .i64 a] := by
      rw [ce]; exact keyLits_int he d wa
    have e1 : P.keyLits (d + 1) e ((([Value.int .i64 a, Value.int .i64 b] : List Value).drop (1 * P.cellsOf e)).take (P.cellsOf e)) = some [.int .i64 b] := by
      rw [ce]; exact keyLits_int he d wb
    show (List.mapM (fun i => P.keyLits (d + 1) e ((([Value.int .i64 a, Value.int .i64 b] : List Value).drop (i * P.cellsOf e)).take (P.cellsOf e))) [0, 1]).map List.flatten = _
    simp only [List.mapM_cons, List.mapM_nil, e0, e1]
    rfl
  refine ⟨.string (keyBytes [.int .i64 a, .int .i64 b]), ?_⟩
  unfold keyOf
  simp only [hu, hk, hf, Bool.and_self, if_true, hl]
  rfl
theorem keyPair {P : Program} (hl : laidOutB P = true) {k e : TypeId} (hr : k < P.types.size) (ht : P.keyTypeAt 2 k = true) (hw : (match P.underlying k with | some (.array _ _) | some (.struct _) => true | _ => false) = true) (hu : P.underlying k = some (.array 2 e)) (he : P.underlying e = some (.int .i64)) (ce : P.cellsOf e = 1) (ck : P.cellsOf k = 2) (hk : P.keyType k = true) : KeyE P k kEd okE where
  law := .of_law (deep_law_laid hl (m := 2) (by decide) hr ht hw)
  key := fun a h => keyOf_arr2 hu he ce ck hk hr (wf_nat h.1) (wf_nat h.2)
  inj := fun a b h => posL_inj h
theorem okE_mk {a b : Nat} (ha : a < 4611686018427387904) (hb : b < 4611686018427387904) : okE (a, b) := ⟨ha, hb⟩
def findM {α β : Type} [DecidableEq α] : List (α × β) → α → Nat
  | [], _ => 0
  | (k, v) :: r, x => if x = k then 0 else findM r x + 1
section
variable {α β : Type} {enc : α → Value} {eV : β → Value} {ok : α → Prop} {P : Program} {kt : TypeId} {n : Nat} {F : List (Nat × Value)} {w0 : Base} {L : List As} {d : Nat} {mp kp vp sp : Operand} {t : TypeId} {pp : String} {af : Array Edge} {g : Option (Nat × Bool)} {tx et : TypeId} {b : Nat} {ops : Array Oper} {rest : List Oper} {Q : Exit → Act → World → Prop}
def mapB {α β : Type} [DecidableEq α] (b : Nat) (enc : α → Value) (eV : β → Value) (kvs : List (α × β)) (x : α) (v : β) : As := ⟨some b, fun o => o = .map (entsM enc eV kvs 0).toArray kvs.length ∨ o = .map (entsM enc eV (putM kvs x v) 0).toArray (putM kvs x v).length, false⟩
variable [DecidableEq α]
theorem putM_same : ∀ {kvs : List (α × β)} {x : α} {v : β}, getM kvs x = some v → putM kvs x v = kvs
  | (k, u) :: r, x, v, h => by
    unfold getM at h
    unfold putM
    split at h
    · rename_i e; injection h with h; rw [if_pos e, h]
    · rename_i e; rw [if_neg e, putM_same h]
theorem putM_at_find : ∀ {kvs : List (α × β)} {x : α} {v : β}, (putM kvs x v)[findM kvs x]? = some (x, v)
  | [], _, _ => rfl
  | (k, u) :: r, x, v => by
    unfold putM findM
    split
    · rename_i e; rw [List.getElem?_cons_zero, e]
    · rw [List.getElem?_cons_succ, putM_at_find]
theorem putM_set {x : α} {u v : β} : ∀ {kvs : List (α × β)}, (putM kvs x u).set (findM kvs x) (x, v) = putM kvs x v
  | [] => rfl
  | (k, w) :: r => by
    by_cases e : x = k
    · simp [putM, findM, e]
    · simp [putM, findM, e, putM_set]
theorem findM_at : ∀ {kvs : List (α × β)} {j : Nat} {x : α} {v : β}, kvs.Pairwise (fun p q => p.1 ≠ q.1) → kvs[j]? = some (x, v) → findM kvs x = j
  | (k, u) :: r, 0, x, v, _, h => by
    simp only [List.getElem?_cons_zero, Option.some.injEq, Prod.mk.injEq] at h
    rw [findM, if_pos h.1.symm]
  | (k, u) :: r, j + 1, x, v, hp, h => by
    obtain ⟨h1, h2⟩ := List.pairwise_cons.1 hp
    rw [List.getElem?_cons_succ] at h
    rw [findM, if_neg (fun e => h1 (x, v) (List.mem_of_getElem? h) e.symm), findM_at h2 h]
theorem findM_none : ∀ {kvs : List (α × β)} {x : α}, (∀ p ∈ kvs, p.1 ≠ x) → findM kvs x = kvs.length
  | [], _, _ => rfl
  | (k, v) :: r, x, h => by
    rw [findM, if_neg (fun e => h (k, v) List.mem_cons_self e.symm), findM_none fun p hp => h p (List.mem_cons_of_mem _ hp)]; rfl
theorem wk_mapB {i : Nat} {kvs : List (α × β)} (x : α) (v : β) (hi : L[i]? = some (mapA b enc eV kvs)) : Wk (L.set i (mapB b enc eV kvs x v)) L := fun w0 w hw => by
  exact hw.freeze (i := i) (y := mapB b enc eV kvs x v) hi rfl (fun o h => .inl h) (fun e => by cases e)
theorem wk_mapB' {i : Nat} {kvs : List (α × β)} (x : α) (v : β) (hi : L[i]? = some (mapA b enc eV (putM kvs x v))) : Wk (L.set i (mapB b enc eV kvs x v)) L := fun w0 w hw => by
  exact hw.freeze (i := i) (y := mapB b enc eV kvs x v) hi rfl (fun o h => .inr h) (fun e => by cases e)
theorem wkB (i : Nat) {kvs : List (α × β)} {x : α} {v : β} {LA : List As} (hi : L[i]? = some (mapA b enc eV kvs)) (hs : setL L i (mapB b enc eV kvs x v) = some LA) : Wk LA L := setL_eq hs ▸ wk_mapB x v hi
theorem wkB' (i : Nat) {kvs : List (α × β)} {x : α} {v : β} {LA : List As} (hi : L[i]? = some (mapA b enc eV (putM kvs x v))) (hs : setL L i (mapB b enc eV kvs x v) = some LA) : Wk LA L := setL_eq hs ▸ wk_mapB' x v hi
theorem ex_lookupB (K : KeyE P kt enc ok) (i : Nat) {kvs : List (α × β)} {x : α} {z0 v : β} {dd : Option Tmp} (hx : evF F mp = some (.map (some b))) (hk : evF F kp = some (enc x)) (ht : P.underlying tx = some (.map kt et)) (hz : ∀ w, (zeroValue et).run P w = .ok (eV z0) w) (hi : L[i]? = some (mapB b enc eV kvs x v)) (hm : OkM ok kvs) (hok : ok x) (hv : v = (getM kvs x).getD z0) :
    Ex P n F w0 L ⟨dd, .lookup tx mp kp false, t, pp, af, g⟩ (eV v) := fun A w ha hw => by
  obtain ⟨_, o, ho, hp⟩ := hw.2.1 _ (List.mem_of_getElem? hi) b rfl
  obtain ⟨lx, hlx⟩ := K.key x hok
  have hc := fun em => K.law.check w em hlx
  have key : ∀ kvs' : List (α × β), OkM ok kvs' → (getM kvs' x).getD z0 = v → w.heap[b]? = some (.map (entsM enc eV kvs' 0).toArray kvs'.length) → (execOp A.eval ⟨dd, .lookup tx mp kp false, t, pp, af, g⟩).run P w = .ok (.value (eV v)) w := fun kvs' hm' hg ho => by
    rcases run_findM (eV := eV) K hm' hok w with ⟨h1, _, h2⟩ | ⟨j, u, _, h1, h2⟩
    · rw [h1] at hg
      simp only [execOp, ha.ev hx, ha.ev hk, Instr.lookup, Sem.run_bind, run_underlying ht, getObj_map ho, Result.andThen_ok, Sem.run_pure, hc, List.toList_toArray, h2, hz]
      rw [← hg]; rfl
    · rw [h1] at hg
      simp only [execOp, ha.ev hx, ha.ev hk, Instr.lookup, Sem.run_bind, run_underlying ht, getObj_map ho, Result.andThen_ok, Sem.run_pure, hc, List.toList_toArray, h2]
      rw [← hg]; rfl
  rcases hp with hp | hp
  · exact key kvs hm hv.symm (by rw [ho, hp])
  · exact key (putM kvs x v) (hm.put hok) (by rw [getM_put, if_pos rfl]; rfl) (by rw [ho, hp])
theorem OkL.mapEntry (K : KeyE P kt enc ok) (i : Nat) {kvs : List (α × β)} {x : α} {z0 v : β} (hx : evF F mp = some (.map (some b))) (hk : evF F kp = some (enc x)) (ht : P.underlying tx = some (.map kt et)) (hz : ∀ w, (zeroValue et).run P w = .ok (eV z0) w) (hi : L[i]? = some (mapA b enc eV kvs)) (hm : OkM ok kvs) (hok : ok x) (hv : v = (getM kvs x).getD z0) (hd : Nat.ble (d + 1) n = true)
    (next : OkL P ops rest Q n ((d, .tuple #[eV v, vN (findM kvs x)]) :: F) w0 (L.set i (mapA b enc eV (putM kvs x v)))) : OkL P ops (⟨some d, .mapEntry tx mp kp, t, pp, af, none⟩ :: rest) Q n F w0 L := fun a w ha hW => by
  obtain ⟨_, o, ho, hp⟩ := hW.2.1 _ (List.mem_of_getElem? hi) b rfl
  have ho : w.heap[b]? = some (.map (entsM enc eV kvs 0).toArray kvs.length) := by rw [ho, hp]
  obtain ⟨lx, hlx⟩ := K.key x hok
  have hc := fun em => K.law.check w em hlx
  have hst := K.law.stays w hlx
  have hrun : (execOp a.eval ⟨some d, .mapEntry tx mp kp, t, pp, af, none⟩).run P w = .ok (.value (.tuple #[eV v, vN (findM kvs x)])) (Go.ChangeMaps.setBlock w b (.map (entsM enc eV (putM kvs x v) 0).toArray (putM kvs x v).length)) := by
    rcases run_findM (eV := eV) K hm hok w with ⟨h0, h1, h2⟩ | ⟨j, u, hj, h1, h2⟩
    · rw [h0] at hv
      simp only [Option.getD_none] at hv
      subst hv
      rw [putM_none h1, findM_none h1, entsM_append, List.length_append]
      simp only [execOp, ha.ev hx, ha.ev hk, Instr.mapEntry, Sem.run_bind, run_underlying ht, getObj_map ho, Result.andThen_ok, hc, List.toList_toArray, h2, hz, run_setMap ho, Sem.run_pure, List.push_toArray, Nat.zero_add, List.length_singleton]
      rfl
    · rw [h1] at hv
      simp only [Option.getD_some] at hv
      subst hv
      rw [putM_same h1, findM_at hm.once hj]
      have e1 : (entsM enc eV kvs 0)[j]? = some ⟨enc x, eV v, 0 + j⟩ := by rw [entsM_get, hj]; rfl
      have e2 := ents_modify (enc := enc) (eV := eV) (y := v) hj
      have e3 : kvs.set j (x, v) = kvs := by
        apply List.ext_getElem?
        intro q
        rw [List.getElem?_set]
        split
        · rename_i e; subst e; split
          · exact hj.symm
          · rename_i h9; rw [List.getElem?_eq_none (by omega)]
        · rfl
      rw [e3] at e2
      have e4 : (entsM enc eV kvs 0).toArray.modify j (fun e => { e with key := enc x }) = (entsM enc eV kvs 0).toArray := by
        apply Array.ext_getElem?
        intro q
        rw [Array.getElem?_modify]
        simp only [List.getElem?_toArray]
        split
        · rename_i e; subst e; rw [e1]; rfl
        · rfl
      simp only [execOp, ha.ev hx, ha.ev hk, Instr.mapEntry, Sem.run_bind, run_underlying ht, getObj_map ho, Result.andThen_ok, hc, List.toList_toArray, List.getElem?_toArray, h2, e1, hst, e4, run_setMap ho, Sem.run_pure, Option.map_some, Option.getD_some]
      simp [goInt, e1, hst, e4, run_setMap ho, Result.andThen]
  unfold wpList
  rw [if_pos (wt_none rfl a ha)]
  left
  unfold Oper.wp
  rw [hrun, Oper.upon_value]
  exact next _ _ (ha.put (blt_lt' hd)) (hW.turn hi rfl rfl (grw_setBlock _ _ _) ⟨_, setBlock_at ho, rfl⟩)
theorem OkL.entryStore (i : Nat) {kvs : List (α × β)} {x : α} {u y : β} (hx : evF F mp = some (.map (some b))) (hs : evF F sp = some (vN (findM kvs x))) (hv : evF F vp = some (eV y)) (hi : L[i]? = some (mapA b enc eV (putM kvs x u)))
    (next : OkL P ops rest Q n F w0 (L.set i (mapA b enc eV (putM kvs x y)))) : OkL P ops (⟨none, .entryStore tx mp sp vp, t, pp, af, none⟩ :: rest) Q n F w0 L := fun a w ha hW => by
  obtain ⟨_, o, ho, hp⟩ := hW.2.1 _ (List.mem_of_getElem? hi) b rfl
  have ho : w.heap[b]? = some (.map (entsM enc eV (putM kvs x u) 0).toArray (putM kvs x u).length) := by rw [ho, hp]
  have hf := putM_at_find (kvs := kvs) (x := x) (v := u)
  have hlt : findM kvs x < (putM kvs x u).length := (List.getElem?_eq_some_iff.1 hf).1
  have e0 : (entsM enc eV (putM kvs x u) 0)[findM kvs x]? = some ⟨enc x, eV u, findM kvs x⟩ := by rw [entsM_get, hf]; simp
  have hnd : ((entsM enc eV (putM kvs x u) 0).map (·.born)).Nodup := by
    have e1 : ∀ (l : List (α × β)) (s : Nat), (entsM enc eV l s).map (·.born) = List.range' s l.length := by
      intro l
      induction l with
      | nil => intro s; rfl
      | cons p r ih => intro s; rw [entsM, List.map_cons, ih, List.length_cons, List.range'_succ]
    rw [e1]; exact List.nodup_range'
  have hidx : (entsM enc eV (putM kvs x u) 0).toArray.findIdx? (fun e => ((e.born : Nat) : Int) == ((findM kvs x : Nat) : Int)) = some (findM kvs x) := by
    rw [WideElems.findIdx_arr]
    exact WideElems.findIdx_born hnd e0
  have hset : (putM kvs x u).set (findM kvs x) (x, y) = putM kvs x y := putM_set
  have hmod := ents_modify (enc := enc) (eV := eV) (y := y) hf
  have hmod2 : (entsM enc eV (putM kvs x u) 0).toArray.modify (findM kvs x) (fun e => { e with val := eV y }) = (entsM enc eV (putM kvs x y) 0).toArray := by
    rw [← hset, ← hmod]
    apply Array.ext_getElem?
    intro q
    rw [Array.getElem?_modify, Array.getElem?_modify]
    simp only [List.getElem?_toArray]
    split
    · rename_i e; subst e; rw [e0]; rfl
    · rfl
  have hl2 : (putM kvs x y).length = (putM kvs x u).length := by rw [← hset, List.length_set]
  have hrun : (execOp a.eval ⟨none, .entryStore tx mp sp vp, t, pp, af, none⟩).run P w = .ok .skip (Go.ChangeMaps.setBlock w b (.map (entsM enc eV (putM kvs x y) 0).toArray (putM kvs x y).length)) := by
    rw [← hmod2, hl2]
    simp only [execOp, ha.ev hx, ha.ev hs, ha.ev hv, Instr.entryStore, Sem.run_bind, getObj_map ho, Result.andThen_ok, asInt, asIntOf, Sem.run_pure, hidx, run_setMap ho]
  unfold wpList
  rw [if_pos (wt_none rfl a ha)]
  left
  unfold Oper.wp
  rw [hrun, Oper.upon_skip]
  exact next _ _ ha.put_none (hW.turn hi rfl rfl (grw_setBlock _ _ _) ⟨_, setBlock_at ho, rfl⟩)
end
end
section
theorem sorted_ext {α : Type} {R : α → α → Prop} (ha : ∀ x y, R x y → ¬ R y x) {l l' : List α} (h : l.Pairwise R) (h' : l'.Pairwise R) (hm : ∀ x, x ∈ l ↔ x ∈ l') : l = l' := by
  have nd : ∀ {l : List α}, l.Pairwise R → l.Nodup := fun {l} h => h.imp fun {x y} hxy e => by subst e; exact ha _ _ hxy hxy
  exact List.Perm.eq_of_pairwise (le := R) (fun x y _ _ h1 h2 => absurd h2 (ha x y h1)) h h' ((List.perm_ext_iff_of_nodup (nd h) (nd h')).2 hm)
abbrev T3 := Nat × Nat × Nat
section
variable {ts ts' : List T3} {N : Nat}
theorem okT_ne {t : T3} (h : okT N t = true) : t.1 ≠ t.2.1 ∧ t.2.1 ≠ t.2.2 ∧ t.2.2 ≠ t.1 := by
  simp only [okT, Bool.and_eq_true, Bool.not_eq_true', decide_eq_false_iff_not, decide_eq_true_eq] at h
  exact ⟨h.1.1.2, h.1.2, h.2⟩
theorem dirE_neN (hn : numB N ts = true) {u : Nat} (hu : u < 3 * ts.length) : (dirE ts u).1 ≠ (dirE ts u).2 := by
  obtain ⟨hab, hbc, hca⟩ := okT_ne (numB_at hn (show u / 3 < ts.length by omega))
  have h3 : u % 3 = 0 ∨ u % 3 = 1 ∨ u % 3 = 2 := by omega
  unfold dirE
  rcases h3 with h3 | h3 | h3 <;> rw [h3]
  · exact hab
  · exact hbc
  · exact hca
theorem dirE_lt (hn : numB N ts = true) {u : Nat} (hu : u < 3 * ts.length) : (dirE ts u).1 < N ∧ (dirE ts u).2 < N := by
  have h := numB_at hn (show u / 3 < ts.length by omega)
  exact ⟨crT_lt h _, crT_lt h _⟩
theorem Fst.uniq {s a b : Nat} {y z : Int} (h : Fst ts s a b y) (k : Fst ts s a b z) : y = z := by
  rcases h with ⟨h1, h2⟩ | ⟨u, h1, h2, h3, h4⟩ <;> rcases k with ⟨k1, k2⟩ | ⟨v, k1, k2, k3, k4⟩
  · omega
  · exact absurd k3 (h2 v k1)
  · exact absurd h3 (k2 u h1)
  · rcases Nat.lt_trichotomy u v with h | h | h
    · exact absurd h3 (k4 u h)
    · rw [h2, k2, h]
    · exact absurd k3 (h4 v h)
theorem mem_edL (hn : numB N ts = true) (hN : N ≤ 4611686018427387904) {e : E4} : e ∈ edL ts ↔ EInv ts (3 * ts.length) (e.a, e.b) e := by
  have hd : ∀ u, u < 3 * ts.length → (dirE ts u).1 ≠ (dirE ts u).2 := fun u hu => dirE_neN hn hu
  refine ⟨fun h => edL_inv hn hN hd h, fun h => ?_⟩
  obtain ⟨i1, i2⟩ := edS_inv hd _ (Nat.le_refl _)
  cases hg : getM (edS ts (3 * ts.length)) (e.a, e.b) with
  | none =>
    obtain ⟨u, hu, hs⟩ := h.some
    have h3 := i2 _ hg h.lt u hu
    rcases hs with hs | hs
    · exact absurd hs h3.1
    · exact absurd hs h3.2
  | some e' =>
    have h3 := i1 _ _ hg
    have e1 : e' = e := by
      have a1 := h3.ea; have a2 := h3.eb; have a3 := h3.l.uniq h.l; have a4 := h3.r.uniq h.r
      cases e; cases e'; simp only at a1 a2 a3 a4; subst a1 a2 a3 a4; rfl
    rw [e1] at hg
    unfold edL
    exact (srtE_perm _).mem_iff.2 (List.mem_map.2 ⟨_, getM_mem hg, rfl⟩)
def LtE (x y : E4) : Prop := x.a < y.a ∨ (x.a = y.a ∧ x.b < y.b)
theorem LtE.asymm (x y : E4) (h : LtE x y) : ¬ LtE y x := by unfold LtE at *; omega
theorem edL_sorted (hn : numB N ts = true) (hN : N ≤ 4611686018427387904) : (edL ts).Pairwise LtE := by
  have h1 : OnceE ((edS ts (3 * ts.length)).map (·.2)) := once_vals (edS_ok hn hN _ (Nat.le_refl _)) (edS_ends ts _)
  have h2 : OnceE (edL ts) := (List.Perm.pairwise_iff (R := fun x y : E4 => ¬ (x.a = y.a ∧ x.b = y.b)) (fun h k => h ⟨k.1.symm, k.2.symm⟩) (srtE_perm _)).2 h1
  exact (List.Pairwise.and (srtE_sorted _) h2).imp fun {x y} h => by
    have h3 := leE_iff.1 h.1
    have h4 := h.2
    unfold LtE
    omega
theorem edL_ext (hn : numB N ts = true) (hn' : numB N ts' = true) (hN : N ≤ 4611686018427387904) (h : ∀ e : E4, EInv ts (3 * ts.length) (e.a, e.b) e ↔ EInv ts' (3 * ts'.length) (e.a, e.b) e) : edL ts = edL ts' :=
  sorted_ext LtE.asymm (edL_sorted hn hN) (edL_sorted hn' hN) fun e => by rw [mem_edL hn hN, mem_edL hn' hN, h]
def WayT (ts : List T3) (j a b : Nat) : Prop := ∃ r, r < 3 ∧ dirE ts (3 * j + r) = (a, b)
def FstT (ts : List T3) (n a b : Nat) (z : Int) : Prop := (z = -1 ∧ ∀ j, j < n → ¬ WayT ts j a b) ∨ ∃ j, j < n ∧ z = (j : Int) ∧ WayT ts j a b ∧ ∀ i, i < j → ¬ WayT ts i a b
theorem fst_tri {n a b : Nat} {z : Int} (h : Fst ts (3 * n) a b z) : FstT ts n a b z := by
  rcases h with ⟨h1, h2⟩ | ⟨u, h1, h2, h3, h4⟩
  · exact .inl ⟨h1, fun j hj ⟨r, hr, k⟩ => h2 _ (by omega) k⟩
  · exact .inr ⟨u / 3, by omega, h2, ⟨u % 3, by omega, by rw [show 3 * (u / 3) + u % 3 = u by omega]; exact h3⟩, fun i hi ⟨r, hr, k⟩ => h4 _ (by omega) k⟩
theorem fst_tri' {n a b : Nat} {z : Int} (h : FstT ts n a b z) : Fst ts (3 * n) a b z := by
  rcases h with ⟨h1, h2⟩ | ⟨j, h1, h2, ⟨r, hr, h3⟩, h4⟩
  · exact .inl ⟨h1, fun u hu k => h2 (u / 3) (by omega) ⟨u % 3, by omega, by rw [show 3 * (u / 3) + u % 3 = u by omega]; exact k⟩⟩
  · have key : ∀ m, m ≤ 3 → (∀ q, q < m → dirE ts (3 * j + q) ≠ (a, b)) ∨ ∃ q, q < m ∧ dirE ts (3 * j + q) = (a, b) ∧ ∀ p, p < q → dirE ts (3 * j + p) ≠ (a, b) := by
      intro m
      induction m with
      | zero => intro _; exact .inl fun q hq => absurd hq (Nat.not_lt_zero _)
      | succ m ih =>
        intro hm
        rcases ih (by omega) with h | ⟨q, h5, h6, h7⟩
        · by_cases k : dirE ts (3 * j + m) = (a, b)
          · exact .inr ⟨m, by omega, k, h⟩
          · refine .inl fun q hq => ?_
            rcases Nat.lt_or_ge q m with h8 | h8
            · exact h q h8
            · rw [show q = m by omega]; exact k
        · exact .inr ⟨q, by omega, h6, h7⟩
    rcases key 3 (Nat.le_refl _) with k | ⟨q, h5, h6, h7⟩
    · exact absurd h3 (k r hr)
    · refine .inr ⟨3 * j + q, by omega, by rw [h2]; congr 1; omega, h6, fun v hv k => ?_⟩
      rcases Nat.lt_or_ge v (3 * j) with h8 | h8
      · exact h4 (v / 3) (by omega) ⟨v % 3, by omega, by rw [show 3 * (v / 3) + v % 3 = v by omega]; exact k⟩
      · exact h7 (v - 3 * j) (by omega) (by rw [show 3 * j + (v - 3 * j) = v by omega]; exact k)
structure SameT (ts ts' : List T3) : Prop where
  len : ts.length = ts'.length
  way : ∀ j, j < ts.length → ∀ a b, WayT ts j a b ↔ WayT ts' j a b
theorem SameT.symm (h : SameT ts ts') : SameT ts' ts := ⟨h.len.symm, fun j hj a b => (h.way j (by rw [h.len]; exact hj) a b).symm⟩
theorem SameT.fst (h : SameT ts ts') {a b : Nat} {z : Int} (k : Fst ts (3 * ts.length) a b z) : Fst ts' (3 * ts'.length) a b z := by
  rw [← h.len]
  refine fst_tri' ?_
  rcases fst_tri k with ⟨h1, h2⟩ | ⟨j, h1, h2, h3, h4⟩
  · exact .inl ⟨h1, fun j hj k => h2 j hj ((h.way j hj a b).2 k)⟩
  · exact .inr ⟨j, h1, h2, (h.way j h1 a b).1 h3, fun i hi k => h4 i hi ((h.way i (by omega) a b).2 k)⟩
theorem SameT.inv (h : SameT ts ts') {e : E4} (k : EInv ts (3 * ts.length) (e.a, e.b) e) : EInv ts' (3 * ts'.length) (e.a, e.b) e := by
  obtain ⟨u, hu, hs⟩ := k.some
  refine ⟨k.ea, k.eb, k.lt, h.fst k.l, h.fst k.r, ?_⟩
  have key : ∀ a b, dirE ts u = (a, b) → ∃ v, v < 3 * ts'.length ∧ dirE ts' v = (a, b) := fun a b hd => by
    obtain ⟨r, hr, h3⟩ := (h.way (u / 3) (by omega) a b).1 ⟨u % 3, by omega, by rw [show 3 * (u / 3) + u % 3 = u by omega]; exact hd⟩
    exact ⟨3 * (u / 3) + r, by rw [← h.len]; omega, h3⟩
  rcases hs with hs | hs
  · obtain ⟨v, h1, h2⟩ := key _ _ hs; exact ⟨v, h1, .inl h2⟩
  · obtain ⟨v, h1, h2⟩ := key _ _ hs; exact ⟨v, h1, .inr h2⟩
theorem SameT.edL (h : SameT ts ts') (hn : numB N ts = true) (hn' : numB N ts' = true) (hN : N ≤ 4611686018427387904) : edL ts = Go.Proofs.YtaahheddmfddhaaGreat.edL ts' := edL_ext hn hn' hN fun e => ⟨h.inv, h.symm.inv⟩
def rotT (t : T3) (i : Nat) : T3 := (crT t (i % 3), crT t ((i + 1) % 3), crT t ((i + 2) % 3))
def rotN (ts : List T3) (f : Nat → Nat) : Nat → List T3
  | 0 => ts
  | k + 1 => (rotN ts f k).set k (rotT (ts.getD k (0, 0, 0)) (f k))
theorem rotN_len (f : Nat → Nat) : ∀ k, (rotN ts f k).length = ts.length
  | 0 => rfl
  | k + 1 => by rw [rotN, List.length_set, rotN_len f k]
theorem rotN_get (f : Nat → Nat) : ∀ k j, k ≤ ts.length → j < ts.length → (rotN ts f k).getD j (0, 0, 0) = if j < k then rotT (ts.getD j (0, 0, 0)) (f j) else ts.getD j (0, 0, 0)
  | 0, j, _, _ => by rw [if_neg (Nat.not_lt_zero _)]; rfl
  | k + 1, j, hk, hj => by
    have h := rotN_get f k j (by omega) hj
    rw [rotN, List.getD, List.getElem?_set]
    by_cases e : k = j
    · subst e
      rw [if_pos rfl, if_pos (by rw [rotN_len]; exact hj), if_pos (by omega)]; rfl
    · rw [if_neg e]
      have h2 : (rotN ts f k)[j]?.getD (0, 0, 0) = _ := h
      rw [h2]
      by_cases h3 : j < k
      · rw [if_pos h3, if_pos (by omega)]
      · rw [if_neg h3, if_neg (by omega)]
theorem crT_rot (t : T3) (i r : Nat) (hr : r < 3) : crT (rotT t i) r = crT t ((i + r) % 3) := by
  have h3 : r = 0 ∨ r = 1 ∨ r = 2 := by omega
  rcases h3 with rfl | rfl | rfl <;> simp [crT, rotT]
theorem dirE_at {j r : Nat} (hr : r < 3) : dirE ts (3 * j + r) = (crT (ts.getD j (0, 0, 0)) r, crT (ts.getD j (0, 0, 0)) ((r + 1) % 3)) := by
  unfold dirE
  rw [show (3 * j + r) / 3 = j by omega, show (3 * j + r) % 3 = r by omega]
theorem okT_rot {t : T3} (i : Nat) (h : okT N t = true) : okT N (rotT t i) = true := by
  obtain ⟨h1, h2, h3⟩ := okT_spec h
  obtain ⟨n1, n2, n3⟩ := okT_ne h
  have hr : i % 3 = 0 ∨ i % 3 = 1 ∨ i % 3 = 2 := by omega
  rcases hr with e | e | e
  · have e1 : (i + 1) % 3 = 1 := by omega
    have e2 : (i + 2) % 3 = 2 := by omega
    simp [okT, rotT, crT, e, e1, e2]; omega
  · have e1 : (i + 1) % 3 = 2 := by omega
    have e2 : (i + 2) % 3 = 0 := by omega
    simp [okT, rotT, crT, e, e1, e2]; omega
  · have e1 : (i + 1) % 3 = 0 := by omega
    have e2 : (i + 2) % 3 = 1 := by omega
    simp [okT, rotT, crT, e, e1, e2]; omega
theorem rotN_num (f : Nat → Nat) (hn : numB N ts = true) : numB N (rotN ts f ts.length) = true := numB_upto fun q hq => by
  rw [rotN_len] at hq
  rw [rotN_get f _ _ (Nat.le_refl _) hq, if_pos hq]
  exact okT_rot _ (numB_at hn hq)
theorem rotN_same (f : Nat → Nat) : SameT ts (rotN ts f ts.length) := ⟨(rotN_len f _).symm, fun j hj a b => by
  have hg := rotN_get (ts := ts) f _ _ (Nat.le_refl _) hj
  rw [if_pos hj] at hg
  constructor
  · rintro ⟨r, hr, h⟩
    refine ⟨(r + 3 - f j % 3) % 3, by omega, ?_⟩
    rw [dirE_at (by omega), hg, crT_rot _ _ _ (by omega), crT_rot _ _ _ (by omega), ← h, dirE_at hr, show (f j + (r + 3 - f j % 3) % 3) % 3 = r by omega, show (f j + ((r + 3 - f j % 3) % 3 + 1) % 3) % 3 = (r + 1) % 3 by omega]
  · rintro ⟨r, hr, h⟩
    refine ⟨(f j + r) % 3, by omega, ?_⟩
    rw [dirE_at hr, hg, crT_rot _ _ _ (by omega), crT_rot _ _ _ (by omega)] at h
    rw [dirE_at (by omega), ← h, show ((f j + r) % 3 + 1) % 3 = (f j + (r + 1) % 3) % 3 by omega]⟩
theorem rotN_edL (f : Nat → Nat) (hn : numB N ts = true) (hN : N ≤ 4611686018427387904) : edL (rotN ts f ts.length) = edL ts := ((rotN_same f).edL hn (rotN_num f hn) hN).symm
def keyU (ts : List T3) (u : Nat) : P2 := kyE (dirE ts u).1 (dirE ts u).2
def manS (ts : List T3) : Nat → List (P2 × Nat)
  | 0 => []
  | s + 1 => putM (manS ts s) (keyU ts s) ((getM (manS ts s) (keyU ts s)).getD 0 + 1)
def allK (ts : List T3) : List P2 := ts.flatMap fun t => [kyE t.1 t.2.1, kyE t.2.1 t.2.2, kyE t.2.2 t.1]
theorem manS_count (k : P2) : ∀ s, (getM (manS ts s) k).getD 0 = ((List.range s).map (keyU ts)).count k
  | 0 => rfl
  | s + 1 => by
    rw [manS, getM_put, List.range_succ, List.map_append, List.count_append, List.map_singleton, List.count_singleton]
    by_cases h : k = keyU ts s
    · subst h
      rw [if_pos rfl, Option.getD_some, manS_count _ s]; simp
    · rw [if_neg h, manS_count k s, if_neg (by simpa using fun e => h e.symm)]; rfl
theorem manS_succ {t i : Nat} (hi : i < 3) : manS ts (3 * t + i + 1) = putM (manS ts (3 * t + i)) (kyE (crT (ts.getD t (0, 0, 0)) i) (crT (ts.getD t (0, 0, 0)) ((i + 1) % 3))) ((getM (manS ts (3 * t + i)) (kyE (crT (ts.getD t (0, 0, 0)) i) (crT (ts.getD t (0, 0, 0)) ((i + 1) % 3)))).getD 0 + 1) := by
  rw [manS]
  unfold keyU
  rw [dirE_at hi]
theorem manS_le (s : Nat) (k : P2) : (getM (manS ts s) k).getD 0 ≤ s := by
  rw [manS_count]
  exact Nat.le_trans List.count_le_length (by simp)
theorem manS_ok (hn : numB N ts = true) (hN : N ≤ 4611686018427387904) : ∀ s, s ≤ 3 * ts.length → OkM okE (manS ts s)
  | 0, _ => OkM.nil
  | s + 1, hs => by
    obtain ⟨h1, h2⟩ := dirE_lt hn (show s < 3 * ts.length by omega)
    exact (manS_ok hn hN s (by omega)).put (okE_ky (Nat.lt_of_lt_of_le h1 hN) (Nat.lt_of_lt_of_le h2 hN))
theorem allK_range : (List.range (3 * ts.length)).map (keyU ts) = allK ts := by
  have key : ∀ n, n ≤ ts.length → (List.range (3 * n)).map (keyU ts) = allK (ts.take n) := by
    intro n
    induction n with
    | zero => intro _; rfl
    | succ n ih =>
      intro hn
      have e1 : List.range (3 * (n + 1)) = List.range (3 * n) ++ [3 * n, 3 * n + 1, 3 * n + 2] := by
        rw [show 3 * (n + 1) = 3 * n + 1 + 1 + 1 by omega, List.range_succ, List.range_succ, List.range_succ]; simp
      have e2 : ts.take (n + 1) = ts.take n ++ [ts.getD n (0, 0, 0)] := by
        rw [List.take_add_one, List.getElem?_eq_getElem (show n < ts.length by omega), List.getD, List.getElem?_eq_getElem (show n < ts.length by omega)]; rfl
      have k0 := dirE_at (ts := ts) (j := n) (show 0 < 3 by decide)
      have k1 := dirE_at (ts := ts) (j := n) (show 1 < 3 by decide)
      have k2 := dirE_at (ts := ts) (j := n) (show 2 < 3 by decide)
      rw [e1, e2, List.map_append, ih (by omega)]
      unfold allK
      rw [List.flatMap_append]
      congr 1
      simp only [List.map_cons, List.map_nil, List.flatMap_cons, List.flatMap_nil, List.append_nil, keyU]
      rw [show 3 * n = 3 * n + 0 by omega, k0, show 3 * n + 0 + 1 = 3 * n + 1 by omega, k1, show 3 * n + 0 + 2 = 3 * n + 2 by omega, k2]
      rfl
  have h := key ts.length (Nat.le_refl _)
  rwa [List.take_length] at h
def cntE (ts : List T3) (k : P2) : Nat := (getM (manS ts (3 * ts.length)) k).getD 0
theorem cntE_eq (k : P2) : cntE ts k = (allK ts).count k := by unfold cntE; rw [manS_count, allK_range]
def rimN (ts : List T3) (i : Nat) : List T3 := (((edL ts).take i).filter fun e => decide (cntE ts (e.a, e.b) = 1)).map fun e => (e.a, e.b, 0)
def rimL (ts : List T3) : List T3 := rimN ts (edL ts).length
theorem rimN_yes {i : Nat} (hi : i < (edL ts).length) (h : cntE ts (((edL ts).getD i ⟨0, 0, 0, 0⟩).a, ((edL ts).getD i ⟨0, 0, 0, 0⟩).b) = 1) : rimN ts (i + 1) = rimN ts i ++ [(((edL ts).getD i ⟨0, 0, 0, 0⟩).a, ((edL ts).getD i ⟨0, 0, 0, 0⟩).b, 0)] := by
  rw [List.getD, List.getElem?_eq_getElem hi] at h ⊢
  unfold rimN
  rw [List.take_add_one, List.getElem?_eq_getElem hi, List.filter_append, List.map_append]
  simp only [Option.toList_some, Option.getD_some] at h ⊢
  rw [List.filter_cons, if_pos (decide_eq_true h)]; rfl
theorem rimN_no {i : Nat} (hi : i < (edL ts).length) (h : ¬ cntE ts (((edL ts).getD i ⟨0, 0, 0, 0⟩).a, ((edL ts).getD i ⟨0, 0, 0, 0⟩).b) = 1) : rimN ts (i + 1) = rimN ts i := by
  rw [List.getD, List.getElem?_eq_getElem hi] at h
  unfold rimN
  rw [List.take_add_one, List.getElem?_eq_getElem hi, List.filter_append, List.map_append]
  simp only [Option.toList_some, Option.getD_some] at h ⊢
  rw [List.filter_cons, if_neg (by simpa using h)]; simp
theorem rimN_len (i : Nat) : (rimN ts i).length ≤ i := by
  unfold rimN
  rw [List.length_map]
  exact Nat.le_trans (List.length_filter_le _ _) (List.length_take_le _ _)
theorem mem_keys (hn : numB N ts = true) (hN : N ≤ 4611686018427387904) {a b : Nat} : (a, b) ∈ allK ts ↔ ∃ e ∈ edL ts, e.a = a ∧ e.b = b := by
  rw [← allK_range, List.mem_map]
  constructor
  · rintro ⟨u, hu, hk⟩
    have hu := List.mem_range.1 hu
    have hne := dirE_neN hn hu
    unfold keyU kyE at hk
    injection hk with h1 h2
    have hlt : a < b := by omega
    have hd : dirE ts u = (a, b) ∨ dirE ts u = (b, a) := by
      rcases Nat.lt_or_ge (dirE ts u).1 (dirE ts u).2 with h | h
      · exact .inl (Prod.ext (by omega) (by omega))
      · exact .inr (Prod.ext (by omega) (by omega))
    obtain ⟨i1, i2⟩ := edS_inv (fun u hu => dirE_neN hn hu) _ (Nat.le_refl _)
    cases hg : getM (edS ts (3 * ts.length)) (a, b) with
    | none =>
      have h3 := i2 _ hg hlt u hu
      rcases hd with hd | hd
      · exact absurd hd h3.1
      · exact absurd hd h3.2
    | some e =>
      have h3 := i1 _ _ hg
      refine ⟨e, ?_, h3.ea, h3.eb⟩
      unfold edL
      exact (srtE_perm _).mem_iff.2 (List.mem_map.2 ⟨_, getM_mem hg, rfl⟩)
  · rintro ⟨e, he, rfl, rfl⟩
    have h := (mem_edL hn hN).1 he
    obtain ⟨u, hu, hs⟩ := h.some
    have hlt := h.lt
    simp only at hlt hs
    refine ⟨u, List.mem_range.2 hu, ?_⟩
    unfold keyU kyE
    rcases hs with hs | hs <;> rw [hs] <;> exact Prod.ext (by simp only; omega) (by simp only; omega)
def LtS (x y : T3) : Prop := x.1 < y.1 ∨ (x.1 = y.1 ∧ x.2.1 < y.2.1)
theorem LtS.asymm (x y : T3) (h : LtS x y) : ¬ LtS y x := by unfold LtS at *; omega
theorem rimL_sorted (hn : numB N ts = true) (hN : N ≤ 4611686018427387904) : (rimL ts).Pairwise LtS := by
  unfold rimL rimN
  rw [List.pairwise_map, List.take_length]
  exact (edL_sorted hn hN).filter _
theorem mem_rimL (hn : numB N ts = true) (hN : N ≤ 4611686018427387904) {s : T3} : s ∈ rimL ts ↔ (allK ts).count (s.1, s.2.1) = 1 ∧ s.2.2 = 0 := by
  unfold rimL rimN
  rw [List.take_length, List.mem_map]
  constructor
  · rintro ⟨e, he, rfl⟩
    obtain ⟨h1, h2⟩ := List.mem_filter.1 he
    exact ⟨by rw [← cntE_eq]; exact of_decide_eq_true h2, rfl⟩
  · rintro ⟨h1, h2⟩
    have hm : (s.1, s.2.1) ∈ allK ts := List.count_pos_iff.1 (by omega)
    obtain ⟨e, he, ea, eb⟩ := (mem_keys hn hN).1 hm
    refine ⟨e, List.mem_filter.2 ⟨he, decide_eq_true (by rw [cntE_eq, ea, eb]; exact h1)⟩, ?_⟩
    exact Prod.ext ea (Prod.ext eb h2.symm)
theorem rimL_ext (hn : numB N ts = true) (hn' : numB N ts' = true) (hN : N ≤ 4611686018427387904) (h : (allK ts).Perm (allK ts')) : rimL ts = rimL ts' :=
  sorted_ext LtS.asymm (rimL_sorted hn hN) (rimL_sorted hn' hN) fun s => by rw [mem_rimL hn hN, mem_rimL hn' hN, h.count_eq]
theorem flatMap_perm2 {α β : Type} {g : α → List β} (d : α) : ∀ {l l' : List α}, l.length = l'.length → (∀ j, j < l.length → (g (l.getD j d)).Perm (g (l'.getD j d))) → (l.flatMap g).Perm (l'.flatMap g)
  | [], [], _, _ => List.Perm.refl _
  | x :: r, y :: r', hl, h => by
    rw [List.flatMap_cons, List.flatMap_cons]
    refine (h 0 (by simp)).append (flatMap_perm2 d (by simpa using hl) fun j hj => ?_)
    have := h (j + 1) (by simpa using hj)
    simpa using this
end
end
end Go.Proofs.YtaahheddmfddhaaGreat
