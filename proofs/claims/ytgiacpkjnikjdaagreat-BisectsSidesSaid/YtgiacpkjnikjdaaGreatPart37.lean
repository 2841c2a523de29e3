import Derived.Test.YtgiacpkjnikjdaaGreatPart06
import Derived.Test.YtgiacpkjnikjdaaGreatPart31
import Derived.Test.YtgiacpkjnikjdaaGreatPart34
import Derived.Test.YtgiacpkjnikjdaaGreatPart36
namespace Go.Proofs.YtgiacpkjnikjdaaGreat
open Go Go.RowKit
set_option linter.unusedVariables false
set_option linter.unusedSimpArgs false
section
def zL (l : List Int) : List Value := l.map fun (d : Int) => .int .i64 d
theorem zL_get {l : List Int} {j : Nat} (h : j < l.length) : (zL l)[j * 1]? = some (.int .i64 (l.getD j 0)) := by simp [zL, h]
def mapR {α β : Type} (b : Nat) (enc : α → Value) (eV : β → Value) (kvs : List (α × β)) : As := ⟨some b, fun o => o = .map (entsM enc eV kvs 0).toArray kvs.length, true⟩
section
variable {α β : Type} [DecidableEq α] {enc : α → Value} {eV : β → Value} {ok : α → Prop} {P : Program} {kt : TypeId} {n : Nat} {F : List (Nat × Value)} {w0 : Base} {L : List As} {d : Option Tmp} {tx et t b : Nat} {pp : String} {af : Array Edge} {g : Option (Nat × Bool)} {mp kp : Operand}
theorem ex_lookupR (K : KeyE P kt enc ok) (i : Nat) {kvs : List (α × β)} {x : α} {z0 : β} {co : Bool} (hx : evF F mp = some (.map (some b))) (hk : evF F kp = some (enc x)) (ht : P.underlying tx = some (.map kt et)) (hz : ∀ w, (zeroValue et).run P w = .ok (eV z0) w) (hi : L[i]? = some (mapR b enc eV kvs)) (hm : OkM ok kvs) (hok : ok x) :
    Ex P n F w0 L ⟨d, .lookup tx mp kp co, t, pp, af, g⟩ (if co then .tuple #[eV ((getM kvs x).getD z0), .bool (getM kvs x).isSome] else eV ((getM kvs x).getD z0)) := fun A w ha hw => by
  obtain ⟨_, o, ho, hp⟩ := hw.2.1 _ (List.mem_of_getElem? hi) b rfl
  have ho : w.heap[b]? = some (.map (entsM enc eV kvs 0).toArray kvs.length) := by rw [ho, hp]
  obtain ⟨lx, hlx⟩ := K.key x hok
  have hc := fun em => K.law.check w em hlx
  rcases run_findM (eV := eV) K hm hok w with ⟨h1, _, h2⟩ | ⟨j, v, _, h1, h2⟩
  · simp only [execOp, ha.ev hx, ha.ev hk, Instr.lookup, Sem.run_bind, run_underlying ht, getObj_map ho, Result.andThen_ok, Sem.run_pure, hc, List.toList_toArray, h2, hz, h1, Option.getD_none, Option.isSome_none]
  · simp only [execOp, ha.ev hx, ha.ev hk, Instr.lookup, Sem.run_bind, run_underlying ht, getObj_map ho, Result.andThen_ok, Sem.run_pure, hc, List.toList_toArray, h2, h1, Option.getD_some, Option.isSome_some]
end
def baseK (t : T3) : P2 := kyE t.2.1 t.2.2
def MkK (ts : List T3) (ms : List Int) (k : P2) : Prop := ∃ z ∈ ms, 0 ≤ z ∧ z < (ts.length : Int) ∧ k = baseK (ts.getD z.toNat (0, 0, 0))
inductive Clo (ts : List T3) (S : P2 → Prop) : P2 → Prop
  | start {k : P2} : S k → Clo ts S k
  | up {t : T3} {k : P2} : t ∈ ts → Clo ts S k → (k = kyE t.1 t.2.1 ∨ k = kyE t.2.2 t.1) → Clo ts S (baseK t)
theorem Clo.mono {ts : List T3} {S S' : P2 → Prop} (h : ∀ k, S k → S' k) {k : P2} (c : Clo ts S k) : Clo ts S' k := by
  induction c with
  | start hs => exact .start (h _ hs)
  | up ht _ he ih => exact .up ht ih he
theorem Clo.or {ts : List T3} {S S' : P2 → Prop} {k : P2} (c : Clo ts (fun k => S k ∨ S' k) k) : Clo ts S k ∨ Clo ts S' k := by
  induction c with
  | start hs => exact hs.elim (fun h => .inl (.start h)) (fun h => .inr (.start h))
  | up ht _ he ih => exact ih.elim (fun h => .inl (.up ht h he)) (fun h => .inr (.up ht h he))
structure CloI (ts : List T3) (ms : List Int) (i : Nat) (kvs : List (P2 × Nat)) : Prop where
  ok : OkM okE kvs
  one : ∀ k, getM kvs k = none ∨ getM kvs k = some 1
  sub : ∀ k, getM kvs k = some 1 → Clo ts (MkK ts ms) k
  mrk : ∀ k, MkK ts (ms.take i) k → getM kvs k = some 1
section
variable {ts : List T3} {ms : List Int} {i : Nat} {kvs : List (P2 × Nat)}
theorem CloI.zero (ts : List T3) (ms : List Int) : CloI ts ms 0 [] := ⟨⟨fun p hp => (by cases hp), List.Pairwise.nil⟩, fun k => .inl rfl, fun k h => (by cases h), fun k ⟨z, hz, _⟩ => by rw [List.take_zero] at hz; cases hz⟩
theorem CloI.put (h : CloI ts ms i kvs) {k : P2} (hk : okE k) (hc : Clo ts (MkK ts ms) k) : CloI ts ms i (putM kvs k 1) := ⟨h.ok.put hk, fun x => by
    rw [getM_put]; split
    · exact .inr rfl
    · exact h.one x, fun x hx => by
    rw [getM_put] at hx; split at hx
    · rename_i e; rw [e]; exact hc
    · exact h.sub x hx, fun x hx => by
    rw [getM_put]; split
    · rfl
    · exact h.mrk x hx⟩
theorem take_snocZ {l : List Int} {j : Nat} (h : j < l.length) : l.take (j + 1) = l.take j ++ [l.getD j 0] := by
  rw [List.take_add_one, List.getD, List.getElem?_eq_getElem h]; rfl
theorem mkK_in (hi : i < ms.length) (h0 : 0 ≤ ms.getD i 0) (h1 : ms.getD i 0 < (ts.length : Int)) : MkK ts ms (baseK (ts.getD (ms.getD i 0).toNat (0, 0, 0))) :=
  ⟨ms.getD i 0, by rw [List.getD, List.getElem?_eq_getElem hi]; exact List.getElem_mem hi, h0, h1, rfl⟩
theorem CloI.mark (h : CloI ts ms i kvs) (hi : i < ms.length) (h0 : 0 ≤ ms.getD i 0) (h1 : ms.getD i 0 < (ts.length : Int)) (hk : okE (baseK (ts.getD (ms.getD i 0).toNat (0, 0, 0)))) : CloI ts ms (i + 1) (putM kvs (baseK (ts.getD (ms.getD i 0).toNat (0, 0, 0))) 1) := by
  have h2 := h.put hk (.start (mkK_in hi h0 h1))
  refine ⟨h2.ok, h2.one, h2.sub, fun x hx => ?_⟩
  rw [take_snocZ hi] at hx
  obtain ⟨z, hz, a, b, rfl⟩ := hx
  rcases List.mem_append.1 hz with hz | hz
  · exact h2.mrk _ ⟨z, hz, a, b, rfl⟩
  · rw [List.mem_singleton.1 hz, getM_put, if_pos rfl]
theorem CloI.skip (h : CloI ts ms i kvs) (hi : i < ms.length) (hn : ¬ (0 ≤ ms.getD i 0 ∧ ms.getD i 0 < (ts.length : Int))) : CloI ts ms (i + 1) kvs := by
  refine ⟨h.ok, h.one, h.sub, fun x hx => ?_⟩
  rw [take_snocZ hi] at hx
  obtain ⟨z, hz, a, b, rfl⟩ := hx
  rcases List.mem_append.1 hz with hz | hz
  · exact h.mrk _ ⟨z, hz, a, b, rfl⟩
  · exact absurd (by rw [← List.mem_singleton.1 hz]; exact ⟨a, b⟩) hn
def opnM (ts : List T3) (kvs : List (P2 × Nat)) : Nat := (ts.filter fun t => (getM kvs (baseK t)).isNone).length
theorem opn_lt {t : T3} (ht : t ∈ ts) (hn : getM kvs (baseK t) = none) : opnM ts (putM kvs (baseK t) 1) < opnM ts kvs := by
  unfold opnM
  induction ts with
  | nil => cases ht
  | cons x r ih =>
    have le : (r.filter fun u => (getM (putM kvs (baseK t) 1) (baseK u)).isNone).length ≤ (r.filter fun u => (getM kvs (baseK u)).isNone).length := by
      clear ih ht
      induction r with
      | nil => exact Nat.le_refl _
      | cons y r ih =>
        rw [List.filter_cons, List.filter_cons, getM_put]
        by_cases e : baseK y = baseK t
        · rw [if_pos e, e, hn]; simp only [Option.isNone_some, Option.isNone_none, if_true, List.length_cons]; simp only [Bool.false_eq_true, if_false]; omega
        · rw [if_neg e]; split
          · simp only [List.length_cons]; omega
          · exact ih
    rw [List.filter_cons, List.filter_cons, getM_put]
    rcases List.mem_cons.1 ht with e | ht
    · subst e
      rw [if_pos rfl, hn]
      simp only [Option.isNone_some, Option.isNone_none, if_true, List.length_cons, Bool.false_eq_true, if_false]
      omega
    · by_cases e : baseK x = baseK t
      · rw [if_pos e, e, hn]
        simp only [Option.isNone_some, Option.isNone_none, if_true, List.length_cons, Bool.false_eq_true, if_false]
        omega
      · rw [if_neg e]; split
        · simp only [List.length_cons]; have := ih ht; omega
        · exact ih ht
def Calm (ts : List T3) (kvs : List (P2 × Nat)) (j : Nat) : Prop := ∀ q, q < j → getM kvs (baseK (ts.getD q (0, 0, 0))) = none → getM kvs (kyE (ts.getD q (0, 0, 0)).1 (ts.getD q (0, 0, 0)).2.1) = none ∧ getM kvs (kyE (ts.getD q (0, 0, 0)).2.2 (ts.getD q (0, 0, 0)).1) = none
theorem CloI.no (h : CloI ts ms i kvs) {k : P2} (e : (getM kvs k).getD 0 = 0) : getM kvs k = none := (h.one k).elim id fun h1 => by rw [h1] at e; cases e
theorem CloI.is1 (h : CloI ts ms i kvs) {k : P2} (e : 0 < (getM kvs k).getD 0) : getM kvs k = some 1 := (h.one k).elim (fun h1 => by rw [h1] at e; cases e) id
theorem calm_succ {j : Nat} (h : Calm ts kvs j) (hs : getM kvs (baseK (ts.getD j (0, 0, 0))) = none → getM kvs (kyE (ts.getD j (0, 0, 0)).1 (ts.getD j (0, 0, 0)).2.1) = none ∧ getM kvs (kyE (ts.getD j (0, 0, 0)).2.2 (ts.getD j (0, 0, 0)).1) = none) : Calm ts kvs (j + 1) := fun q hq hn => by
  rcases Nat.lt_or_ge q j with h1 | h1
  · exact h q h1 hn
  · have e : q = j := by omega
    subst e; exact hs hn
theorem CloI.all (h : CloI ts ms ms.length kvs) (hc : Calm ts kvs ts.length) (k : P2) : getM kvs k = some 1 ↔ Clo ts (MkK ts ms) k := by
  refine ⟨h.sub k, fun c => ?_⟩
  induction c with
  | start hs => exact h.mrk _ (by rw [List.take_length]; exact hs)
  | up ht _ he ih =>
    rename_i t k' _
    obtain ⟨q, hq, rfl⟩ := List.getElem_of_mem ht
    rcases h.one (baseK ts[q]) with h1 | h1
    · have h2 := hc q hq (by rw [List.getD, List.getElem?_eq_getElem hq]; exact h1)
      rw [List.getD, List.getElem?_eq_getElem hq] at h2
      rcases he with e | e
      · rw [e] at ih; rw [show getM kvs (kyE ts[q].1 ts[q].2.1) = none from h2.1] at ih; cases ih
      · rw [e] at ih; rw [show getM kvs (kyE ts[q].2.2 ts[q].1) = none from h2.2] at ih; cases ih
    · exact h1
end
structure HC (ts : List T3) (ms : List Int) where
  b : Nat
  kvs : List (P2 × Nat)
  ok : OkM okE kvs
  one : ∀ k, getM kvs k = none ∨ getM kvs k = some 1
  all : ∀ k, getM kvs k = some 1 ↔ Clo ts (MkK ts ms) k
instance {ts : List T3} {ms : List Int} : Ref (HC ts ms) := ⟨fun x => .map (some x.b), fun x => [mapR x.b kEd vN x.kvs], fun x y hy => by rcases List.mem_singleton.1 hy with rfl; rfl⟩
theorem retHC {S : Nat → Prop} {W w : World} {L : List As} {ts : List T3} {ms : List Int} (hw : Own ⟨W, none⟩ w L) (i : Nat) {b : Nat} {kvs : List (P2 × Nat)} (hi : L[i]? = some (mapA b kEd vN kvs)) (h : CloI ts ms ms.length kvs) (hc : Calm ts kvs ts.length) {v : Value} (hv : v = .map (some b)) : GivesR (HC ts ms) S W (.returned v) w := by
  refine ⟨⟨b, kvs, h.ok, h.one, h.all hc⟩, by rw [hv]; rfl, hw.out, fun y hy => ?_⟩
  rcases List.mem_singleton.1 hy with rfl
  have h1 := hw.2.1 _ (List.mem_of_getElem? hi) b rfl
  refine ⟨fun c e => ?_, fun c e => ?_⟩
  · injection e with e; subst e; exact h1.2
  · injection e with e; subst e
    rcases h1.1 with h2 | h2 | h2
    · cases h2
    · exact .inl h2
    · cases h2
def divE (ts : List T3) (kvs : List (P2 × Nat)) (i : Nat) : List E4 := ((edL ts).take i).filter fun e => decide (getM kvs (e.a, e.b) = some 1)
theorem divE_yes {ts : List T3} {kvs : List (P2 × Nat)} {i : Nat} (hi : i < (edL ts).length) (h : getM kvs (((edL ts).getD i E0).a, ((edL ts).getD i E0).b) = some 1) : divE ts kvs (i + 1) = divE ts kvs i ++ [(edL ts).getD i E0] := by
  rw [List.getD, List.getElem?_eq_getElem hi] at h ⊢
  unfold divE
  rw [List.take_add_one, List.getElem?_eq_getElem hi, List.filter_append]
  simp only [Option.toList_some, Option.getD_some] at h ⊢
  rw [List.filter_cons, if_pos (decide_eq_true h)]; rfl
theorem divE_no {ts : List T3} {kvs : List (P2 × Nat)} {i : Nat} (hi : i < (edL ts).length) (h : ¬ getM kvs (((edL ts).getD i E0).a, ((edL ts).getD i E0).b) = some 1) : divE ts kvs (i + 1) = divE ts kvs i := by
  rw [List.getD, List.getElem?_eq_getElem hi] at h
  unfold divE
  rw [List.take_add_one, List.getElem?_eq_getElem hi, List.filter_append]
  simp only [Option.toList_some, Option.getD_some] at h ⊢
  rw [List.filter_cons, if_neg (by simpa using h)]; simp
theorem divE_len {ts : List T3} {kvs : List (P2 × Nat)} (i : Nat) : (divE ts kvs i).length ≤ i := Nat.le_trans (List.length_filter_le _ _) (List.length_take_le _ _)
structure DX (ts : List T3) (ms : List Int) where
  l : List E4
  r : RX (rowsL e4L l) l.length
  p : E4 → Bool
  el : l = (edL ts).filter p
  all : ∀ e, p e = true ↔ Clo ts (MkK ts ms) (e.a, e.b)
instance {ts : List T3} {ms : List Int} : Ref (DX ts ms) := ⟨fun x => x.r.val, fun x => [x.r.row], fun x y hy => by rcases List.mem_singleton.1 hy with rfl; rfl⟩
theorem retDX {S : Nat → Prop} {W w : World} {L : List As} {ts : List T3} {ms : List Int} (h : HC ts ms) (hw : Own ⟨W, none⟩ w L) (i : Nat) {q : Option Addr} {T n c : Nat} (hi : L[i]? = some (rowW q T 4 n c (rowsL e4L (divE ts h.kvs (edL ts).length)))) (ho : OwnOk q n c) (hn : n = (divE ts h.kvs (edL ts).length).length) {v : Value} (hv : v = .slice q n n) : GivesR (DX ts ms) S W (.returned v) w := by
  subst hn
  obtain ⟨a, h1, h2, h3⟩ := retC (S := S) hw i hi ho (rowsL_length e4L_len _) hv
  exact ⟨⟨_, a, fun e => decide (getM h.kvs (e.a, e.b) = some 1), by unfold divE; rw [List.take_length], fun e => ⟨fun k => (h.all _).1 (of_decide_eq_true k), fun k => decide_eq_true ((h.all _).2 k)⟩⟩, h1, h2, h3⟩
theorem HC.gt {ts : List T3} {ms : List Int} (h : HC ts ms) {k : P2} : 0 < (getM h.kvs k).getD 0 ↔ getM h.kvs k = some 1 := by
  rcases h.one k with h1 | h1 <;> rw [h1] <;> simp
end
section
set_option maxRecDepth 100000
theorem keyCl : KeyE Tryz.prog 119 kEd okE := keyPair laidB (by decide +kernel) (by kernel_rfl) (by kernel_rfl) Tryz.underlying119 Tryz.underlying3 (by kernel_rfl) (by kernel_rfl) (by kernel_rfl)
set_option maxHeartbeats 1000000 in
theorem closure_ok {ps : List Pt} {ts ss : List T3} (x : MX ps ts ss) (ms : List Int) (y : RX (zL ms) ms.length) (hnb : numB ps.length ts = true) (hp : ps.length ≤ 1000000) (htl : ts.length ≤ 1000000) (hml : ms.length ≤ 1000000) (w : World) {S : Nat → Prop} (hx : Ro S w x) (hy : Ro S w y) : Calls Tryz.prog 52 #[(aG (mxL x)), (Value.slice y.p ms.length y.c)] w (GivesR (HC ts ms) S w) := by
 have lx := atA (W := w) hx
 have ly := atA (W := w) hy
 refine calls_ofR (args := [(aG (mxL x)), (Value.slice y.p ms.length y.c)]) (L := [rowR x.a.p (rowsL ptL ps), rowR x.b.p (rowsL t3L ts), rowR x.c.p (rowsL t3L ss), rowR y.p (zL ms)]) Tryz.func52 rfl rfl (leB rfl) (sxA hx (sxA hy roL_nil)) (OkC.subF (sL [0, 1] rfl) (q4 (bx' (cs := mxL x) rfl fun b1 => asg' rfl (OkL.nil ?_))))
 refine OkQ.subF (sL [1, 2, 4] rfl) (OkQ.then_ (OkC.scope (q4 (OkL.makeMap kEd vN (wt_none rfl) rfl fun b2 => asg' rfl ?_))))
 refine q6 (sL [1, 2, 4, 5] rfl) (q4 (mv' rfl (st' (v := (vN ms.length)) (ex_len_slice rfl Tryz.underlying34) rfl (mv' rfl (OkL.nil ?_)))))
 refine OkQ.subF (sL [2, 4, 5, 12, 13, 14] rfl) (OkQ.then_ (OkC.block ?_))
 refine OkC.lp2 (tg fun (i : Nat) (kvs : List (P2 × Nat)) => i ≤ ms.length ∧ CloI ts ms i kvs) (tg fun (i : Nat) (kvs : List (P2 × Nat)) => [(2, (pP b1 0)), (4, (Value.map none)), (5, (Value.map (some b2))), (12, (Value.slice y.p ms.length y.c)), (13, (vN ms.length)), (14, (vN i))]) (tg fun (i : Nat) (kvs : List (P2 × Nat)) => [mapA b2 kEd vN kvs, blk b1 31 (mxL x), rowR x.a.p (rowsL ptL ps), rowR x.b.p (rowsL t3L ts), rowR x.c.p (rowsL t3L ss), rowR y.p (zL ms)]) (tg fun (i : Nat) (kvs : List (P2 × Nat)) => ms.length - i) 0 ([] : List (P2 × Nat)) (⟨Nat.zero_le _, CloI.zero ts ms⟩) (sF rfl) sr (fun i kvs hJ => ?_)
 obtain ⟨hi, hci⟩ := hJ
 refine q4 (st' (ex_lss (c := (decide (i < ms.length))) rfl rfl (ltN (a := i) (b := ms.length))) rfl (OkL.nil (q1 ?_)))
 refine OkC.cond rfl (fun hc0 => ?_) (fun hc0 => ?_)
 ·replace hc0 := of_decide_eq_true hc0
  refine OkC.skip (q1 (OkC.block (q4 (st' (v := (pP (pB y.p) (pO y.p + i * 1))) (ex_index_row (j := i) rfl rfl y.ok Tryz.underlying34 Tryz.sizeOf3 rfl (by omega)) rfl (st' (ex_load_rowR_one (v := (vI (ms.getD i 0))) (i := 5) rfl rfl (y.ok.ne (by omega)) tO3 (zL_get (l := ms) (j := i) (by omega))) rfl ?_)))))
  refine asg' rfl (q3 (sL [2, 4, 5, 12, 13, 14, 7] rfl) (mv' rfl (st' (ex_geq (c := (decide ((0 : Int) ≤ (ms.getD i 0)))) rfl rfl rfl) rfl (mv' rfl ?_))))
  refine OkL.mid (FM := [(2, (pP b1 0)), (4, (Value.map none)), (5, (Value.map (some b2))), (12, (Value.slice y.p ms.length y.c)), (13, (vN ms.length)), (14, (vN i)), (7, (vI (ms.getD i 0))), (18, (vI (ms.getD i 0))), (19, (Value.bool (decide ((0 : Int) ≤ (ms.getD i 0))))), (20, (Value.bool (decide ((0 : Int) ≤ (ms.getD i 0))))), (26, (Value.bool ((decide ((0 : Int) ≤ (ms.getD i 0))) && (decide ((ms.getD i 0) < ((ts.length : Nat) : Int))))))]) (LM := [mapA b2 kEd vN kvs, blk b1 31 (mxL x), rowR x.a.p (rowsL ptL ps), rowR x.b.p (rowsL t3L ts), rowR x.c.p (rowsL t3L ss), rowR y.p (zL ms)]) 6 ?_ ?_
  ·rcases Bool.eq_false_or_eq_true (decide ((0 : Int) ≤ (ms.getD i 0))) with hg1 | hg1
   ·skip
    refine OkL.retell (k := 20) (u := Value.bool true) rfl (by rw [hg1]) ?_
    have hg1' := hg1
    replace hg1' := of_decide_eq_true hg1'
    refine OkL.step (v := (vI (ms.getD i 0))) (wt_some' rfl) (ex_move rfl) rfl (leB rfl) (OkL.step (v := (pP b1 1)) (wt_some' rfl) (ex_fieldAddr rfl Tryz.underlying31 rfl Tryz.sizeOf28 rfl) rfl (leB rfl) (OkL.step (v := (Value.slice x.b.p ts.length x.b.c)) (wt_some' rfl) (ex_load_one (i := 1) (v := (Value.slice x.b.p ts.length x.b.c)) rfl rfl tO28.a rfl) rfl (leB rfl) (OkL.step (v := (vN ts.length)) (wt_some' rfl) (ex_len_slice rfl Tryz.underlying28) rfl (leB rfl) (OkL.step (v := (Value.bool (decide ((ms.getD i 0) < ((ts.length : Nat) : Int))))) (wt_some' rfl) (ex_lss (c := (decide ((ms.getD i 0) < ((ts.length : Nat) : Int)))) rfl rfl rfl) rfl (leB rfl) (st' (v := (Value.bool (decide ((ms.getD i 0) < ((ts.length : Nat) : Int))))) (ex_pick_true rfl rfl) rfl ?_)))))
    exact OkL.nil (OkQ.mid (sS rfl (sS rfl (sS rfl (sS rfl (sS rfl (sS rfl (sS rfl (sS rfl (sS rfl (sS (by first | rfl | (rw [hg1]; rfl) | rw [hg1]) (sS (by first | rfl | (rw [hg1]; rfl) | rw [hg1]) (sN)))))))))))) (List.Sublist.refl _))
   ·skip
    refine OkL.retell (k := 20) (u := Value.bool false) rfl (by rw [hg1]) ?_
    have hg1' := hg1
    replace hg1' := of_decide_eq_false hg1'
    refine OkL.skip (wt_not' rfl) rfl (leB rfl) (OkL.skip (wt_not' rfl) rfl (leB rfl) (OkL.skip (wt_not' rfl) rfl (leB rfl) (OkL.skip (wt_not' rfl) rfl (leB rfl) (OkL.skip (wt_not' rfl) rfl (leB rfl) (st' (v := (Value.bool false)) (ex_pick_false rfl rfl) rfl ?_)))))
    exact OkL.nil (OkQ.mid (sS rfl (sS rfl (sS rfl (sS rfl (sS rfl (sS rfl (sS rfl (sS rfl (sS rfl (sS (by first | rfl | (rw [hg1]; rfl) | rw [hg1]) (sS (by first | rfl | (rw [hg1]; rfl) | rw [hg1]) (sN)))))))))))) (List.Sublist.refl _))
  refine OkL.nil (OkQ.subF (sL [2, 4, 5, 12, 13, 14, 7, 26] rfl) (OkQ.then_ ?_))
  refine OkC.cond rfl (fun hc1 => ?_) (fun hc1 => ?_)
  ·simp only [Bool.and_eq_true, Bool.or_eq_true, Bool.and_eq_false_iff, Bool.or_eq_false_iff, Bool.not_eq_true', Bool.not_eq_false', decide_eq_true_eq, decide_eq_false_iff_not] at hc1
   obtain ⟨hz0, hz1⟩ : 0 ≤ ms.getD i 0 ∧ ms.getD i 0 < (ts.length : Int) := by omega
   obtain ⟨tn, htn⟩ : ∃ q, q = (ms.getD i 0).toNat := ⟨_, rfl⟩
   have htl2 : tn < ts.length := by omega
   obtain ⟨g1, g2, g3⟩ := okT_spec (numB_at hnb htl2)
   refine OkC.retell (k := 7) (u := (vN tn)) rfl (by show Value.int _ _ = Value.int _ _; congr 1; omega) (rG' [(0, true), (1, true), (2, true), (3, true), (4, true), (5, true), (6, true), (7, true), (8, true), (9, true), (10, true), (11, true), (12, true), (13, false), (14, false)] (sl sr) (pM' rfl (pE' (v := (pP b1 1)) rfl (ex_fieldAddr rfl Tryz.underlying31 rfl Tryz.sizeOf28 rfl) (pO'' 0 (Value.slice x.b.p ts.length x.b.c) tO28 rfl (pM' rfl ?_)))))
   refine pE' (v := (pP (pB x.b.p) (pO x.b.p + tn * 3))) rfl (ex_index_row (j := tn) rfl rfl x.b.ok Tryz.underlying28 Tryz.sizeOf45 rfl (by omega)) (pE' (v := (pP (pB x.b.p) (pO x.b.p + (tn * 3 + 1)))) rfl (ex_indexAddr_array (j := 1) rfl rfl Tryz.underlying45 Tryz.sizeOf3 rfl (by decide) (Nat.add_assoc _ _ _)) (pE' rfl (ex_load_rowR_one (v := (vN ((ts.getD tn ((0, 0, 0) : Nat × Nat × Nat)).2.1))) (i := 2) rfl rfl (RowOk.ne x.b.ok (by omega)) tO3 (rowsL_at t3L_len ((0, 0, 0) : Nat × Nat × Nat) _ _ 1 (by omega) (by decide) rfl)) (pE' (v := (pP b1 1)) rfl (ex_fieldAddr rfl Tryz.underlying31 rfl Tryz.sizeOf28 rfl) (pO'' 0 (Value.slice x.b.p ts.length x.b.c) tO28 rfl (pM' rfl ?_)))))
   refine pE' (v := (pP (pB x.b.p) (pO x.b.p + tn * 3))) rfl (ex_index_row (j := tn) rfl rfl x.b.ok Tryz.underlying28 Tryz.sizeOf45 rfl (by omega)) (pE' (v := (pP (pB x.b.p) (pO x.b.p + (tn * 3 + 2)))) rfl (ex_indexAddr_array (j := 2) rfl rfl Tryz.underlying45 Tryz.sizeOf3 rfl (by decide) (Nat.add_assoc _ _ _)) (pE' rfl (ex_load_rowR_one (v := (vN ((ts.getD tn ((0, 0, 0) : Nat × Nat × Nat)).2.2))) (i := 2) rfl rfl (RowOk.ne x.b.ok (by omega)) tO3 (rowsL_at t3L_len ((0, 0, 0) : Nat × Nat × Nat) _ _ 2 (by omega) (by decide) rfl)) (OkE.imp rfl (ck' Tryz.call54 (bOf_ok ((ts.getD tn ((0, 0, 0) : Nat × Nat × Nat)).2.1) ((ts.getD tn ((0, 0, 0) : Nat × Nat × Nat)).2.2)) rfl (OkE.back (sl sr) ?_)))))
   refine OkE.imp rfl (OkL.mapUpdate keyCl 0 (kvs := kvs) (x := (min ((ts.getD tn ((0, 0, 0) : Nat × Nat × Nat)).2.1) ((ts.getD tn ((0, 0, 0) : Nat × Nat × Nat)).2.2), max ((ts.getD tn ((0, 0, 0) : Nat × Nat × Nat)).2.1) ((ts.getD tn ((0, 0, 0) : Nat × Nat × Nat)).2.2))) (y := 1) (wt_none rfl) rfl rfl rfl Tryz.underlying116 rfl (hci.ok) (okE_ky (by omega) (by omega)) (OkE.back (sl sr) (OkE.nil (OkQ.subF (sL [2, 4, 5, 12, 13, 14, 7] rfl) (OkQ.in_normal ?_)))))
   exact OkQ.then_ (OkC.region (st' (ex_add (c := ((i + 1 : Nat) : Int)) rfl rfl (addN_i64 (a := i) (b := 1) (by omega))) rfl (mv' rfl (OkL.nil (OkQ.subF (sL [2, 4, 5, 12, 13, 14, 7] rfl) (OkQ.round2 (i + 1) (putM kvs (min ((ts.getD tn ((0, 0, 0) : Nat × Nat × Nat)).2.1) ((ts.getD tn ((0, 0, 0) : Nat × Nat × Nat)).2.2), max ((ts.getD tn ((0, 0, 0) : Nat × Nat × Nat)).2.1) ((ts.getD tn ((0, 0, 0) : Nat × Nat × Nat)).2.2)) 1) (⟨by omega, (by have h9 := hci.mark hc0 hz0 hz1 (by rw [← htn]; exact okE_ky (by omega) (by omega)); rw [← htn] at h9; exact h9)⟩) (by omega) (sF rfl) sr))))))
  ·simp only [Bool.and_eq_true, Bool.or_eq_true, Bool.and_eq_false_iff, Bool.or_eq_false_iff, Bool.not_eq_true', Bool.not_eq_false', decide_eq_true_eq, decide_eq_false_iff_not] at hc1
   refine OkC.skip (OkQ.in_normal (OkQ.then_ (OkC.region (st' (ex_add (c := ((i + 1 : Nat) : Int)) rfl rfl (addN_i64 (a := i) (b := 1) (by omega))) rfl (mv' rfl ?_)))))
   exact OkL.nil (OkQ.subF (sL [2, 4, 5, 12, 13, 14, 7] rfl) (OkQ.round2 (i + 1) kvs (⟨by omega, hci.skip hc0 (by omega)⟩) (by omega) (sF rfl) sr))
 ·replace hc0 := of_decide_eq_false hc0
  refine OkC.exit (OkQ.then_exit (OkQ.round2_exit (OkQ.in_exit (q1 (OkC.label ?_)))))
  refine OkQ.then_ (OkC.block ?_)
  refine OkC.lp1 (tg fun (kvs : List (P2 × Nat)) => CloI ts ms ms.length kvs) (tg fun (kvs : List (P2 × Nat)) => [(2, (pP b1 0)), (5, (Value.map (some b2)))]) (tg fun (kvs : List (P2 × Nat)) => [mapA b2 kEd vN kvs, blk b1 31 (mxL x), rowR x.a.p (rowsL ptL ps), rowR x.b.p (rowsL t3L ts), rowR x.c.p (rowsL t3L ss), rowR y.p (zL ms)]) (tg fun (kvs : List (P2 × Nat)) => opnM ts kvs) kvs ((by rw [show i = ms.length by omega] at hci; exact hci)) (sF rfl) sr (fun kvs hJ => ?_)
  have hci := hJ
  refine OkC.block (OkC.seq (q4 (st' (v := (pP b1 1)) (ex_fieldAddr rfl Tryz.underlying31 rfl Tryz.sizeOf28 rfl) rfl (ldO' 1 (Value.slice x.b.p ts.length x.b.c) tO28 rfl (st' (v := (vN ts.length)) (ex_len_slice rfl Tryz.underlying28) rfl ?_)))))
  refine mv' rfl (OkL.nil (OkQ.subF (sL [2, 5, 43, 44, 45] rfl) (OkQ.then_ (OkC.block ?_))))
  refine OkC.lp1 (tg fun (j : Nat) => j ≤ ts.length ∧ Calm ts kvs j) (tg fun (j : Nat) => [(2, (pP b1 0)), (5, (Value.map (some b2))), (43, (Value.slice x.b.p ts.length x.b.c)), (44, (vN ts.length)), (45, (vN j))]) (tg fun (j : Nat) => [mapA b2 kEd vN kvs, blk b1 31 (mxL x), rowR x.a.p (rowsL ptL ps), rowR x.b.p (rowsL t3L ts), rowR x.c.p (rowsL t3L ss), rowR y.p (zL ms)]) (tg fun (j : Nat) => ts.length - j) 0 (⟨Nat.zero_le _, fun q h => absurd h (Nat.not_lt_zero _)⟩) (sF rfl) sr (fun j hJ => ?_)
  obtain ⟨hj, hcm⟩ := hJ
  refine q4 (st' (ex_lss (c := (decide (j < ts.length))) rfl rfl (ltN (a := j) (b := ts.length))) rfl (OkL.nil (q1 ?_)))
  refine OkC.cond rfl (fun hc2 => ?_) (fun hc2 => ?_)
  ·replace hc2 := of_decide_eq_true hc2
   obtain ⟨T, hT⟩ : ∃ q, q = ts.getD j (0, 0, 0) := ⟨_, rfl⟩
   obtain ⟨g1, g2, g3⟩ := okT_spec (numB_at hnb hc2)
   rw [← hT] at g1 g2 g3
   have hmT : T ∈ ts := by rw [hT, List.getD, List.getElem?_eq_getElem hc2]; exact List.getElem_mem hc2
   obtain ⟨vc, hvc⟩ : ∃ q, q = (getM kvs ((min T.2.1 T.2.2, max T.2.1 T.2.2) : P2)).getD 0 := ⟨_, rfl⟩
   have hvc1 : vc ≤ 1 := by rw [hvc]; rcases hci.one ((min T.2.1 T.2.2, max T.2.1 T.2.2) : P2) with h9 | h9 <;> rw [h9] <;> decide
   obtain ⟨va, hva⟩ : ∃ q, q = (getM kvs ((min T.1 T.2.1, max T.1 T.2.1) : P2)).getD 0 := ⟨_, rfl⟩
   have hva1 : va ≤ 1 := by rw [hva]; rcases hci.one ((min T.1 T.2.1, max T.1 T.2.1) : P2) with h9 | h9 <;> rw [h9] <;> decide
   obtain ⟨vb, hvb⟩ : ∃ q, q = (getM kvs ((min T.2.2 T.1, max T.2.2 T.1) : P2)).getD 0 := ⟨_, rfl⟩
   have hvb1 : vb ≤ 1 := by rw [hvb]; rcases hci.one ((min T.2.2 T.1, max T.2.2 T.1) : P2) with h9 | h9 <;> rw [h9] <;> decide
   refine OkC.skip (q1 (OkC.block (q4 (st' (v := (pP (pB x.b.p) (pO x.b.p + j * 3))) (ex_index_row (j := j) rfl rfl x.b.ok Tryz.underlying28 Tryz.sizeOf45 rfl (by omega)) rfl (st' (v := (aG (t3L (ts.getD j ((0, 0, 0) : Nat × Nat × Nat))))) (ex_load_rowR_agg (vs := t3L (ts.getD j ((0, 0, 0) : Nat × Nat × Nat))) (i := 3) rfl rfl (RowOk.ne x.b.ok (by omega)) tA45 (rowsL_get t3L_len _ _ _ (by omega)) (t3L_len _)) rfl ?_)))))
   refine OkL.retell (k := 48) (u := (aG (t3L T))) rfl (by rw [hT]) (al tZ45 rfl fun b3 => stW0' rfl Tryz.sizeOf45 rfl (q3 (sL [2, 5, 43, 44, 45, 9] rfl) (st' (v := (pP b3 1)) (ex_indexAddr_array (j := 1) rfl rfl Tryz.underlying45 Tryz.sizeOf3 rfl (by decide) rfl) rfl (ldO' 0 (vN T.2.1) tO3 rfl ?_))))
   refine st' (v := (pP b3 2)) (ex_indexAddr_array (j := 2) rfl rfl Tryz.underlying45 Tryz.sizeOf3 rfl (by decide) rfl) rfl (ldO' 0 (vN T.2.2) tO3 rfl (ck' Tryz.call54 (bOf_ok T.2.1 T.2.2) rfl (al tZ119 rfl fun b4 => stW0' rfl Tryz.sizeOf119 rfl (q6 (sL [2, 5, 43, 44, 45, 9, 10] rfl) ?_))))
   by_cases hbz : vc = 0
   ·skip
    refine rG' [(0, true), (1, true), (2, true), (3, true), (4, true), (5, true), (6, true), (7, true), (8, true), (9, true), (12, true), (13, true), (14, true), (15, true), (16, true), (10, false), (11, true), (17, false), (18, true), (19, true), (20, true), (21, true)] sr (pM' rfl (pW' 0 tA119 rfl (pE' (v := (vN vc)) rfl ((by rw [hvc]; exact ex_lookup keyCl 2 (eV := vN) (kvs := kvs) (x := (min T.2.1 T.2.2, max T.2.1 T.2.2)) (z0 := 0) (co := false) rfl rfl Tryz.underlying116 Tryz.zeroValue3 rfl (hci.ok) (okE_ky (by omega) (by omega)))) (pE' rfl (ex_eql (c := true) rfl rfl (decide_eq_true (by omega))) (pM' rfl ?_)))))
    refine OkE.pas (v := (Value.map (some b2))) rfl (wt_some' rfl) (ex_move rfl) rfl rfl (OkE.pas (v := (pP b3 0)) rfl (wt_some' rfl) (ex_indexAddr_array (j := 0) rfl rfl Tryz.underlying45 Tryz.sizeOf3 rfl (by decide) rfl) rfl rfl (OkE.pas (v := (vN T.1)) rfl (wt_some' rfl) (ex_load_one (i := 1) (v := (vN T.1)) rfl rfl tO3.a rfl) rfl rfl (OkE.pas (v := (pP b3 1)) rfl (wt_some' rfl) (ex_indexAddr_array (j := 1) rfl rfl Tryz.underlying45 Tryz.sizeOf3 rfl (by decide) rfl) rfl rfl (OkE.pas (v := (vN T.2.1)) rfl (wt_some' rfl) (ex_load_one (i := 1) (v := (vN T.2.1)) rfl rfl tO3.a rfl) rfl rfl (OkE.pas (v := (Value.map (some b2))) rfl (wt_some' rfl) (ex_move rfl) rfl rfl ?_)))))
    refine OkE.pas (v := (pP b3 2)) rfl (wt_some' rfl) (ex_indexAddr_array (j := 2) rfl rfl Tryz.underlying45 Tryz.sizeOf3 rfl (by decide) rfl) rfl rfl (OkE.pas (v := (vN T.2.2)) rfl (wt_some' rfl) (ex_load_one (i := 1) (v := (vN T.2.2)) rfl rfl tO3.a rfl) rfl rfl (OkE.pas (v := (pP b3 0)) rfl (wt_some' rfl) (ex_indexAddr_array (j := 0) rfl rfl Tryz.underlying45 Tryz.sizeOf3 rfl (by decide) rfl) rfl rfl (OkE.pas (v := (vN T.1)) rfl (wt_some' rfl) (ex_load_one (i := 1) (v := (vN T.1)) rfl rfl tO3.a rfl) rfl rfl (OkE.imp rfl (OkL.call (v := (aG (posL (min T.1 T.2.1, max T.1 T.2.1)))) (wt_some' rfl) (op_call0 (args := [(vN T.1), (vN T.2.1)]) rfl rfl Tryz.call54) (fun w hw => bOf_ok T.1 T.2.1 w) rfl (leB rfl) ?_)))))
    refine OkE.back sr (OkE.pas (v := (vN va)) rfl (wt_some' rfl) ((by rw [hva]; exact ex_lookup keyCl 2 (eV := vN) (kvs := kvs) (x := (min T.1 T.2.1, max T.1 T.2.1)) (z0 := 0) (co := false) rfl rfl Tryz.underlying116 Tryz.zeroValue3 rfl (hci.ok) (okE_ky (by omega) (by omega)))) rfl rfl (OkE.imp rfl (OkL.call (v := (aG (posL (min T.2.2 T.1, max T.2.2 T.1)))) (wt_some' rfl) (op_call0 (args := [(vN T.2.2), (vN T.1)]) rfl rfl Tryz.call54) (fun w hw => bOf_ok T.2.2 T.1 w) rfl (leB rfl) (OkE.back sr (OkE.pas (v := (vN vb)) rfl (wt_some' rfl) ((by rw [hvb]; exact ex_lookup keyCl 2 (eV := vN) (kvs := kvs) (x := (min T.2.2 T.1, max T.2.2 T.1)) (z0 := 0) (co := false) rfl rfl Tryz.underlying116 Tryz.zeroValue3 rfl (hci.ok) (okE_ky (by omega) (by omega)))) rfl rfl ?_)))))
    refine OkE.pas (v := (vN (va + vb))) rfl (wt_some' rfl) (ex_add (c := ((va + vb : Nat) : Int)) rfl rfl (addN_i64 (a := va) (b := vb) (by omega))) rfl rfl (OkE.pas (v := (Value.bool (decide (0 < (va + vb))))) rfl (wt_some' rfl) (ex_gtr (c := (decide (0 < (va + vb)))) rfl rfl (ltN (a := 0) (b := va + vb))) rfl rfl (pE' (v := (Value.bool (decide (0 < (va + vb))))) rfl (ex_pick_true rfl rfl) (OkE.nil (OkQ.subF (sL [2, 5, 43, 44, 45, 9, 10, 75] rfl) (OkQ.then_ ?_)))))
    refine OkC.cond rfl (fun hc3 => ?_) (fun hc3 => ?_)
    ·replace hc3 := of_decide_eq_true hc3
     have hcl : Clo ts (MkK ts ms) (baseK T) := by rcases Nat.lt_or_ge 0 va with h9 | h9; exact .up hmT (hci.sub _ (hci.is1 (k := kyE T.1 T.2.1) (by show 0 < (getM kvs ((min T.1 T.2.1, max T.1 T.2.1) : P2)).getD 0; rw [← hva]; exact h9))) (.inl rfl); exact .up hmT (hci.sub _ (hci.is1 (k := kyE T.2.2 T.1) (by show 0 < (getM kvs ((min T.2.2 T.1, max T.2.2 T.1) : P2)).getD 0; rw [← hvb]; omega))) (.inr rfl)
     have hop : opnM ts (putM kvs (baseK T) 1) < opnM ts kvs := opn_lt hmT (hci.no (by show (getM kvs ((min T.2.1 T.2.2, max T.2.1 T.2.2) : P2)).getD 0 = 0; rw [← hvc]; exact hbz))
     refine q4 (mv' rfl (ldW' 0 tA119 rfl (OkL.mapUpdate keyCl 2 (kvs := kvs) (x := (min T.2.1 T.2.2, max T.2.1 T.2.2)) (y := 1) (wt_none rfl) rfl rfl rfl Tryz.underlying116 rfl (hci.ok) (okE_ky (by omega) (by omega)) (OkL.nil (OkQ.subF (sL [2, 5, 43, 44, 45, 9, 10] rfl) ?_)))))
     refine OkQ.then_ (OkC.exit (OkQ.in_exit_ne rfl (OkQ.then_exit (OkQ.round1_exit (OkQ.in_exit_ne rfl ?_)))))
     exact OkQ.then_exit (OkQ.in_exit (OkQ.round1 (putM kvs (min T.2.1 T.2.2, max T.2.1 T.2.2) 1) ((hci.put (okE_ky (by omega) (by omega)) hcl)) (hop) (sF rfl) (sl (sl sr))))
    ·replace hc3 := of_decide_eq_false hc3
     refine OkC.skip (OkQ.in_normal (OkQ.then_ (OkC.region (st' (ex_add (c := ((j + 1 : Nat) : Int)) rfl rfl (addN_i64 (a := j) (b := 1) (by omega))) rfl (mv' rfl ?_)))))
     exact OkL.nil (OkQ.subF (sL [2, 5, 43, 44, 45, 9, 10] rfl) (OkQ.round1 (j + 1) (⟨by omega, calm_succ hcm (by rw [← hT]; intro hn; first | exact absurd (by rw [hvc]; show (getM kvs (baseK T)).getD 0 = 0; rw [hn]; rfl) hbz | exact ⟨hci.no (k := kyE T.1 T.2.1) (by show (getM kvs ((min T.1 T.2.1, max T.1 T.2.1) : P2)).getD 0 = 0; rw [← hva]; omega), hci.no (k := kyE T.2.2 T.1) (by show (getM kvs ((min T.2.2 T.1, max T.2.2 T.1) : P2)).getD 0 = 0; rw [← hvb]; omega)⟩)⟩) (by omega) (sF rfl) (sl (sl sr))))
   ·skip
    refine rG' [(0, true), (1, true), (2, true), (3, true), (4, true), (5, true), (6, true), (7, true), (8, true), (9, true), (12, true), (13, true), (14, true), (15, true), (16, true), (10, false), (11, true), (17, false), (18, true), (19, true), (20, true), (21, true)] sr (pM' rfl (pW' 0 tA119 rfl (pE' (v := (vN vc)) rfl ((by rw [hvc]; exact ex_lookup keyCl 2 (eV := vN) (kvs := kvs) (x := (min T.2.1 T.2.2, max T.2.1 T.2.2)) (z0 := 0) (co := false) rfl rfl Tryz.underlying116 Tryz.zeroValue3 rfl (hci.ok) (okE_ky (by omega) (by omega)))) (pE' rfl (ex_eql (c := false) rfl rfl (decide_eq_false (by omega))) (pM' rfl ?_)))))
    refine OkE.skp rfl (wt_not' rfl) rfl rfl (OkE.skp rfl (wt_not' rfl) rfl rfl (OkE.skp rfl (wt_not' rfl) rfl rfl (OkE.skp rfl (wt_not' rfl) rfl rfl (OkE.skp rfl (wt_not' rfl) rfl rfl (OkE.skp rfl (wt_not' rfl) rfl rfl ?_)))))
    refine OkE.skp rfl (wt_not' rfl) rfl rfl (OkE.skp rfl (wt_not' rfl) rfl rfl (OkE.skp rfl (wt_not' rfl) rfl rfl (OkE.skp rfl (wt_not' rfl) rfl rfl (OkE.imp rfl (OkL.skip (wt_not' rfl) rfl (leB rfl) ?_)))))
    refine OkE.back sr (OkE.skp rfl (wt_not' rfl) rfl rfl (OkE.imp rfl (OkL.skip (wt_not' rfl) rfl (leB rfl) (OkE.back sr (OkE.skp rfl (wt_not' rfl) rfl rfl ?_)))))
    refine OkE.skp rfl (wt_not' rfl) rfl rfl (OkE.skp rfl (wt_not' rfl) rfl rfl (pE' (v := (Value.bool false)) rfl (ex_pick_false rfl rfl) (OkE.nil (OkQ.subF (sL [2, 5, 43, 44, 45, 9, 10, 75] rfl) (OkQ.then_ ?_)))))
    refine OkC.cond_false rfl (OkC.skip (OkQ.in_normal (OkQ.then_ (OkC.region (st' (ex_add (c := ((j + 1 : Nat) : Int)) rfl rfl (addN_i64 (a := j) (b := 1) (by omega))) rfl ?_)))))
    exact mv' rfl (OkL.nil (OkQ.subF (sL [2, 5, 43, 44, 45, 9, 10] rfl) (OkQ.round1 (j + 1) (⟨by omega, calm_succ hcm (by rw [← hT]; intro hn; first | exact absurd (by rw [hvc]; show (getM kvs (baseK T)).getD 0 = 0; rw [hn]; rfl) hbz | exact ⟨hci.no (k := kyE T.1 T.2.1) (by show (getM kvs ((min T.1 T.2.1, max T.1 T.2.1) : P2)).getD 0 = 0; rw [← hva]; omega), hci.no (k := kyE T.2.2 T.1) (by show (getM kvs ((min T.2.2 T.1, max T.2.2 T.1) : P2)).getD 0 = 0; rw [← hvb]; omega)⟩)⟩) (by omega) (sF rfl) (sl (sl sr)))))
  ·replace hc2 := of_decide_eq_false hc2
   refine OkC.exit (OkQ.then_exit (OkQ.round1_exit (OkQ.in_exit (q2 (mv' rfl ?_)))))
   refine asg' rfl (OkL.nil (OkQ.subF (sL [2, 5, 43, 44, 45, 4] rfl) (OkQ.then_ (OkC.ret (OkQ.in_ret ?_)))))
   exact OkQ.round1_ret (OkQ.in_ret (OkQ.scope_ret (ret_one rfl (rd_tmp (v := (Value.map (some b2))) rfl) (fun w hw => (retHC hw 0 rfl hci (by rw [show j = ts.length by omega] at hcm; exact hcm) rfl)))))
end
end Go.Proofs.YtgiacpkjnikjdaaGreat
