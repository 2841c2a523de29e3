import Derived.Test.YtgiacpkjnikjdaaGreatPart06
import Derived.Test.YtgiacpkjnikjdaaGreatPart15
import Derived.Test.YtgiacpkjnikjdaaGreatPart33
import Derived.Test.YtgiacpkjnikjdaaGreatPart37
namespace Go.Proofs.YtgiacpkjnikjdaaGreat
open Go Go.RowKit
set_option linter.unusedVariables false
set_option linter.unusedSimpArgs false
section
set_option maxRecDepth 100000
theorem tfill_numun_119 (x0 x1 : Nat) : Instr.fill (fun i => some (i * 1, 1)) (posL ((0, 0) : P2)).toArray [(0, vN x0), (1, vN x1)] = some (posL (x0, x1)).toArray := by kernel_rfl
theorem tfs_numun_44_1 (x0 : E4) : Instr.fill (fun i => some (i * 4, 4)) ((Array.range (1 * 4)).map ((Value.agg (e4L (⟨0, 0, 0, 0⟩ : E4)).toArray).cells[· % (Value.agg (e4L (⟨0, 0, 0, 0⟩ : E4)).toArray).cells.size]!)) [(0, .agg (e4L x0).toArray)] = some (e4L x0).toArray := by kernel_rfl
set_option maxHeartbeats 1000000 in
theorem bedges_ok {ps : List Pt} {ts ss : List T3} (x : MX ps ts ss) {ms : List Int} (h : HC ts ms) (hnb : numB ps.length ts = true) (hp : ps.length ≤ 1000000) (htl : ts.length ≤ 1000000) (w : World) {S : Nat → Prop} (hx : Ro S w x) (hh : Ro S w h) : Calls Tryz.prog 51 #[(aG (mxL x)), (Value.map (some h.b))] w (GivesR (DX ts ms) S w) := by
 have hel0 := edL_le ts
 have lx := atA (W := w) hx
 have lh := atA (W := w) hh
 refine calls_ofR (args := [(aG (mxL x)), (Value.map (some h.b))]) (L := [rowR x.a.p (rowsL ptL ps), rowR x.b.p (rowsL t3L ts), rowR x.c.p (rowsL t3L ss), mapR h.b kEd vN h.kvs]) Tryz.func51 rfl rfl (leB rfl) (sxA hx (sxA hh roL_nil)) (OkC.subF (sL [0, 1] rfl) (q4 (bx' (cs := mxL x) rfl fun b1 => asg' rfl (q3 (sL [1, 2, 4] rfl) ?_))))
 refine asg' rfl (OkL.nilRow 44 4 (OkL.nil (q1 (q4 (ldW' 1 tA31 rfl ?_)))))
 refine cX (S := S) (cs := rowsL e4L (edL ts)) (k := (edL ts).length) (args := [(aG (mxL x))]) Tryz.call36 (fun w hw => Edges_ok x (by omega) (by omega) hnb w (inS hw 2 rfl lx)) rfl rfl rfl fun o lo => st' (v := (vN ((edL ts).length))) (ex_len_slice rfl Tryz.underlying40) rfl (mv' rfl (OkL.nil (OkQ.subF (sL [1, 4, 5, 9, 10, 11] rfl) (OkQ.then_ ?_))))
 refine OkC.block ?_
 refine OkC.lp4 (tg fun (i : Nat) (p1 : Option Addr) (c1 : Nat) (out : List E4) => i ≤ (edL ts).length ∧ OwnOk p1 out.length c1 ∧ out = divE ts h.kvs i) (tg fun (i : Nat) (p1 : Option Addr) (c1 : Nat) (out : List E4) => [(1, (Value.map (some h.b))), (4, (Value.slice none 0 0)), (9, (Value.slice o.p ((edL ts).length) o.c)), (10, (vN ((edL ts).length))), (11, (vN i)), (5, (Value.slice p1 out.length c1))]) (tg fun (i : Nat) (p1 : Option Addr) (c1 : Nat) (out : List E4) => [rowR o.p (rowsL e4L (edL ts)), rowW p1 44 4 out.length c1 (rowsL e4L out), blk b1 31 (mxL x), rowR x.a.p (rowsL ptL ps), rowR x.b.p (rowsL t3L ts), rowR x.c.p (rowsL t3L ss), mapR h.b kEd vN h.kvs]) (tg fun (i : Nat) (p1 : Option Addr) (c1 : Nat) (out : List E4) => (edL ts).length - i) 0 none 0 ([] : List E4) (⟨Nat.zero_le _, OwnOk.none, rfl⟩) (sF rfl) sr (fun i p1 c1 out hJ => ?_)
 obtain ⟨hi, ho, hou⟩ := hJ
 have hol := divE_len (ts := ts) (kvs := h.kvs) i
 rw [← hou] at hol
 refine q4 (st' (ex_lss (c := (decide (i < ((edL ts).length)))) rfl rfl (ltN (a := i) (b := (edL ts).length))) rfl (OkL.nil (q1 ?_)))
 refine OkC.cond rfl (fun hc0 => ?_) (fun hc0 => ?_)
 ·replace hc0 := of_decide_eq_true hc0
  obtain ⟨ed, hed⟩ : ∃ q, q = (edL ts).getD i (⟨0, 0, 0, 0⟩ : E4) := ⟨_, rfl⟩
  obtain ⟨hea, heb⟩ := edge_two hnb (by omega) ed (by rw [hed, List.getD, List.getElem?_eq_getElem hc0]; exact List.getElem_mem hc0)
  refine OkC.skip (q1 (OkC.block (q4 (st' (v := (pP (pB o.p) (pO o.p + i * 4))) (ex_index_row (j := i) rfl rfl o.ok Tryz.underlying40 Tryz.sizeOf44 rfl (by omega)) rfl (st' (v := (aG (e4L ((edL ts).getD i (⟨0, 0, 0, 0⟩ : E4))))) (ex_load_rowR_agg (vs := e4L ((edL ts).getD i (⟨0, 0, 0, 0⟩ : E4))) (i := 0) rfl rfl (RowOk.ne o.ok (by omega)) tA44 (rowsL_get e4L_len _ _ _ (by omega)) (e4L_len _)) rfl ?_)))))
  refine OkL.retell (k := 14) (u := (aG (e4L ed))) rfl (by rw [hed]) (al tZ44 rfl fun b2 => stW0' rfl Tryz.sizeOf44 rfl (q3 (sL [1, 4, 9, 10, 11, 5, 7] rfl) (mv' rfl (st' (v := (pP b2 0)) (ex_fieldAddr rfl Tryz.underlying44 rfl Tryz.sizeOf3 rfl) rfl ?_))))
  refine ldO' 0 (vN ed.a) tO3 rfl (st' (v := (pP b2 1)) (ex_fieldAddr rfl Tryz.underlying44 rfl Tryz.sizeOf3 rfl) rfl (ldO' 0 (vN ed.b) tO3 rfl (st' (v := (aG (posL (ed.a, ed.b)))) (ex_build_array (zs := posL ((0, 0) : P2)) (vs := posL (ed.a, ed.b)) (pv := [(0, (vN ed.a)), (1, (vN ed.b))]) Tryz.zeroValue119 Tryz.underlying119 Tryz.sizeOf3 rfl (tfill_numun_119 ed.a ed.b)) rfl (st' (v := (vN ((getM h.kvs (ed.a, ed.b)).getD 0))) (ex_lookupR keyCl 7 (eV := vN) (kvs := h.kvs) (x := (ed.a, ed.b)) (z0 := 0) (co := false) rfl rfl Tryz.underlying116 Tryz.zeroValue3 rfl (h.ok) (⟨by show ed.a < _; omega, by show ed.b < _; omega⟩)) rfl (st' (ex_gtr (c := (decide (0 < ((getM h.kvs (ed.a, ed.b)).getD 0)))) rfl rfl (ltN (a := 0) (b := (getM h.kvs (ed.a, ed.b)).getD 0))) rfl ?_)))))
  refine OkL.nil (OkQ.subF (sL [1, 4, 9, 10, 11, 5, 7, 22] rfl) (OkQ.then_ ?_))
  refine OkC.cond rfl (fun hc1 => ?_) (fun hc1 => ?_)
  ·replace hc1 := of_decide_eq_true hc1
   refine OkC.region (mv' rfl (ldW' 0 tA44 rfl (OkL.openV (V := fun b3 => (Value.slice (some ⟨b3, 0, none⟩) 1 1)) (T := 44) (cs := e4L ed) (wt_none rfl) (op_buildSlice (z := .agg (e4L (⟨0, 0, 0, 0⟩ : E4)).toArray) (cs := e4L ed) (pv := [(0, (aG (e4L ed)))]) Tryz.underlying40 Tryz.sizeOf44 Tryz.zeroValue44 (by decide) (by decide) rfl (tfs_numun_44_1 ed)) rfl (leB rfl) fun b3 => OkL.appendAt 3 (j := 0) (cs2 := rowsL e4L (out ++ [ed])) tE40 rfl ho (rowsL_length e4L_len _) rfl rfl rfl rfl rfl (by decide) (mxl (by omega)) (by omega) (by rw [rowsL_append]; rfl) rfl fun p_1 c_1 ho_1 hne_1 => asg' rfl ?_)))
   refine OkL.nil (OkQ.subF (sL [1, 4, 9, 10, 11, 5, 7] rfl) (OkQ.in_normal (OkQ.then_ (OkC.region (st' (ex_add (c := ((i + 1 : Nat) : Int)) rfl rfl (addN_i64 (a := i) (b := 1) (by omega))) rfl ?_)))))
   refine mv' rfl (OkL.nil (OkQ.subF (sL [1, 4, 9, 10, 11, 5, 7] rfl) ?_))
   rw [show out.length + 1 = (out ++ [ed]).length by simp]
   exact OkQ.round4 (i + 1) p_1 c_1 (out ++ [ed]) (⟨by omega, (by simpa using ho_1), by rw [hou, hed]; exact (divE_yes hc0 (by rw [← hed]; exact h.gt.1 hc1)).symm⟩) (by omega) (sF rfl) (sl (sl sr))
  ·replace hc1 := of_decide_eq_false hc1
   refine OkC.skip (OkQ.in_normal (OkQ.then_ (OkC.region (st' (ex_add (c := ((i + 1 : Nat) : Int)) rfl rfl (addN_i64 (a := i) (b := 1) (by omega))) rfl (mv' rfl ?_)))))
   exact OkL.nil (OkQ.subF (sL [1, 4, 9, 10, 11, 5, 7] rfl) (OkQ.round4 (i + 1) p1 c1 out (⟨by omega, ho, by rw [hou]; exact (divE_no hc0 (by rw [← hed]; exact fun k => hc1 (h.gt.2 k))).symm⟩) (by omega) (sF rfl) (sl sr)))
 ·replace hc0 := of_decide_eq_false hc0
  refine OkC.exit (OkQ.then_exit (OkQ.round4_exit (OkQ.in_exit (q2 (mv' rfl ?_)))))
  exact ck' Tryz.call111 (clipE_ok p1 out.length c1 ho.row.le) rfl (asg' rfl (OkL.nil (OkQ.subF (sL [1, 4, 9, 10, 11, 5] rfl) (OkQ.then_ (OkC.ret (ret_one rfl (rd_tmp (v := (Value.slice p1 out.length out.length)) rfl) (fun w hw => (retDX h hw 1 (by rw [show i = (edL ts).length by omega] at hou; rw [← hou]; rfl) ho (by rw [hou, show i = (edL ts).length by omega]) rfl))))))))
end
theorem calls_ofT {P : Program} {f : FuncId} {fn : Func} {c : Code} {args : List Value} {w : World} {R : Ending → World → Prop} {n : Nat} {w0 : Base} {L : List As}
    (hf : P.funcs[f]? = some fn) (hb : fn.body = some c) (hn : fn.ntmps = n) (hl : args.length ≤ n) (hW : Own w0 w L)
    (h : OkC P c (bodyPost P fn R) n (slotsOf 0 args) w0 L) : Calls P f args.toArray w R := by
  refine calls_of_wp hf hb ?_
  rw [hn]
  exact h _ _ (frm_start hl _ fun k v hk => by simpa using (lookup_slotsOf args 0 k v hk).2) hW
theorem OkL.callT {P : Program} {ops : Array Oper} {rest : List Oper} {Q : Exit → Act → World → Prop} {n : Nat} {F : List (Nat × Value)} {w0 : Base} {L L2 : List As} {o : Oper} {f : FuncId} {args : List Value} {v : Value} {α : Type} {K : α → Prop} {LO : α → List As} (hw : Wt ops n F o)
    (he : ∀ a w, Frm n a F → Own w0 w L → (execOp a.eval o).run P w = .ok (.enter f args.toArray) w) (hp : L.Perm L2)
    (hc : ∀ w, Own w0 w L2 → Calls P f args.toArray w fun e w' => e = .returned v ∧ ∃ a : α, K a ∧ Own w0 w' (LO a))
    (hd : ∀ d, o.dst = some d → d < n) (next : ∀ a, K a → OkL P ops rest Q n (match o.dst with | some d => (d, v) :: F | none => F) w0 (LO a)) : OkL P ops (o :: rest) Q n F w0 L := fun a w ha hW => by
  unfold wpList
  rw [if_pos (hw a ha)]
  left
  unfold Oper.wp
  rw [he a w ha hW, Oper.upon_enter]
  refine (hc w (hW.perm hp)).mono ?_
  rintro e w' ⟨rfl, x, hk, hW'⟩
  have next := next x hk
  cases hdst : o.dst with
  | none => rw [hdst] at next; exact next _ _ ha.put_none hW'
  | some d => rw [hdst] at next; exact next _ _ (ha.put (hd d hdst)) hW'
theorem filterMap_some {α : Type} : ∀ l : List α, (l.map some).filterMap id = l
  | [] => rfl
  | x :: r => by show x :: (r.map some).filterMap id = x :: r; rw [filterMap_some r]
theorem perm_idx {α : Type} {L L' : List α} (idx : List Nat) (h1 : idx.Perm (List.range L.length)) (h2 : (idx.map fun i => L[i]?) = L'.map some) : L.Perm L' := by
  have h3 : ((List.range L.length).map fun i => L[i]?) = L.map some := by
    refine List.ext_getElem (by simp) fun j a b => ?_
    simp at a
    simp [a]
  have h4 := (h1.map fun i => L[i]?)
  rw [h2, h3] at h4
  have h5 := h4.filterMap id
  rw [filterMap_some, filterMap_some] at h5
  exact h5.symm
def hvT (md : List (P2 × Nat)) : Nat → T3 → List T3
  | 0, c => [c]
  | d + 1, c => match getM md (baseK c) with
    | none => [c]
    | some n => hvT md d (n, c.1, c.2.1) ++ hvT md d (n, c.2.2, c.1)
theorem hvT_len (md : List (P2 × Nat)) : ∀ d c, (hvT md d c).length ≤ 2 ^ d
  | 0, c => Nat.le_refl _
  | d + 1, c => by
    unfold hvT
    split
    · exact Nat.one_le_two_pow
    · rename_i n _
      rw [List.length_append, Nat.pow_succ]
      have h1 := hvT_len md d (n, c.1, c.2.1)
      have h2 := hvT_len md d (n, c.2.2, c.1)
      omega
def rpN (n p : Nat) : List Nat := List.replicate n p
theorem rpN_add (a b p : Nat) : rpN (a + b) p = rpN a p ++ rpN b p := List.replicate_append_replicate.symm
theorem hvT_no {md : List (P2 × Nat)} {d : Nat} {c : T3} (h : getM md (baseK c) = none) : hvT md d c = [c] := by
  cases d with
  | zero => rfl
  | succ d => show (match getM md (baseK c) with | none => _ | some n => _) = _; rw [h]
theorem hvT_yes {md : List (P2 × Nat)} {d n : Nat} {c : T3} (h : getM md (baseK c) = some n) : hvT md (d + 1) c = hvT md d (n, c.1, c.2.1) ++ hvT md d (n, c.2.2, c.1) := by
  show (match getM md (baseK c) with | none => _ | some n => _) = _; rw [h]
structure HvO where
  pa : Option Addr
  ca : Nat
  pp : Option Addr
  cp : Nat
structure HvB where
  b : Nat
  bm : Nat
  ba : Nat
  bp : Nat
  bf : Nat
section
def OkG (P : Program) (ops : Array Oper) (Q : Exit → Act → World → Prop) (n : Nat) (w0 : Base) (Lro : List As) (K : List (Nat × Value) → List As → Prop) (q : Nat) : List (Nat × Bool) → List (Nat × Value) → List As → Prop
  | [], F, L => ∃ o, ops[q]? = some o ∧ OkL P ops [o] (PE Q n w0 Lro fun F' L' => OkF P ops Q n w0 Lro K [] F' L') n F w0 L
  | (i, true) :: r, F, L => ∃ o d v, ops[i]? = some o ∧ o.dst = some d ∧ d < n ∧ Pas P ops n w0 Lro F o v ∧ OkG P ops Q n w0 Lro K q r ((d, v) :: F) L
  | (i, false) :: r, F, L => (∃ o, ops[q]? = some o ∧ OkL P ops [o] (PE Q n w0 Lro fun F' L' => OkF P ops Q n w0 Lro K ((i, false) :: r) F' L') n F w0 L) ∧
      ∃ o, ops[i]? = some o ∧ (hasEdge o q = true ∨ OkL P ops [o] (PE Q n w0 Lro fun F' L' => OkG P ops Q n w0 Lro K q r F' L') n F w0 L)
def chkQ (l : List Oper) (q : Nat) : List (Nat × Bool) → List Nat → Bool
  | [], D => match l[q]? with | some o => o.after.all fun e => !Region.binds .any e || D.contains e.on | none => false
  | (i, true) :: r, D => (match l[i]? with | some o => !hasEdge o q | none => false) && chkQ l q r (i :: D)
  | (i, false) :: r, D => (r.all fun e => !e.2) && (match l[q]? with | some o => o.after.all fun e => !Region.binds .any e || D.contains e.on | none => false) && chkQ l q r (i :: D)
section
variable {P : Program} {ops : Array Oper} {Q : Exit → Act → World → Prop} {n : Nat} {w0 : Base} {LA LB L L' : List As} {F F' : List (Nat × Value)} {l : List Oper} {e2 : List (Nat × Bool)} {k q : Nat}
theorem noEdge {o : Oper} (h : hasEdge o q = false) : ∀ e ∈ o.after, Region.binds .any e = true → e.on ≠ q := fun e he hb hq => by
  have : hasEdge o q = true := by
    unfold hasEdge
    rw [List.any_eq_true]
    exact ⟨e, by simpa using he, by rw [Bool.and_eq_true]; exact ⟨hb, by simpa using hq⟩⟩
  rw [h] at this; cases this
theorem bef_listed {listed : Array Bool} (hcl : ClosedL l.toArray listed) : ∀ (f k i : Nat), before l f k i = true → listed.getD k false = true → listed.getD i false = true
  | 0, _, _, h, _ => by cases h
  | f + 1, k, i, h, hk => by
    unfold before at h
    cases ho : l[k]? with
    | none => rw [ho] at h; cases h
    | some o =>
      rw [ho] at h
      simp only [Bool.or_eq_true, List.any_eq_true, Bool.and_eq_true] at h
      have st : ∀ m, hasEdge o m = true → listed.getD m false = true := fun m hm => by
        obtain ⟨e, he, hb, rfl⟩ := hasEdge_spec hm
        exact hcl k o hk (by simpa using ho) e he hb
      rcases h with h | ⟨m, _, h1, h2⟩
      · exact st i h
      · exact bef_listed hcl f m i h2 (st m h1)
theorem ready_bef {listed : Array Bool} (hcl : ClosedL l.toArray listed) {f j i : Nat} (hb : before l (f + 1) j i = true) (hj : j ∈ Region.ready .any l.toArray listed) : listed.getD i false = true := by
  obtain ⟨_, oj, hoj, hpre⟩ := mem_ready.1 hj
  have hoj' : l[j]? = some oj := by simpa using hoj
  unfold before at hb
  rw [hoj'] at hb
  simp only [Bool.or_eq_true, List.any_eq_true, Bool.and_eq_true] at hb
  have st : ∀ m, hasEdge oj m = true → listed.getD m false = true := fun m hm => by
    obtain ⟨e, he, hb, rfl⟩ := hasEdge_spec hm
    exact hpre e he hb
  rcases hb with h | ⟨m, _, h1, h2⟩
  · exact st i h
  · exact bef_listed hcl f m i h2 (st m h1)
theorem qpre {D : List Nat} (h : (match l[q]? with | some o => o.after.all fun e => !Region.binds .any e || D.contains e.on | none => false) = true) : ∃ o, l[q]? = some o ∧ ∀ e ∈ o.after, Region.binds .any e = true → e.on ∈ D := by
  cases ho : l[q]? with
  | none => rw [ho] at h; cases h
  | some o =>
    rw [ho] at h
    refine ⟨o, rfl, fun e he hb => ?_⟩
    have h1 := Array.all_eq_true_iff_forall_mem.1 h e he
    rw [hb] at h1
    simpa using h1
theorem walk_cutQ (hsel : Region.noSelect l.toArray = true) (hQ : ∀ c a d v w, Q (.panic c) (a.put d v) w → Q (.panic c) a w) (hAB : LB.Sublist LA) {ok : Oper} (hok : l[k]? = some ok) (hkq : k ≠ q) (hkeq : before l 5 k q = true) :
    ∀ (es : List (Nat × Bool)) (D DQ : List Nat) (p : Option Nat) (listed : Array Bool) (a : Act) (w : World) (F : List (Nat × Value)) (L : List As),
      (∀ x, x ∈ DQ ↔ x = q ∨ x ∈ D) → q ∉ D → chkQ l q es D = true →
      (es.all fun e => !e.2 || before l 4 k e.1) = true → k ∉ DQ → chkGo l DQ p (es ++ (k, false) :: e2) = true → Lst l D listed → (∀ i, i < l.length → i ∈ DQ ∨ (es ++ (k, false) :: e2).any (fun e => e.1 == i) = true) → Wk LA L → Frm n a F → Own w0 w L → OkG P l.toArray Q n w0 LA (OkCut P l.toArray Q n w0 LB k e2) q es F L →
      wpAnyS P l.toArray Q (fun listed w => Own w0 w (if listed.getD k false = true then LB else LA)) (es.length + e2.length + 1 + 1) listed a w := by
  have nxt : ∀ (i : Nat) (b : Bool) (r : List (Nat × Bool)) (D : List Nat), (∀ j, j < l.length → j ∈ D ∨ ((i, b) :: r).any (fun e => e.1 == j) = true) → ∀ j, j < l.length → j ∈ i :: D ∨ r.any (fun e => e.1 == j) = true := fun i b r D hall j hj => by
    rcases hall j hj with h1 | h1
    · exact .inl (List.mem_cons_of_mem _ h1)
    · simp only [List.any_cons, Bool.or_eq_true, beq_iff_eq] at h1
      rcases h1 with h1 | h1
      · exact .inl (h1 ▸ List.mem_cons_self)
      · exact .inr h1
  -- the floating one comes now
  have doQ : ∀ (es : List (Nat × Bool)) (D DQ : List Nat) (p : Option Nat) (listed : Array Bool) (a : Act) (w : World) (F : List (Nat × Value)) (L : List As) (oq : Oper), l[q]? = some oq → (∀ e ∈ oq.after, Region.binds .any e = true → e.on ∈ D) → (∀ x, x ∈ DQ ↔ x = q ∨ x ∈ D) → q ∉ D →
      (es.all fun e => !e.2 || hasEdge ok e.1) = true → k ∉ DQ → chkGo l DQ p (es ++ (k, false) :: e2) = true → Lst l D listed → (∀ i, i < l.length → i ∈ DQ ∨ (es ++ (k, false) :: e2).any (fun e => e.1 == i) = true) → Frm n a F → Own w0 w L →
      OkL P l.toArray [oq] (PE Q n w0 LA fun F' L' => OkF P l.toArray Q n w0 LA (OkCut P l.toArray Q n w0 LB k e2) es F' L') n F w0 L →
      q ∈ Region.ready .any l.toArray listed ∧ wpOp P l.toArray Q q (fun a' w' => Own w0 w' (if (listed.setIfInBounds q true).getD k false = true then LB else LA) ∧ wpAnyS P l.toArray Q (fun listed w => Own w0 w (if listed.getD k false = true then LB else LA)) (es.length + e2.length + 1) (listed.setIfInBounds q true) a' w') a w := fun es D DQ p listed a w F L oq hoq hpq hDQ hqD hE hkD hc hL hall ha hw h => by
    have hat : l.toArray[q]? = some oq := by simpa using hoq
    have hql : q < l.length := (List.getElem?_eq_some_iff.1 hoq).1
    have hp : ∀ e ∈ oq.after, Region.binds .any e = true → listed.getD e.on false = true := fun e he hb => (hL.mem _).1 (hpq e he hb)
    refine ⟨mem_ready.2 ⟨by rw [getD_tf (by rw [hL.size]; exact hql)]; exact hL.no hqD, oq, hat, hp⟩, ?_⟩
    have hL2 := (hL.add hoq hp).congr (D2 := DQ) (fun x => by rw [hDQ, List.mem_cons])
    refine wpOp_of hat (h a w ha hw) fun F' L' a' w' h1 h2 h3 h4 => ⟨by rw [if_neg (by rw [hL2.no hkD]; exact Bool.false_ne_true)]; exact h3 _ _ h2, ?_⟩
    exact walk_cut hsel hQ hAB hok es DQ p _ a' w' F' L' hE hkD hc hL2 hall h3 h1 h2 h4
  intro es
  induction es with
  | nil =>
    intro D DQ p listed a w F L hDQ hqD hcq hE hkD hc hL hall hro ha hw h
    obtain ⟨o', ho', h⟩ := h
    obtain ⟨oq, hoq, hpq⟩ := qpre hcq
    rw [show l.toArray[q]? = some oq by simpa using hoq] at ho'; injection ho' with ho'; subst ho'
    obtain ⟨hrd, hdo⟩ := doQ [] D DQ p listed a w F L oq hoq hpq hDQ hqD rfl hkD hc hL hall ha hw h
    refine ⟨fun h0 => absurd hrd (by rw [h0]; exact List.not_mem_nil), fun j hj => ?_⟩
    have hjq : j = q := by
      simp only [List.nil_append] at hc hall
      obtain ⟨o, hg⟩ := chkGo_hd hc
      obtain ⟨h0, oj, hoj, hpre⟩ := mem_ready.1 hj
      have hjl : j < l.length := by simpa using (Array.getElem?_eq_some_iff.1 hoj).1
      rw [getD_tf (by rw [hL.size]; exact hjl)] at h0
      rcases hall j hjl with h1 | h1
      · rcases (hDQ j).1 h1 with h1 | h1
        · exact h1
        · rw [(hL.mem j).1 h1] at h0; cases h0
      · obtain ⟨e, he, rfl⟩ := any_mem h1
        rcases List.mem_cons.1 he with rfl | he
        · have := ready_bef (fun j oj hj ho e he hb => hL.cl j oj hj (by simpa using ho) e he hb) hkeq hj
          rw [hL.no hqD] at this; cases this
        · exact absurd hj (notReady hL.cl hg.tl (hL.no fun hd => hg.nin ((hDQ _).2 (.inr hd))) (fun e he => hL.no fun hd => (chkGo_out hg.tl e he).1 (List.mem_cons_of_mem _ ((hDQ _).2 (.inr hd)))) e he)
    subst hjq
    exact hdo
  | cons e r ih =>
    intro D DQ p listed a w F L hDQ hqD hcq hE hkD hc hL hall hro ha hw h
    obtain ⟨i, b⟩ := e
    have hc0 := hc
    have hall0 := hall
    rw [List.cons_append] at hc hall
    obtain ⟨o, hg⟩ := chkGo_hd hc
    have hat : l.toArray[i]? = some o := by simpa using hg.at_
    have hil : i < l.length := (List.getElem?_eq_some_iff.1 hg.at_).1
    have hiq : i ≠ q := fun e => hg.nin ((hDQ i).2 (.inl e))
    have hiD : i ∉ D := fun h => hg.nin ((hDQ i).2 (.inr h))
    have hki : k ≠ i := fun e => (chkGo_out hg.tl (k, false) (List.mem_append_right _ List.mem_cons_self)).1 (e ▸ List.mem_cons_self)
    have hkD' : k ∉ i :: DQ := fun h => (List.mem_cons.1 h).elim hki hkD
    have hE' : (r.all fun e => !e.2 || before l 4 k e.1) = true := by rw [List.all_cons, Bool.and_eq_true] at hE; exact hE.2
    have hDQ' : ∀ x, x ∈ i :: DQ ↔ x = q ∨ x ∈ i :: D := fun x => by rw [List.mem_cons, List.mem_cons, hDQ]; constructor <;> (rintro (h | h | h) <;> simp [h])
    have hqD' : q ∉ i :: D := fun h => (List.mem_cons.1 h).elim (fun e => hiq e.symm) hqD
    have hkDD : k ∉ D := fun h => hkD ((hDQ k).2 (.inr h))
    have hnk : listed.getD k false = false := hL.no hkDD
    rw [show ((i, b) :: r).length + e2.length + 1 + 1 = r.length + e2.length + 1 + 1 + 1 by simp only [List.length_cons]; omega]
    cases b with
    | true =>
      have hcq : ((match l[i]? with | some o => !hasEdge o q | none => false) && chkQ l q r (i :: D)) = true := hcq
      rw [hg.at_, Bool.and_eq_true] at hcq
      have hnq := noEdge (q := q) (by simpa using hcq.1)
      have hp : ∀ e ∈ o.after, Region.binds .any e = true → listed.getD e.on false = true := fun e he hb => (hL.mem _).1 (((hDQ _).1 (hg.pre e he hb)).resolve_left (hnq e he hb))
      have hrd : i ∈ Region.ready .any l.toArray listed := mem_ready.2 ⟨by rw [getD_tf (by rw [hL.size]; exact hil)]; exact hL.no hiD, o, hat, hp⟩
      obtain ⟨o', d, v, ho', hd, hdn, hy, hn⟩ := h
      rw [hat] at ho'; injection ho' with ho'; subst ho'
      have hyield : YieldsIf P l.toArray (fun w => Own w0 w LA) o v a := by
        rcases hy with ⟨h1, h2⟩ | ⟨h1, h2⟩
        · exact .inl ⟨h1 a ha, fun w hW => h2 a w ha hW⟩
        · exact .inr ⟨h1 a ha, h2⟩
      have hedge : before l 4 k i = true := by
        rw [List.all_cons, Bool.and_eq_true] at hE
        simpa using hE.1
      refine wpAnyS_first hat (Region.noSelect_spec hsel) (fun c a w => hQ' hQ c a o.dst v w) (T := fun w => Own w0 w LA) (fun l' w hcl hr hS => ?_) (fun l' w => ?_) _ listed a w (hfree_of hL hg.at_ (hg.fr rfl) hp) hrd hyield ?_ (fun j oj hj ho e he hb => hL.cl j oj hj (by simpa using ho) e he hb) ?_
      · have hkf : ¬ l'.getD k false = true := fun hk => by
          have h1 := bef_listed hcl 4 k i hedge hk
          obtain ⟨h0, _⟩ := mem_ready.1 hr
          rcases Nat.lt_or_ge i l'.size with h5 | h5
          · rw [getD_tf h5] at h0; rw [h0] at h1; cases h1
          · simp [Array.getElem?_eq_none h5] at h1
        have hS : Own w0 w (if l'.getD k false = true then LB else LA) := hS
        rw [if_neg hkf] at hS; exact hS
      · show Own _ _ (ite _ _ _) ↔ Own _ _ (ite _ _ _); rw [getD_set_ne false (Ne.symm hki)]
      · show Own _ _ (ite _ _ _); rw [if_neg (by rw [hnk]; exact Bool.false_ne_true)]; exact hro _ _ hw
      · exact ih (i :: D) (i :: DQ) p _ _ w ((d, v) :: F) L hDQ' hqD' hcq.2 hE' hkD' hg.tl (hL.add hg.at_ hp) (nxt i true _ DQ hall) hro (by rw [hd]; exact ha.put hdn) hw hn
    | false =>
      have hcq : ((r.all fun e => !e.2) && (match l[q]? with | some o => o.after.all fun e => !Region.binds .any e || D.contains e.on | none => false) && chkQ l q r (i :: D)) = true := hcq
      rw [Bool.and_eq_true, Bool.and_eq_true] at hcq
      obtain ⟨oq, hoq, hpq⟩ := qpre hcq.1.2
      have hEi : (((i, false) :: r).all fun e => !e.2 || hasEdge ok e.1) = true := by
        rw [List.all_cons, Bool.and_eq_true]
        exact ⟨rfl, List.all_eq_true.2 fun e he => by rw [List.all_eq_true.1 hcq.1.1 e he]; rfl⟩
      obtain ⟨⟨o1, ho1, hA⟩, ⟨o', ho', hB⟩⟩ := h
      rw [show l.toArray[q]? = some oq by simpa using hoq] at ho1; injection ho1 with ho1; subst ho1
      rw [hat] at ho'; injection ho' with ho'; subst ho'
      obtain ⟨hrd, hdo⟩ := doQ ((i, false) :: r) D DQ p listed a w F L oq hoq hpq hDQ hqD hEi hkD hc0 hL hall0 ha hw hA
      refine ⟨fun h0 => absurd hrd (by rw [h0]; exact List.not_mem_nil), fun j hj => ?_⟩
      obtain ⟨h0, oj, hoj, hpre⟩ := mem_ready.1 hj
      have hjl : j < l.length := by simpa using (Array.getElem?_eq_some_iff.1 hoj).1
      rw [getD_tf (by rw [hL.size]; exact hjl)] at h0
      rcases hall j hjl with h1 | h1
      · rcases (hDQ j).1 h1 with h1 | h1
        · subst h1
          rw [show ((i, false) :: r).length + e2.length + 1 = r.length + e2.length + 1 + 1 by simp only [List.length_cons]; omega] at hdo
          exact hdo
        · rw [(hL.mem j).1 h1] at h0; cases h0
      · obtain ⟨e, he, rfl⟩ := any_mem h1
        rcases List.mem_cons.1 he with rfl | he
        · rw [hat] at hoj; injection hoj with hoj; subst hoj
          rcases hB with hB | hB
          · obtain ⟨e, he, hb, hq⟩ := hasEdge_spec hB
            have := hpre e he hb
            rw [hq, hL.no hqD] at this; cases this
          · have hp : ∀ e ∈ o.after, Region.binds .any e = true → listed.getD e.on false = true := hpre
            have hL2 := hL.add hg.at_ hp
            refine wpOp_of hat (hB a w ha hw) fun F' L' a' w' h1 h2 h3 h4 => ⟨by show Own _ _ (ite _ _ _); rw [if_neg (by rw [hL2.no (fun h => (List.mem_cons.1 h).elim hki hkDD)]; exact Bool.false_ne_true)]; exact h3 _ _ h2, ?_⟩
            exact ih (i :: D) (i :: DQ) (some i) _ a' w' F' L' hDQ' hqD' hcq.2 hE' hkD' hg.tl hL2 (nxt i false _ DQ hall) h3 h1 h2 h4
        · exact absurd hj (notReady hL.cl hg.tl (hL.no hiD) (fun e he => hL.no fun hd => (chkGo_out hg.tl e he).1 (List.mem_cons_of_mem _ ((hDQ _).2 (.inr hd)))) e he)
theorem wpAnyS_firstR {S : Array Bool → World → Prop} {T : World → Prop} {i : Nat} {oi : Oper} {v : Value} (hi : ops[i]? = some oi) (hsel : ∀ (j : Nat) (o : Oper) cs b, ops[j]? = some o → o.op ≠ .select cs b) (hQ : ∀ c a w, Q (.panic c) (a.put oi.dst v) w → Q (.panic c) a w)
    (hT : ∀ listed w, ClosedL ops listed → i ∈ Region.ready .any ops listed → S listed w → T w) (hS : ∀ listed w, S (listed.setIfInBounds i true) w ↔ S listed w)
    (hfree : ∀ (listed : Array Bool) (j : Nat) (oj : Oper), ClosedL ops listed → i ∈ Region.ready .any ops listed → j ∈ Region.ready .any ops listed → j ≠ i → ops[j]? = some oj → oi.apart ops oj = true) :
    ∀ (fuel : Nat) (listed : Array Bool) (a : Act) (w : World),
      i ∈ Region.ready .any ops listed → YieldsIf P ops T oi v a → S listed w → ClosedL ops listed →
      wpAnyS P ops Q S fuel (listed.setIfInBounds i true) (a.put oi.dst v) w → wpAnyS P ops Q S (fuel + 1) listed a w := by
  intro fuel
  induction fuel with
  | zero =>
    intro listed a w hr hy hw hcl H
    refine ⟨fun h => (by rw [h] at hr; cases hr), fun j hj => ?_⟩
    by_cases hji : j = i
    · subst hji; exact hy.wpOp hi (hT listed w hcl hr hw) ⟨(hS _ _).2 hw, H⟩
    · have := ready_mono hj hji
      rw [H.1] at this
      cases this
  | succ fuel ih =>
    intro listed a w hr hy hw hcl H
    refine ⟨fun h => (by rw [h] at hr; cases hr), fun j hj => ?_⟩
    by_cases hji : j = i
    · subst hji; exact hy.wpOp hi (hT listed w hcl hr hw) ⟨(hS _ _).2 hw, H⟩
    · have h1 := H.2 j (ready_mono hj hji)
      obtain ⟨hjun, oj, hoj, hall⟩ := mem_ready.1 hj
      have h2 := wpOp_putIf hoj (hfree listed j oj hcl hr hj hji hoj) (fun cs b => hsel i oi cs b hi) (fun cs b => hsel j oj cs b hoj) hQ hy h1
      refine wpOp_mono (fun a' w' h3 => ?_) h2
      obtain ⟨h4, h5, h6⟩ := h3
      rw [Array.setIfInBounds_comm _ _ (Ne.symm hji)] at h5 h6
      have h7 := (hS _ _).1 h5
      exact ⟨h7, ih (listed.setIfInBounds j true) a' w' (ready_mono hr (Ne.symm hji)) h4 h7 (hcl.set hj) h6⟩
def freeP (l : List Oper) (i : Nat) (o : Oper) : Bool := (List.range l.length).all fun j => j == i || match l[j]? with
  | some oj => hasEdge o j || before l 5 j i || o.apart l.toArray oj
  | none => true
def chkP (l : List Oper) (q k : Nat) : List Nat → List Nat → Bool
  | [], _ => true
  | i :: r, D => (match l[i]? with | some o => (o.after.all fun e => !Region.binds .any e || D.contains e.on) && freeP l i o | none => false) && !D.contains i && !Nat.beq i q && !Nat.beq i k && before l 4 k i && chkP l q k r (i :: D)
theorem ready_un {listed : Array Bool} {i : Nat} (h : i ∈ Region.ready .any l.toArray listed) : listed.getD i false = false := by
  obtain ⟨h0, _⟩ := mem_ready.1 h
  rcases Nat.lt_or_ge i listed.size with h5 | h5
  · rw [getD_tf h5] at h0; exact h0
  · simp [Array.getElem?_eq_none h5]
def OkP (P : Program) (ops : Array Oper) (n : Nat) (w0 : Base) (LA : List As) (K : List (Nat × Value) → List As → Prop) : List Nat → List (Nat × Value) → List As → Prop
  | [], F, L => K F L
  | i :: r, F, L => ∃ o d v, ops[i]? = some o ∧ o.dst = some d ∧ d < n ∧ Pas P ops n w0 LA F o v ∧ OkP P ops n w0 LA K r ((d, v) :: F) L
theorem walk_P (hsel : Region.noSelect l.toArray = true) (hQ : ∀ c a d v w, Q (.panic c) (a.put d v) w → Q (.panic c) a w) {K : List (Nat × Value) → List As → Prop} {m : Nat} {Dend : List Nat}
    (hK : ∀ (D : List Nat) (listed : Array Bool) (a : Act) (w : World) (F : List (Nat × Value)) (L : List As), D = Dend → Lst l D listed → Wk LA L → Frm n a F → Own w0 w L → K F L → wpAnyS P l.toArray Q (fun listed w => Own w0 w (if listed.getD k false = true then LB else LA)) m listed a w) :
    ∀ (e0 D : List Nat) (listed : Array Bool) (a : Act) (w : World) (F : List (Nat × Value)) (L : List As), Dend = e0.reverse ++ D → chkP l q k e0 D = true → k ∉ D → Lst l D listed → Wk LA L → Frm n a F → Own w0 w L → OkP P l.toArray n w0 LA K e0 F L →
      wpAnyS P l.toArray Q (fun listed w => Own w0 w (if listed.getD k false = true then LB else LA)) (e0.length + m) listed a w
  | [], D, listed, a, w, F, L, hD, hc, hk, hL, hro, ha, hw, h => by
    rw [List.length_nil, Nat.zero_add]
    exact hK D listed a w F L hD.symm hL hro ha hw h
  | i :: r, D, listed, a, w, F, L, hD, hc, hkD, hL, hro, ha, hw, h => by
    obtain ⟨o, d, v, ho, hd, hdn, hy, hn⟩ := h
    have hol : l[i]? = some o := by simpa using ho
    unfold chkP at hc
    rw [hol] at hc
    simp only [Bool.and_eq_true, Bool.not_eq_true'] at hc
    obtain ⟨⟨⟨⟨⟨⟨h1, h2⟩, h3⟩, h4⟩, h5⟩, h6⟩, h7⟩ := hc
    have hil : i < l.length := (List.getElem?_eq_some_iff.1 hol).1
    have hiD : i ∉ D := fun hm => by rw [List.contains_iff_mem.2 hm] at h3; cases h3
    have hki : k ≠ i := fun e => by rw [e] at h5; simp at h5
    have hp : ∀ e ∈ o.after, Region.binds .any e = true → listed.getD e.on false = true := fun e he hb => (hL.mem _).1 (by
      have h8 := Array.all_eq_true_iff_forall_mem.1 h1 e he
      rw [hb] at h8
      simpa using h8)
    have hrd : i ∈ Region.ready .any l.toArray listed := mem_ready.2 ⟨by rw [getD_tf (by rw [hL.size]; exact hil)]; exact hL.no hiD, o, ho, hp⟩
    have hyield : YieldsIf P l.toArray (fun w => Own w0 w LA) o v a := by
      rcases hy with ⟨h1, h2⟩ | ⟨h1, h2⟩
      · exact .inl ⟨h1 a ha, fun w hW => h2 a w ha hW⟩
      · exact .inr ⟨h1 a ha, h2⟩
    have hnk : listed.getD k false = false := hL.no hkD
    rw [show (i :: r).length + m = r.length + m + 1 by simp only [List.length_cons]; omega]
    refine wpAnyS_firstR ho (Region.noSelect_spec hsel) (fun c a w => hQ' hQ c a o.dst v w) (T := fun w => Own w0 w LA) (fun l' w hcl hr hS => ?_) (fun l' w => ?_) (fun l' j oj hcl hr hj hji hoj => ?_) _ listed a w hrd hyield ?_ (fun j oj hj ho e he hb => hL.cl j oj hj (by simpa using ho) e he hb) ?_
    · have hkf : ¬ l'.getD k false = true := fun hk => by
        have h9 := bef_listed hcl 4 k i h6 hk
        rw [ready_un hr] at h9; cases h9
      have hS : Own w0 w (if l'.getD k false = true then LB else LA) := hS
      rw [if_neg hkf] at hS; exact hS
    · show Own _ _ (ite _ _ _) ↔ Own _ _ (ite _ _ _); rw [getD_set_ne false (Ne.symm hki)]
    · have hjl : j < l.length := by simpa using (Array.getElem?_eq_some_iff.1 hoj).1
      have h8 := List.all_eq_true.1 h2 j (List.mem_range.2 hjl)
      rw [show l[j]? = some oj by simpa using hoj] at h8
      simp only [Bool.or_eq_true, beq_iff_eq] at h8
      rcases h8 with h8 | (h8 | h8) | h8
      · exact absurd h8 hji
      · obtain ⟨e, he, hb, rfl⟩ := hasEdge_spec h8
        obtain ⟨_, o2, ho2, hpre⟩ := mem_ready.1 hr
        rw [ho] at ho2; injection ho2 with ho2; subst ho2
        have := hpre e he hb
        rw [ready_un hj] at this; cases this
      · have := ready_bef hcl h8 hj
        rw [ready_un hr] at this; cases this
      · exact h8
    · show Own _ _ (ite _ _ _); rw [if_neg (by rw [hnk]; exact Bool.false_ne_true)]; exact hro _ _ hw
    · exact walk_P hsel hQ hK r (i :: D) _ _ w ((d, v) :: F) L (by rw [hD, List.reverse_cons, List.append_assoc]; rfl) h7 (fun h => (List.mem_cons.1 h).elim hki hkD) (hL.add hol hp) hro (by rw [hd]; exact ha.put hdn) hw hn
def chkCutP (l : List Oper) (q : Nat) (e0 : List Nat) (e1 : List (Nat × Bool)) (k : Nat) (e2 : List (Nat × Bool)) : Bool :=
  chkP l q k e0 [] && chkGo l (q :: e0.reverse) none (e1 ++ (k, false) :: e2) && chkQ l q e1 e0.reverse && chkAll l (q :: e0.reverse) (e1 ++ (k, false) :: e2) && Nat.beq (e0.length + e1.length + e2.length + 2) l.length && Region.noSelect l.toArray && (match l[k]? with | some o => before l 5 k q && e1.all fun e => !e.2 || before l 4 k e.1 | none => false) && !(q :: e0.reverse).contains k && !e0.reverse.contains q
theorem rCP {id : Nat} (q : Nat) (e0 : List Nat) (e1 : List (Nat × Bool)) (k : Nat) (e2 : List (Nat × Bool)) (hA : LA.Sublist L) (hAB : LB.Sublist LA) (hc : chkCutP l q e0 e1 k e2 = true) (hQ : ∀ c a d v w, Q (.panic c) (a.put d v) w → Q (.panic c) a w)
    (h : OkP Tryz.prog l.toArray n w0 LA (fun F L => OkG Tryz.prog l.toArray Q n w0 LA (OkCut Tryz.prog l.toArray Q n w0 LB k e2) q e1 F L) e0 F L) : OkC Tryz.prog (.region id l.toArray true) Q n F w0 L := fun a w ha hw => by
  simp only [chkCutP, Bool.and_eq_true] at hc
  obtain ⟨⟨⟨⟨⟨⟨⟨⟨h0, h1⟩, h2⟩, h3⟩, h4⟩, h5⟩, h6⟩, h7⟩, h8⟩ := hc
  have hlen := Nat.eq_of_beq_eq_true h4
  cases hok : l[k]? with
  | none => simp [hok] at h6
  | some ok =>
    simp only [hok, Bool.and_eq_true] at h6
    have hkD : k ∉ q :: e0.reverse := fun h => by rw [List.contains_iff_mem.2 h] at h7; cases h7
    have hqD : q ∉ e0.reverse := fun h => by rw [List.contains_iff_mem.2 h] at h8; cases h8
    have hkq : k ≠ q := fun e => hkD (e ▸ List.mem_cons_self)
    refine wp_region_any follows_mixed (wpAny_of_S (S := fun listed w => Own w0 w (if listed.getD k false = true then LB else LA)) _ _ _ _ ?_)
    rw [show l.toArray.size = e0.length + (e1.length + e2.length + 1 + 1) by rw [show e0.length + (e1.length + e2.length + 1 + 1) = l.length by omega]; simp]
    have hst := lst_start (l := l)
    rw [show l.length = e0.length + (e1.length + e2.length + 1 + 1) by omega] at hst
    refine walk_P (q := q) (Dend := e0.reverse) h5 hQ (fun D listed a w F L hD hL hro ha hw h => ?_) e0 [] _ a w.drew F L (by simp) h0 (by simp) hst (Wk.of hA) ha hw.drew h
    subst hD
    refine walk_cutQ h5 hQ hAB hok hkq h6.1 e1 _ (q :: e0.reverse) none _ a w F L (fun x => List.mem_cons) hqD h2 h6.2 hkD h1 hL (fun i hi => ?_) hro ha hw h
    have := List.all_eq_true.1 h3 i (List.mem_range.2 hi)
    simpa using this
theorem OkP.pas {K2 : List (Nat × Value) → List As → Prop} {r : List Nat} {i d : Nat} {v : Value} {o : Oper} (ho : ops[i]? = some o) (hw : Wt ops n F o) (he : Ex P n F w0 LA o v) (hd : o.dst = some d) (hn : Nat.ble (d + 1) n = true) (next : OkP P ops n w0 LA K2 r ((d, v) :: F) L) : OkP P ops n w0 LA K2 (i :: r) F L := ⟨o, d, v, ho, hd, Nat.le_of_ble_eq_true hn, .inl ⟨hw, he⟩, next⟩
theorem OkP.nil {K2 : List (Nat × Value) → List As → Prop} (h : K2 F L) : OkP P ops n w0 LA K2 [] F L := h
variable {r : List (Nat × Bool)} {i d : Nat} {v : Value} {o oq : Oper} {K : List (Nat × Value) → List As → Prop}
theorem OkG.pas (ho : ops[i]? = some o) (hw : Wt ops n F o) (he : Ex P n F w0 LA o v) (hd : o.dst = some d) (hn : Nat.ble (d + 1) n = true) (next : OkG P ops Q n w0 LA K q r ((d, v) :: F) L) : OkG P ops Q n w0 LA K q ((i, true) :: r) F L := ⟨o, d, v, ho, hd, Nat.le_of_ble_eq_true hn, .inl ⟨hw, he⟩, next⟩
theorem OkG.two (hoq : ops[q]? = some oq) (ho : ops[i]? = some o) (hq : OkL P ops [oq] (PE Q n w0 LA fun F' L' => OkF P ops Q n w0 LA K ((i, false) :: r) F' L') n F w0 L) (h : OkL P ops [o] (PE Q n w0 LA fun F' L' => OkG P ops Q n w0 LA K q r F' L') n F w0 L) : OkG P ops Q n w0 LA K q ((i, false) :: r) F L := ⟨⟨oq, hoq, hq⟩, o, ho, .inr h⟩
theorem OkG.one (hoq : ops[q]? = some oq) (ho : ops[i]? = some o) (he : hasEdge o q = true) (hq : OkL P ops [oq] (PE Q n w0 LA fun F' L' => OkF P ops Q n w0 LA K ((i, false) :: r) F' L') n F w0 L) : OkG P ops Q n w0 LA K q ((i, false) :: r) F L := ⟨⟨oq, hoq, hq⟩, o, ho, .inl he⟩
theorem OkG.back (hro : LA.Sublist L') (h : OkG P ops Q n w0 LA K q r F' L') : OkL P ops [] (PE Q n w0 LA fun F' L' => OkG P ops Q n w0 LA K q r F' L') n F' w0 L' := OkL.nil fun a w ha hw => ⟨F', L', ha, hw, Wk.of hro, h⟩
end
end
end Go.Proofs.YtgiacpkjnikjdaaGreat
