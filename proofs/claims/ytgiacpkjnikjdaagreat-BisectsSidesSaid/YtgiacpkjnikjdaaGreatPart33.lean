import Derived.Lib.SliceRun
import Derived.Test.YtgiacpkjnikjdaaGreatPart04
import Derived.Test.YtgiacpkjnikjdaaGreatPart27
import Derived.Test.YtgiacpkjnikjdaaGreatPart31
import Derived.Test.YtgiacpkjnikjdaaGreatPart32
namespace Go.Proofs.YtgiacpkjnikjdaaGreat
open Go Go.RowKit
set_option linter.unusedVariables false
set_option linter.unusedSimpArgs false
def inL (l : List Nat) : List Value := l.map fun (d : Nat) => vN d
theorem inL_length (l : List Nat) : (inL l).length = l.length := by simp [inL]
theorem inL_get {l : List Nat} {j : Nat} (h : j < l.length) : (inL l)[j * 1]? = some (vN (l.getD j 0)) := by simp [inL, h]
theorem inL_append (a b : List Nat) : inL (a ++ b) = inL a ++ inL b := by simp [inL]
section
set_option maxRecDepth 100000
theorem tE34 : ElemT Tryz.prog 34 3 1 8 := ⟨Tryz.underlying34, elemT_of (by kernel_rfl)⟩
theorem clipI_ok (p : Option Addr) (n cp : Nat) (h : n ≤ cp) (w : World)  : Calls Tryz.prog 56 #[(Value.slice p n cp)] w (Gives w (Value.slice p n n)) := by
 refine calls_of (args := [(Value.slice p n cp)]) Tryz.func56 rfl rfl (leB rfl) (OkC.subF (sL [0] rfl) (q4 (asg' rfl (OkL.nil (q2 ?_)))))
 refine mv' rfl (mv' rfl (st' (v := (vN n)) (ex_len_slice rfl Tryz.underlying34) rfl (mv' rfl (st' (v := (vN n)) (ex_len_slice rfl Tryz.underlying34) rfl (st' (v := (Value.slice p n n)) (ex_slice_clip (m := n) rfl rfl rfl Tryz.underlying34 Tryz.sizeOf3 (by omega)) rfl ?_)))))
 exact asg' rfl (OkL.nil (OkQ.subF (sL [2] rfl) (OkQ.then_ (OkC.ret (ret_one rfl (rd_tmp (v := (Value.slice p n n)) rfl) (fun w hw => ⟨rfl, hw.out⟩))))))
theorem Edges_ok {ps : List Pt} {ts ss : List (Nat × Nat × Nat)} (x : MX ps ts ss) (hl : ts.length ≤ 1000000000) (hN : ps.length ≤ 4611686018427387904) (hnb : numB ps.length ts = true) (w : World) {S : Nat → Prop} (hx : Ro S w x) : Calls Tryz.prog 36 #[(aG (mxL x))] w (GivesR (RX (rowsL e4L (edL ts)) (edL ts).length) S w) := by
 have lx := atA (W := w) hx
 refine calls_ofR (args := [(aG (mxL x))]) (L := [rowR x.a.p (rowsL ptL ps), rowR x.b.p (rowsL t3L ts), rowR x.c.p (rowsL t3L ss)]) Tryz.func36 rfl rfl (leB rfl) (sxA hx roL_nil) (OkC.subF (sL [0] rfl) (q4 (bx' (cs := mxL x) rfl fun b1 => asg' rfl (q6 (sL [1, 2] rfl) ?_))))
 refine q4 (ldW' 0 tA31 rfl (cl' (args := [(aG (mxL x))]) (v := (Value.bool true)) Tryz.call48 (fun w hw => (by have h9 := Numd_ok x (by omega) w (inS hw 1 rfl lx); rw [hnb] at h9; exact h9)) rfl (st' (ex_not (c := false) rfl rfl) rfl (OkL.nil (OkQ.subF (sL [1, 2, 5] rfl) ?_)))))
 refine OkQ.then_ (OkC.cond_false rfl (OkC.skip (q2 (st' (v := (pP b1 1)) (ex_fieldAddr rfl Tryz.underlying31 rfl Tryz.sizeOf28 rfl) rfl (ldO' 0 (Value.slice x.b.p ts.length x.b.c) tO28 rfl ?_)))))
 exact cX (S := S) (cs := rowsL e4L (edL ts)) (k := (edL ts).length) (args := [(Value.slice x.b.p ts.length x.b.c)]) Tryz.call93 (fun w hw => edges_ok ts x.b ps.length hnb hN hl w (roMb (inS hw 1 rfl lx))) rfl rfl rfl fun o lo => asg' rfl (OkL.nil (OkQ.subF (sL [1, 2] rfl) (OkQ.then_ (OkC.ret (ret_one rfl (rd_tmp (v := (Value.slice o.p ((edL ts).length) o.c)) rfl) (fun w hw => retR hw (inS hw 0 rfl lo) rfl))))))
end
section
def OwnS (S : Nat → Prop) (W w : World) (G : List As) : Prop :=
  (∀ x ∈ G, ∀ b, x.foot = some b → (W.heap.size ≤ b ∨ (x.ro = true ∧ S b)) ∧ ∃ o, w.heap[b]? = some o ∧ x.P o) ∧ G.Pairwise fun x y => (x.ro = true ∧ y.ro = true) ∨ ∀ b, x.foot = some b → y.foot ≠ some b
def GivesL {α : Type} (V : α → Value) (LW : α → List As) (S : Nat → Prop) (W : World) (e : Ending) (w : World) : Prop := ∃ a : α, e = .returned (V a) ∧ Bel W.heap.size W w ∧ OwnS S W w (LW a)
def AtL (w0 : Base) (S : Nat → Prop) (G : List As) : Prop := ∀ y ∈ G, y.ro = true → ∀ b, y.foot = some b → Nw w0 S b
theorem AtL.mem {w0 : Base} {S : Nat → Prop} {G : List As} (h : AtL w0 S G) {α : Type} [Ref α] {a : α} (hs : ∀ y ∈ Ref.rows a, y ∈ G) : At w0 S a := fun y hy b e => h y (hs y hy) (Ref.ro a y hy) b e
section
variable {w0 : Base} {S : Nat → Prop} {w w' W : World} {L G : List As}
theorem Own.give (h : Own w0 w L) (hb : Bel w.heap.size w w') (hg : OwnS (SL w0 S L) w w' G) : Own w0 w' (G ++ L) := by
  have h1 := h.below hb
  refine ⟨h1.1, fun y hy b e => ?_, List.pairwise_append.2 ⟨hg.2, h1.2.2, fun x hx y hy => ?_⟩⟩
  · rcases List.mem_append.1 hy with hy | hy
    · obtain ⟨h2, h3⟩ := hg.1 y hy b e
      refine ⟨?_, h3⟩
      rcases h2 with h2 | ⟨h2, _⟩
      · exact .inr (.inl (Nat.le_trans h.size h2))
      · exact .inl h2
    · exact h1.2.1 y hy b e
  · by_cases hr : x.ro = true ∧ y.ro = true
    · exact .inl hr
    · refine .inr fun b e e2 => ?_
      rcases (hg.1 x hx b e).1 with h2 | ⟨h2, ⟨z, hz, hzr, hzf⟩, _⟩
      · exact absurd (h.lt hy e2) (by omega)
      · have hyr : ¬ y.ro = true := fun k => hr ⟨h2, k⟩
        obtain ⟨i, hi, rfl⟩ := List.getElem_of_mem hz
        obtain ⟨j, hj, rfl⟩ := List.getElem_of_mem hy
        have hp := List.pairwise_iff_getElem.1 h.2.2
        rcases Nat.lt_trichotomy i j with hij | hij | hij
        · exact (hp i j hi hj hij).elim (fun k => hyr k.2) (fun k => k b hzf e2)
        · subst hij; exact hyr hzr
        · exact (hp j i hj hi hij).elim (fun k => hyr k.1) (fun k => k b e2 hzf)
theorem Own.gives (h : Own ⟨W, none⟩ w L) (hs : G.Sublist L) (hS : AtL ⟨W, none⟩ S G) : OwnS S W w G := by
  refine ⟨fun x hx b e => ?_, h.2.2.sublist hs⟩
  obtain ⟨h1, h2⟩ := h.2.1 x (hs.subset hx) b e
  refine ⟨?_, h2⟩
  by_cases hr : x.ro = true
  · rcases hS x hx hr b e with h3 | h3
    · exact .inl h3
    · exact .inr ⟨hr, h3⟩
  · rcases h1 with h1 | h1 | h1
    · exact absurd h1 hr
    · exact .inl h1
    · cases h1
theorem retL {α : Type} {V : α → Value} {LW : α → List As} (hw : Own ⟨W, none⟩ w L) (a : α) (hs : (LW a).Sublist L) (hS : AtL ⟨W, none⟩ S (LW a)) {v : Value} (hv : v = V a) : GivesL V LW S W (.returned v) w := ⟨a, by rw [hv], hw.out, hw.gives hs hS⟩
theorem AtL.nil : AtL w0 S [] := fun y hy => by cases hy
theorem AtL.own {x : As} (hx : x.ro = false) (h : AtL w0 S G) : AtL w0 S (x :: G) := fun y hy hr b e => by
  rcases List.mem_cons.1 hy with rfl | hy
  · rw [hx] at hr; cases hr
  · exact h y hy hr b e
theorem AtL.row {α : Type} [Ref α] {a : α} {x : As} (ha : At w0 S a) (hx : Ref.rows a = [x]) (h : AtL w0 S G) : AtL w0 S (x :: G) := fun y hy hr b e => by
  rcases List.mem_cons.1 hy with rfl | hy
  · exact ha y (by rw [hx]; exact List.mem_cons_self) b e
  · exact h y hy hr b e
end
section
variable {P : Program} {ops : Array Oper} {rest : List Oper} {Q : Exit → Act → World → Prop} {n d : Nat} {F : List (Nat × Value)} {w0 : Base} {S : Nat → Prop} {L : List As} {t : TypeId} {p : String} {af : Array Edge} {y : Operand} {f : FuncId} {xs : List Operand} {args : List Value} {ts : Array TypeId} {α : Type} {V : α → Value} {LW : α → List As}
theorem OkL.callL (hc : ∀ args w, (callFunc f args).run P w = .ok (.enter f args) w) (h : ∀ w, Own w0 w L → Calls P f args.toArray w (GivesL V LW (SL w0 S L) w))
    (h2 : (evF F y, xs.map (evF F), Nat.ble (d + 1) n) = (some (.func (.func f) #[] #[]), args.map some, true)) (next : ∀ a : α, AtL w0 S (LW a) → OkL P ops rest Q n ((d, V a) :: F) w0 (LW a ++ L)) :
    OkL P ops (⟨some d, .call { callee := .value y, args := xs.toArray, argTypes := ts }, t, p, af, none⟩ :: rest) Q n F w0 L := fun a w ha hW => by
  unfold wpList
  rw [if_pos (wt_none rfl a ha)]
  left
  unfold Oper.wp
  rw [op_call0 (t21 h2) (t21 (t22 h2)) hc a w ha hW, Oper.upon_enter]
  refine (h w hW).mono ?_
  rintro e w' ⟨x, rfl, hb, hg⟩
  refine next x (fun z hz hr b e => ?_) _ _ (ha.put (blt_lt' (t22 (t22 h2)))) (hW.give hb hg)
  rcases (hg.1 z hz b e).1 with h3 | ⟨_, h3⟩
  · exact .inl (Nat.le_trans hW.size h3)
  · exact h3.2
end
structure OX (T z : Nat) (cs : List Value) (n : Nat) where
  p : Option Addr
  c : Nat
  ok : OwnOk p n c
@[reducible] def oxV {T z : Nat} {cs : List Value} {n : Nat} (a : OX T z cs n) : Value := .slice a.p n a.c
@[reducible] def oxL {T z : Nat} {cs : List Value} {n : Nat} (a : OX T z cs n) : List As := [rowW a.p T z n a.c cs]
@[reducible] def oxC {T z : Nat} {cs : List Value} {n : Nat} (a : OX T z cs n) : Value := .slice a.p n n
theorem OwnOk.clip {p : Option Addr} {n c : Nat} (h : OwnOk p n c) : RowOk p n n := ⟨fun e => ⟨(h.nil e).1, (h.nil e).1⟩, fun a e => by rw [h.at0 a e], Nat.le_refl _⟩
theorem ptL_one (p : Pt) : ((ptL p).all fun u => u.oneCell') = true := rfl
theorem t3L_one (t : Nat × Nat × Nat) : ((t3L t).all fun u => u.oneCell') = true := rfl
theorem rowsL_one {α : Type} {enc : α → List Value} (h : ∀ x, ((enc x).all fun u => u.oneCell') = true) : ∀ xs : List α, ((rowsL enc xs).all fun u => u.oneCell') = true
  | [] => rfl
  | x :: r => by
    have e : rowsL enc (x :: r) = enc x ++ rowsL enc r := rfl
    rw [e, List.all_append, h x, rowsL_one h r]; rfl
theorem lay_left {A B vs : List Value} {r : Nat} (h : r + vs.length ≤ A.length) : lay (A ++ B) r vs = lay A r vs ++ B := by
  unfold lay
  rw [List.take_append_of_le_length (by omega), List.drop_append_of_le_length h, ← List.append_assoc]
theorem lay_right {A B vs : List Value} {o : Nat} : lay (A ++ B) (A.length + o) vs = A ++ lay B o vs := by
  unfold lay
  rw [List.take_append, List.take_of_length_le (by omega), Nat.add_sub_cancel_left, List.drop_append, List.drop_of_length_le (by omega), show A.length + o + vs.length - A.length = o + vs.length by omega]
  simp
theorem rowsL_lay {α : Type} {enc : α → List Value} {z : Nat} (hl : ∀ x, (enc x).length = z) (d : α) {r : Nat} {vs : List Value} {x' : α} : ∀ {xs : List α} {j : Nat}, j < xs.length → r + vs.length ≤ z → lay (enc (xs.getD j d)) r vs = enc x' → lay (rowsL enc xs) (j * z + r) vs = rowsL enc (xs.set j x')
  | x :: q, 0, _, h2, h3 => by
    have e : ∀ y, rowsL enc (y :: q) = enc y ++ rowsL enc q := fun _ => rfl
    rw [Nat.zero_mul, Nat.zero_add, List.set_cons_zero, e, e, lay_left (by rw [hl]; exact h2)]
    exact congrArg (· ++ rowsL enc q) h3
  | x :: q, j + 1, h1, h2, h3 => by
    have e : ∀ y l, rowsL enc (y :: l) = enc y ++ rowsL enc l := fun _ _ => rfl
    rw [List.set_cons_succ, e, e, show (j + 1) * z + r = (enc x).length + (j * z + r) by rw [hl, Nat.add_mul]; omega, lay_right, rowsL_lay hl d (by simpa using h1) h2 (by simpa using h3)]
section
variable {P : Program} {ops : Array Oper} {rest : List Oper} {Q : Exit → Act → World → Prop} {n d : Nat} {F : List (Nat × Value)} {w0 : Base} {S : Nat → Prop} {L L' : List As} {t ty T : TypeId} {p : String} {af : Array Edge} {x y : Operand} {dd : Option Tmp} {g : Option (Nat × Bool)} {q : Option Addr} {z m c : Nat} {cs vs : List Value} {v : Value}
theorem ex_eql_nil {tx ye e : TypeId} (hx : evF F x = some (.slice q m c)) (hy : evF F y = some (.slice none 0 0)) (hu : P.underlying tx = some (.slice e)) : Ex P n F w0 L ⟨dd, .binOp .eql tx x y ye, t, p, af, g⟩ (.bool q.isNone) := fun A w ha _ => by
  have h1 : (eqGuard .eql tx x y (.slice q m c) (.slice none 0 0)).run P w = .ok () w := rfl
  simp only [execOp, ha.ev hx, ha.ev hy, Sem.run_bind, h1, Result.andThen_ok, Lib.run_eql_slice_nil w tx e q m c 0 0 hu, Sem.run_pure]
theorem OkL.appendE0 {s : Operand} {bytes c2 : Nat} {q2 : Option Addr} {news : List Value} (ht : ElemT P t T z bytes) (hs : evF F s = some (.slice q 0 c)) (ho : OwnOk q 0 c)
    (hx : evF F x = some (.slice q2 m c2)) (hsrc : Src w0 (rowW q T z 0 c [] :: L) q2 m news) (hnl : news.length = m * z) (h1 : (news.all fun u => u.oneCell') = true) (h63 : m ≤ maxLen) (hbytes : m * bytes ≤ 140737488355328) (hd : Nat.ble (d + 1) n = true)
    (next : ∀ p' c', OwnOk p' m c' → OkL P ops rest Q n ((d, .slice p' m c') :: F) w0 (rowW p' T z m c' news :: L)) :
    OkL P ops (⟨some d, .call { callee := .builtin .append, args := #[s, x], argTypes := #[t, t] }, ty, p, af, none⟩ :: rest) Q n F w0 (rowW q T z 0 c [] :: L) := by
  refine OkL.appendS0 (cs2 := news) ht hs ho (by simp) hx hsrc hnl h1 (by rw [Nat.zero_add]; exact h63) (by rw [Nat.zero_add]; exact hbytes) rfl hd fun p' c' h => ?_
  rw [Nat.zero_add] at h ⊢
  exact next p' c' h
theorem OkL.storeObj (i : Nat) {α : Type} {enc : α → List Value} {j r : Nat} {x' : α} {xs : List α} (df : α) (hlen : ∀ a, (enc a).length = z) (ho : OwnOk q m c) (hxs : xs.length = m) (hx : evF F x = some (pP (pB q) (pO q + (j * z + r)))) (hy : evF F y = some v) (hi : L[i]? = some (rowW q T z m c (rowsL enc xs))) (hq : q ≠ none) (hj : j < m)
    (hv : v.cells = vs.toArray) (hs : ∀ w, (sizeOf ty).run P w = .ok vs.length w) (h1 : (vs.all fun u => u.oneCell', Nat.ble (r + vs.length) z, setL L i (rowW q T z m c (rowsL enc (xs.set j x')))) = (true, true, some L')) (he : lay (enc (xs.getD j df)) r vs = enc x')
    (next : OkL P ops rest Q n F w0 L') : OkL P ops (⟨none, .store ty x y, t, p, af, none⟩ :: rest) Q n F w0 L := by
  have hz := Nat.le_of_ble_eq_true (t21 (t22 h1))
  have hjz : (j + 1) * z ≤ m * z := Nat.mul_le_mul_right z hj
  rw [Nat.add_mul] at hjz
  refine OkL.storeRow i hx hy hi ho (by rw [rowsL_length hlen, hxs]) hq hv hs (t21 h1) (by omega) ?_
  rw [rowsL_lay hlen df (by omega) hz he, setL_eq (t22 (t22 h1))]
  exact next
theorem OkL.frzRow (i : Nat) (hi : L[i]? = some (rowW q T z m c cs)) (ho : OwnOk q m c) (hl : cs.length = m * z) (hex : w0.ex = none) (hs : setL L i (rowR q cs) = some L') (next : (∀ b, q.map (·.block) = some b → w0.w.heap.size ≤ b) → OkL P ops rest Q n F w0 L') : OkL P ops rest Q n F w0 L := fun a w ha hw => by
  refine next (fun b e => ?_) a w ha (setL_eq hs ▸ hw.freeze hi rfl (fun o hp => lies_of_rowW ho hl hp) (fun e => by cases e))
  rcases (hw.2.1 _ (List.mem_of_getElem? hi) b e).1 with h1 | h1 | h1
  · cases h1
  · exact h1
  · rw [hex] at h1; cases h1
theorem At.new {n : Nat} {cs : List Value} {a : RX cs n} (h : ∀ b, a.p.map (·.block) = some b → w0.w.heap.size ≤ b) : At w0 S a := fun y hy b e => by
  rcases List.mem_singleton.1 hy with rfl
  exact .inl (h b e)
end
structure CpX (ps : List Pt) (ts ss : List (Nat × Nat × Nat)) where
  a : OX 83 10 (rowsL ptL ps) ps.length
  b : OX 45 3 (rowsL t3L ts) ts.length
  c : OX 66 3 (rowsL t3L ss) ss.length
@[reducible] def cpW {ps : List Pt} {ts ss : List (Nat × Nat × Nat)} (x : CpX ps ts ss) : List As := [rowW x.c.p 66 3 ss.length x.c.c (rowsL t3L ss), rowW x.b.p 45 3 ts.length x.b.c (rowsL t3L ts), rowW x.a.p 83 10 ps.length x.a.c (rowsL ptL ps)]
structure RdX (ps : List Pt) (ts ss : List (Nat × Nat × Nat)) (l : List Nat) (e : Nat) where
  m : MX ps ts ss
  q : RX (inL l) l.length
theorem rd_ro {ps : List Pt} {ts ss : List (Nat × Nat × Nat)} {l : List Nat} {e : Nat} {x : RdX ps ts ss l e} {y : As} (hy : y ∈ [x.m.a.row, x.m.b.row, x.m.c.row, x.q.row]) : y.ro = true := by
  simp only [List.mem_cons, List.not_mem_nil, or_false] at hy
  rcases hy with rfl | rfl | rfl | rfl <;> rfl
instance {ps : List Pt} {ts ss : List (Nat × Nat × Nat)} {l : List Nat} {e : Nat} : Ref (RdX ps ts ss l e) := ⟨fun x => .tuple #[aG (mxL x.m), x.q.val, vN e], fun x => [x.m.a.row, x.m.b.row, x.m.c.row, x.q.row], fun x y hy => rd_ro hy⟩
theorem retMX {S : Nat → Prop} {W w : World} {L : List As} {ps : List Pt} {ts ss : List (Nat × Nat × Nat)} (hw : Own ⟨W, none⟩ w L) (i j k : Nat) {p1 p2 p3 : Option Addr} {T1 T3 n1 n2 n3 c1 c2 c3 : Nat}
    (h1 : L[i]? = some (rowW p1 T1 10 n1 c1 (rowsL ptL ps))) (h2 : L[j]? = some (rowR p2 (rowsL t3L ts))) (h3 : L[k]? = some (rowW p3 T3 3 n3 c3 (rowsL t3L ss))) (o1 : OwnOk p1 n1 c1) (o2 : RowOk p2 n2 c2) (b2 : ∀ b, p2.map (·.block) = some b → W.heap.size ≤ b) (o3 : OwnOk p3 n3 c3) (e1 : n1 = ps.length) (e2 : n2 = ts.length) (e3 : n3 = ss.length)
    {v : Value} (hv : v = aG [.slice p1 n1 n1, .slice p2 n2 c2, .slice p3 n3 n3]) : GivesR (MX ps ts ss) S W (.returned v) w := by
  subst e1; subst e2; subst e3
  refine ⟨⟨⟨p1, ps.length, o1.clip⟩, ⟨p2, c2, o2⟩, ⟨p3, ss.length, o3.clip⟩⟩, by rw [hv]; rfl, hw.out, fun y hy => ?_⟩
  have hy : y ∈ [rowR p1 (rowsL ptL ps), rowR p2 (rowsL t3L ts), rowR p3 (rowsL t3L ss)] := hy
  simp only [List.mem_cons, List.not_mem_nil, or_false] at hy
  rcases hy with rfl | rfl | rfl
  · exact own_row hw i h1 o1 (rowsL_length ptL_len _)
  · exact ⟨hw.holds h2, fun b e => .inl (b2 b e)⟩
  · exact own_row hw k h3 o3 (rowsL_length t3L_len _)
section
variable {P : Program} {ops : Array Oper} {rest : List Oper} {Q : Exit → Act → World → Prop} {n d : Nat} {F : List (Nat × Value)} {w0 : Base} {S : Nat → Prop} {L : List As} {t : TypeId} {p : String} {af : Array Edge} {y : Operand} {f : FuncId} {xs : List Operand} {args : List Value} {tys : Array TypeId} {ps : List Pt} {ts ss : List (Nat × Nat × Nat)} {l : List Nat} {e : Nat}
theorem cM (hc : ∀ args w, (callFunc f args).run P w = .ok (.enter f args) w) (h : ∀ w, Own w0 w L → Calls P f args.toArray w (GivesR (MX ps ts ss) (SL w0 S L) w))
    (h2 : (evF F y, xs.map (evF F), Nat.ble (d + 1) n) = (some (.func (.func f) #[] #[]), args.map some, true)) (next : ∀ a : MX ps ts ss, At w0 S a → OkL P ops rest Q n ((d, aG (mxL a)) :: F) w0 (rowR a.a.p (rowsL ptL ps) :: rowR a.b.p (rowsL t3L ts) :: rowR a.c.p (rowsL t3L ss) :: L)) :
    OkL P ops (⟨some d, .call { callee := .value y, args := xs.toArray, argTypes := tys }, t, p, af, none⟩ :: rest) Q n F w0 L := OkL.callR hc h (t21 h2) (t21 (t22 h2)) (t22 (t22 h2)) next
theorem cRd (hc : ∀ args w, (callFunc f args).run P w = .ok (.enter f args) w) (h : ∀ w, Own w0 w L → Calls P f args.toArray w (GivesR (RdX ps ts ss l e) (SL w0 S L) w))
    (h2 : (evF F y, xs.map (evF F), Nat.ble (d + 1) n) = (some (.func (.func f) #[] #[]), args.map some, true)) (next : ∀ a : RdX ps ts ss l e, At w0 S a.m → At w0 S a.q → OkL P ops rest Q n ((d, .tuple #[aG (mxL a.m), .slice a.q.p l.length a.q.c, vN e]) :: F) w0 (rowR a.m.a.p (rowsL ptL ps) :: rowR a.m.b.p (rowsL t3L ts) :: rowR a.m.c.p (rowsL t3L ss) :: rowR a.q.p (inL l) :: L)) :
    OkL P ops (⟨some d, .call { callee := .value y, args := xs.toArray, argTypes := tys }, t, p, af, none⟩ :: rest) Q n F w0 L := OkL.callR hc h (t21 h2) (t21 (t22 h2)) (t22 (t22 h2)) fun a ha =>
  next a (fun z hz => ha z (List.mem_append_left [a.q.row] (show z ∈ [a.m.a.row, a.m.b.row, a.m.c.row] from hz))) (fun z hz => ha z (by rcases List.mem_singleton.1 hz with rfl; exact List.mem_append_right [a.m.a.row, a.m.b.row, a.m.c.row] List.mem_cons_self))
end
end
section
section
variable {α β : Type} [DecidableEq α]
theorem getM_put {kvs : List (α × β)} {x z : α} {y : β} : getM (putM kvs x y) z = if z = x then some y else getM kvs z := by
  induction kvs with
  | nil => rfl
  | cons p r ih =>
    obtain ⟨k, v⟩ := p
    unfold putM
    split
    · rename_i e
      subst e
      unfold getM
      split <;> rfl
    · rename_i e
      rw [getM, ih]
      by_cases h : z = k
      · rw [if_pos h, if_neg (fun e2 => e (e2.symm.trans h)), getM, if_pos h]
      · rw [if_neg h]
        split
        · rfl
        · rw [getM, if_neg h]
end
section
variable {ts : List (Nat × Nat × Nat)}
def dirE (ts : List (Nat × Nat × Nat)) (u : Nat) : P2 := (crT (ts.getD (u / 3) (0, 0, 0)) (u % 3), crT (ts.getD (u / 3) (0, 0, 0)) ((u % 3 + 1) % 3))
def Fst (ts : List (Nat × Nat × Nat)) (s a b : Nat) (z : Int) : Prop := (z = -1 ∧ ∀ u, u < s → dirE ts u ≠ (a, b)) ∨ ∃ u, u < s ∧ z = ((u / 3 : Nat) : Int) ∧ dirE ts u = (a, b) ∧ ∀ v, v < u → dirE ts v ≠ (a, b)
theorem Fst.none {s a b : Nat} (h : ∀ u, u < s → dirE ts u ≠ (a, b)) : Fst ts s a b (-1) := .inl ⟨rfl, h⟩
theorem Fst.skip {s a b : Nat} {z : Int} (h : Fst ts s a b z) (hn : dirE ts s ≠ (a, b)) : Fst ts (s + 1) a b z := by
  rcases h with ⟨h1, h2⟩ | ⟨u, h1, h2, h3, h4⟩
  · refine .inl ⟨h1, fun u hu => ?_⟩
    rcases Nat.lt_or_ge u s with h | h
    · exact h2 u h
    · rw [show u = s by omega]; exact hn
  · exact .inr ⟨u, by omega, h2, h3, h4⟩
theorem Fst.take {s a b : Nat} (h : Fst ts s a b (-1)) (hn : dirE ts s = (a, b)) : Fst ts (s + 1) a b ((s / 3 : Nat) : Int) := by
  rcases h with ⟨h1, h2⟩ | ⟨u, h1, h2, h3, h4⟩
  · exact .inr ⟨s, by omega, rfl, hn, h2⟩
  · omega
theorem Fst.keep {s a b : Nat} {z : Int} (h : Fst ts s a b z) (hz : z ≠ -1) : Fst ts (s + 1) a b z := by
  rcases h with ⟨h1, h2⟩ | ⟨u, h1, h2, h3, h4⟩
  · exact absurd h1 hz
  · exact .inr ⟨u, by omega, h2, h3, h4⟩
structure EInv (ts : List (Nat × Nat × Nat)) (s : Nat) (k : P2) (e : E4) : Prop where
  ea : e.a = k.1
  eb : e.b = k.2
  lt : k.1 < k.2
  l : Fst ts s k.1 k.2 e.l
  r : Fst ts s k.2 k.1 e.r
  some : ∃ u, u < s ∧ (dirE ts u = (k.1, k.2) ∨ dirE ts u = (k.2, k.1))
theorem edS_inv (hd : ∀ u, u < 3 * ts.length → (dirE ts u).1 ≠ (dirE ts u).2) : ∀ s, s ≤ 3 * ts.length → (∀ k e, getM (edS ts s) k = some e → EInv ts s k e) ∧ (∀ k, getM (edS ts s) k = none → k.1 < k.2 → ∀ u, u < s → dirE ts u ≠ (k.1, k.2) ∧ dirE ts u ≠ (k.2, k.1))
  | 0, _ => ⟨fun k e h => (by cases h), fun k _ _ u hu => absurd hu (Nat.not_lt_zero _)⟩
  | s + 1, hs => by
    obtain ⟨i1, i2⟩ := edS_inv hd s (by omega)
    have hne := hd s (by omega)
    obtain ⟨a, ha⟩ : ∃ a, a = crT (ts.getD (s / 3) (0, 0, 0)) (s % 3) := ⟨_, rfl⟩
    obtain ⟨b, hb⟩ : ∃ b, b = crT (ts.getD (s / 3) (0, 0, 0)) ((s % 3 + 1) % 3) := ⟨_, rfl⟩
    have hdir : dirE ts s = (a, b) := by rw [ha, hb]; rfl
    rw [hdir] at hne
    have hE : edS ts (s + 1) = stpE (edS ts s) (s / 3) a b := by rw [ha, hb]; rfl
    rw [hE]
    unfold stpE
    have hky : (kyE a b).1 < (kyE a b).2 := by unfold kyE; simp only at hne ⊢; omega
    -- what the old edge, or the new one, knows
    have h0 : ∀ e0, e0 = (getM (edS ts s) (kyE a b)).getD (newE (kyE a b)) → e0.a = (kyE a b).1 ∧ e0.b = (kyE a b).2 ∧ Fst ts s (kyE a b).1 (kyE a b).2 e0.l ∧ Fst ts s (kyE a b).2 (kyE a b).1 e0.r := by
      intro e0 he0
      cases hg : getM (edS ts s) (kyE a b) with
      | none =>
        rw [hg] at he0
        have h2 := i2 _ hg hky
        subst he0
        exact ⟨rfl, rfl, Fst.none fun u hu => (h2 u hu).1, Fst.none fun u hu => (h2 u hu).2⟩
      | some e =>
        rw [hg] at he0
        have h2 := i1 _ _ hg
        subst he0
        exact ⟨h2.ea, h2.eb, h2.l, h2.r⟩
    constructor
    · intro k e hk
      rw [getM_put] at hk
      split at hk
      · rename_i e1
        injection hk with hk
        obtain ⟨c1, c2, c3, c4⟩ := h0 _ rfl
        obtain ⟨e0, he0⟩ : ∃ e0, e0 = (getM (edS ts s) (kyE a b)).getD (newE (kyE a b)) := ⟨_, rfl⟩
        rw [← he0] at hk c1 c2 c3 c4
        subst hk
        have hends := updE_ends e0 (s / 3) a b
        rw [e1]
        rcases Nat.lt_or_ge a b with hab | hab
        · have k1 : (kyE a b).1 = a := by unfold kyE; simp only; omega
          have k2 : (kyE a b).2 = b := by unfold kyE; simp only; omega
          rw [k1, k2] at c3 c4
          refine ⟨hends.1.trans c1, hends.2.trans c2, hky, ?_, ?_, s, by omega, .inl (by rw [k1, k2]; exact hdir)⟩ <;> rw [k1, k2]
          · unfold updE
            by_cases hl : e0.l = -1
            · rw [if_pos ⟨hab, hl⟩]
              rw [hl] at c3
              exact c3.take hdir
            · rw [if_neg (fun h => hl h.2), if_neg (fun h => by omega)]
              exact c3.keep hl
          · have hn2 : dirE ts s ≠ (b, a) := by rw [hdir]; intro h; injection h with h _; omega
            unfold updE
            split
            · exact c4.skip hn2
            · rw [if_neg (fun h => by omega)]
              exact c4.skip hn2
        · have hba : b < a := by simp only at hne; omega
          have k1 : (kyE a b).1 = b := by unfold kyE; simp only; omega
          have k2 : (kyE a b).2 = a := by unfold kyE; simp only; omega
          rw [k1, k2] at c3 c4
          have hn2 : dirE ts s ≠ (b, a) := by rw [hdir]; intro h; injection h with h _; omega
          refine ⟨hends.1.trans c1, hends.2.trans c2, hky, ?_, ?_, s, by omega, .inr (by rw [k1, k2]; exact hdir)⟩ <;> rw [k1, k2]
          · unfold updE
            rw [if_neg (fun h => by omega)]
            split
            · exact c3.skip hn2
            · exact c3.skip hn2
          · unfold updE
            rw [if_neg (fun h => by omega)]
            by_cases hl : e0.r = -1
            · rw [if_pos ⟨hba, hl⟩]
              rw [hl] at c4
              exact c4.take hdir
            · rw [if_neg (fun h => hl h.2)]
              exact c4.keep hl
      · rename_i e1
        obtain ⟨a1, a2, a3, a4, a5, u, a6, a7⟩ := i1 k e hk
        have n1 : dirE ts s ≠ (k.1, k.2) := by
          rw [hdir]; intro h; injection h with h1 h2
          exact e1 (Prod.ext (by unfold kyE; simp only; omega) (by unfold kyE; simp only; omega))
        have n2 : dirE ts s ≠ (k.2, k.1) := by
          rw [hdir]; intro h; injection h with h1 h2
          exact e1 (Prod.ext (by unfold kyE; simp only; omega) (by unfold kyE; simp only; omega))
        exact ⟨a1, a2, a3, a4.skip n1, a5.skip n2, u, by omega, a7⟩
    · intro k hk hlt u hu
      rw [getM_put] at hk
      split at hk
      · cases hk
      · rename_i e1
        rcases Nat.lt_or_ge u s with h | h
        · exact i2 k hk hlt u h
        · rw [show u = s by omega, hdir]
          constructor
          · intro h; injection h with h1 h2
            exact e1 (Prod.ext (by unfold kyE; simp only; omega) (by unfold kyE; simp only; omega))
          · intro h; injection h with h1 h2
            exact e1 (Prod.ext (by unfold kyE; simp only; omega) (by unfold kyE; simp only; omega))
theorem edL_inv {N : Nat} (hn : numB N ts = true) (hN : N ≤ 4611686018427387904) (hd : ∀ u, u < 3 * ts.length → (dirE ts u).1 ≠ (dirE ts u).2) {e : E4} (he : e ∈ edL ts) : EInv ts (3 * ts.length) (e.a, e.b) e := by
  unfold edL at he
  obtain ⟨p, hp, h1⟩ := List.mem_map.1 ((srtE_perm _).mem_iff.1 he)
  obtain ⟨j, hj, h2⟩ := List.getElem_of_mem hp
  have h3 := getM_at (x := p.1) (v := p.2) (edS_ok hn hN _ (Nat.le_refl _)).once (show (edS ts (3 * ts.length))[j]? = some (p.1, p.2) by rw [List.getElem?_eq_getElem hj, h2])
  have h4 := (edS_inv hd _ (Nat.le_refl _)).1 _ _ h3
  rw [h1] at h4
  rw [show (e.a, e.b) = p.1 from Prod.ext h4.ea h4.eb]
  exact h4
end
end
end Go.Proofs.YtgiacpkjnikjdaaGreat
