import Derived.Lib.SliceRun
import Derived.WideKeyEntry
import Derived.Test.YtgiacpkjnikjdaaGreatPart04
import Derived.Test.YtgiacpkjnikjdaaGreatPart15
import Derived.Test.YtgiacpkjnikjdaaGreatPart25
import Derived.Test.YtgiacpkjnikjdaaGreatPart29
import Derived.Test.YtgiacpkjnikjdaaGreatPart30
namespace Go.Proofs.YtgiacpkjnikjdaaGreat
open Go Go.RowKit
set_option linter.unusedVariables false
set_option linter.unusedSimpArgs false
def inL (l : List Nat) : List Value := l.map fun (d : Nat) => vN d
theorem inL_length (l : List Nat) : (inL l).length = l.length := by simp [inL]
theorem inL_get {l : List Nat} {j : Nat} (h : j < l.length) : (inL l)[j * 1]? = some (vN (l.getD j 0)) := by simp [inL, h]
theorem inL_append (a b : List Nat) : inL (a ++ b) = inL a ++ inL b := by simp [inL]
section
set_option maxRecDepth 100000
theorem tE34 : ElemT Tryz.prog 34 3 1 8 := ⟨Tryz.underlying34, elemT_of (by kernel_rfl)⟩
theorem clipI_ok (p : Option Addr) (n cp : Nat) (h : n ≤ cp) (w : World)  : Calls Tryz.prog 56 #[(Value.slice p n cp)] w (Gives w (Value.slice p n n)) := by
 refine calls_of (args := [(Value.slice p n cp)]) Tryz.func56 rfl rfl (leB rfl) (OkC.subF (sL [0] rfl) (q4 (asg' rfl (OkL.nil (q2 ?_)))))
 refine mv' rfl (mv' rfl (st' (v := (vN n)) (ex_len_slice rfl Tryz.underlying34) rfl (mv' rfl (st' (v := (vN n)) (ex_len_slice rfl Tryz.underlying34) rfl (st' (v := (Value.slice p n n)) (ex_slice_clip (m := n) rfl rfl rfl Tryz.underlying34 Tryz.sizeOf3 (by omega)) rfl ?_)))))
 exact asg' rfl (OkL.nil (OkQ.subF (sL [2] rfl) (OkQ.then_ (OkC.ret (ret_one rfl (rd_tmp (v := (Value.slice p n n)) rfl) (fun w hw => ⟨rfl, hw.out⟩))))))
theorem Edges_ok {ps : List Pt} {ts ss : List (Nat × Nat × Nat)} (x : MX ps ts ss) (hl : ts.length ≤ 1000000000) (hN : ps.length ≤ 4611686018427387904) (hnb : numB ps.length ts = true) (w : World) {S : Nat → Prop} (hx : Ro S w x) : Calls Tryz.prog 36 #[(aG (mxL x))] w (GivesR (RX (rowsL e4L (edL ts)) (edL ts).length) S w) := by
 have lx := atA (W := w) hx
 refine calls_ofR (args := [(aG (mxL x))]) (L := [rowR x.a.p (rowsL ptL ps), rowR x.b.p (rowsL t3L ts), rowR x.c.p (rowsL t3L ss)]) Tryz.func36 rfl rfl (leB rfl) (sxA hx roL_nil) (OkC.subF (sL [0] rfl) (q4 (bx' (cs := mxL x) rfl fun b1 => asg' rfl (q6 (sL [1, 2] rfl) ?_))))
 refine q4 (ldW' 0 tA31 rfl (cl' (args := [(aG (mxL x))]) (v := (Value.bool true)) Tryz.call48 (fun w hw => (by have h9 := Numd_ok x (by omega) w (inS hw 1 rfl lx); rw [hnb] at h9; exact h9)) rfl (st' (ex_not (c := false) rfl rfl) rfl (OkL.nil (OkQ.subF (sL [1, 2, 5] rfl) ?_)))))
 refine OkQ.then_ (OkC.cond_false rfl (OkC.skip (q2 (st' (v := (pP b1 1)) (ex_fieldAddr rfl Tryz.underlying31 rfl Tryz.sizeOf28 rfl) rfl (ldO' 0 (Value.slice x.b.p ts.length x.b.c) tO28 rfl ?_)))))
 exact cX (S := S) (cs := rowsL e4L (edL ts)) (k := (edL ts).length) (args := [(Value.slice x.b.p ts.length x.b.c)]) Tryz.call93 (fun w hw => edges_ok ts x.b ps.length hnb hN hl w (roMb (inS hw 1 rfl lx))) rfl rfl rfl fun o lo => asg' rfl (OkL.nil (OkQ.subF (sL [1, 2] rfl) (OkQ.then_ (OkC.ret (ret_one rfl (rd_tmp (v := (Value.slice o.p ((edL ts).length) o.c)) rfl) (fun w hw => retR hw (inS hw 0 rfl lo) rfl))))))
end
section
def OwnS (S : Nat → Prop) (W w : World) (G : List As) : Prop :=
  (∀ x ∈ G, ∀ b, x.foot = some b → (W.heap.size ≤ b ∨ (x.ro = true ∧ S b)) ∧ ∃ o, w.heap[b]? = some o ∧ x.P o) ∧ G.Pairwise fun x y => (x.ro = true ∧ y.ro = true) ∨ ∀ b, x.foot = some b → y.foot ≠ some b
def GivesL {α : Type} (V : α → Value) (LW : α → List As) (S : Nat → Prop) (W : World) (e : Ending) (w : World) : Prop := ∃ a : α, e = .returned (V a) ∧ Bel W.heap.size W w ∧ OwnS S W w (LW a)
def AtL (w0 : Base) (S : Nat → Prop) (G : List As) : Prop := ∀ y ∈ G, y.ro = true → ∀ b, y.foot = some b → Nw w0 S b
theorem AtL.mem {w0 : Base} {S : Nat → Prop} {G : List As} (h : AtL w0 S G) {α : Type} [Ref α] {a : α} (hs : ∀ y ∈ Ref.rows a, y ∈ G) : At w0 S a := fun y hy b e => h y (hs y hy) (Ref.ro a y hy) b e
section
variable {w0 : Base} {S : Nat → Prop} {w w' W : World} {L G : List As}
theorem Own.give (h : Own w0 w L) (hb : Bel w.heap.size w w') (hg : OwnS (SL w0 S L) w w' G) : Own w0 w' (G ++ L) := by
  have h1 := h.below hb
  refine ⟨h1.1, fun y hy b e => ?_, List.pairwise_append.2 ⟨hg.2, h1.2.2, fun x hx y hy => ?_⟩⟩
  · rcases List.mem_append.1 hy with hy | hy
    · obtain ⟨h2, h3⟩ := hg.1 y hy b e
      refine ⟨?_, h3⟩
      rcases h2 with h2 | ⟨h2, _⟩
      · exact .inr (.inl (Nat.le_trans h.size h2))
      · exact .inl h2
    · exact h1.2.1 y hy b e
  · by_cases hr : x.ro = true ∧ y.ro = true
    · exact .inl hr
    · refine .inr fun b e e2 => ?_
      rcases (hg.1 x hx b e).1 with h2 | ⟨h2, ⟨z, hz, hzr, hzf⟩, _⟩
      · exact absurd (h.lt hy e2) (by omega)
      · have hyr : ¬ y.ro = true := fun k => hr ⟨h2, k⟩
        obtain ⟨i, hi, rfl⟩ := List.getElem_of_mem hz
        obtain ⟨j, hj, rfl⟩ := List.getElem_of_mem hy
        have hp := List.pairwise_iff_getElem.1 h.2.2
        rcases Nat.lt_trichotomy i j with hij | hij | hij
        · exact (hp i j hi hj hij).elim (fun k => hyr k.2) (fun k => k b hzf e2)
        · subst hij; exact hyr hzr
        · exact (hp j i hj hi hij).elim (fun k => hyr k.1) (fun k => k b e2 hzf)
theorem Own.gives (h : Own ⟨W, none⟩ w L) (hs : G.Sublist L) (hS : AtL ⟨W, none⟩ S G) : OwnS S W w G := by
  refine ⟨fun x hx b e => ?_, h.2.2.sublist hs⟩
  obtain ⟨h1, h2⟩ := h.2.1 x (hs.subset hx) b e
  refine ⟨?_, h2⟩
  by_cases hr : x.ro = true
  · rcases hS x hx hr b e with h3 | h3
    · exact .inl h3
    · exact .inr ⟨hr, h3⟩
  · rcases h1 with h1 | h1 | h1
    · exact absurd h1 hr
    · exact .inl h1
    · cases h1
theorem retL {α : Type} {V : α → Value} {LW : α → List As} (hw : Own ⟨W, none⟩ w L) (a : α) (hs : (LW a).Sublist L) (hS : AtL ⟨W, none⟩ S (LW a)) {v : Value} (hv : v = V a) : GivesL V LW S W (.returned v) w := ⟨a, by rw [hv], hw.out, hw.gives hs hS⟩
theorem AtL.nil : AtL w0 S [] := fun y hy => by cases hy
theorem AtL.own {x : As} (hx : x.ro = false) (h : AtL w0 S G) : AtL w0 S (x :: G) := fun y hy hr b e => by
  rcases List.mem_cons.1 hy with rfl | hy
  · rw [hx] at hr; cases hr
  · exact h y hy hr b e
theorem AtL.row {α : Type} [Ref α] {a : α} {x : As} (ha : At w0 S a) (hx : Ref.rows a = [x]) (h : AtL w0 S G) : AtL w0 S (x :: G) := fun y hy hr b e => by
  rcases List.mem_cons.1 hy with rfl | hy
  · exact ha y (by rw [hx]; exact List.mem_cons_self) b e
  · exact h y hy hr b e
end
section
variable {P : Program} {ops : Array Oper} {rest : List Oper} {Q : Exit → Act → World → Prop} {n d : Nat} {F : List (Nat × Value)} {w0 : Base} {S : Nat → Prop} {L : List As} {t : TypeId} {p : String} {af : Array Edge} {y : Operand} {f : FuncId} {xs : List Operand} {args : List Value} {ts : Array TypeId} {α : Type} {V : α → Value} {LW : α → List As}
theorem OkL.callL (hc : ∀ args w, (callFunc f args).run P w = .ok (.enter f args) w) (h : ∀ w, Own w0 w L → Calls P f args.toArray w (GivesL V LW (SL w0 S L) w))
    (h2 : (evF F y, xs.map (evF F), Nat.ble (d + 1) n) = (some (.func (.func f) #[] #[]), args.map some, true)) (next : ∀ a : α, AtL w0 S (LW a) → OkL P ops rest Q n ((d, V a) :: F) w0 (LW a ++ L)) :
    OkL P ops (⟨some d, .call { callee := .value y, args := xs.toArray, argTypes := ts }, t, p, af, none⟩ :: rest) Q n F w0 L := fun a w ha hW => by
  unfold wpList
  rw [if_pos (wt_none rfl a ha)]
  left
  unfold Oper.wp
  rw [op_call0 (t21 h2) (t21 (t22 h2)) hc a w ha hW, Oper.upon_enter]
  refine (h w hW).mono ?_
  rintro e w' ⟨x, rfl, hb, hg⟩
  refine next x (fun z hz hr b e => ?_) _ _ (ha.put (blt_lt' (t22 (t22 h2)))) (hW.give hb hg)
  rcases (hg.1 z hz b e).1 with h3 | ⟨_, h3⟩
  · exact .inl (Nat.le_trans hW.size h3)
  · exact h3.2
end
structure OX (T z : Nat) (cs : List Value) (n : Nat) where
  p : Option Addr
  c : Nat
  ok : OwnOk p n c
@[reducible] def oxV {T z : Nat} {cs : List Value} {n : Nat} (a : OX T z cs n) : Value := .slice a.p n a.c
@[reducible] def oxL {T z : Nat} {cs : List Value} {n : Nat} (a : OX T z cs n) : List As := [rowW a.p T z n a.c cs]
@[reducible] def oxC {T z : Nat} {cs : List Value} {n : Nat} (a : OX T z cs n) : Value := .slice a.p n n
theorem OwnOk.clip {p : Option Addr} {n c : Nat} (h : OwnOk p n c) : RowOk p n n := ⟨fun e => ⟨(h.nil e).1, (h.nil e).1⟩, fun a e => by rw [h.at0 a e], Nat.le_refl _⟩
section
variable {P : Program} {ops : Array Oper} {rest : List Oper} {Q : Exit → Act → World → Prop} {n d : Nat} {F : List (Nat × Value)} {w0 : Base} {S : Nat → Prop} {L L' : List As} {t ty T : TypeId} {p : String} {af : Array Edge} {x y : Operand} {dd : Option Tmp} {g : Option (Nat × Bool)} {q : Option Addr} {z m c : Nat} {cs vs : List Value} {v : Value}
theorem ex_eql_nil {tx ye e : TypeId} (hx : evF F x = some (.slice q m c)) (hy : evF F y = some (.slice none 0 0)) (hu : P.underlying tx = some (.slice e)) : Ex P n F w0 L ⟨dd, .binOp .eql tx x y ye, t, p, af, g⟩ (.bool q.isNone) := fun A w ha _ => by
  have h1 : (eqGuard .eql tx x y (.slice q m c) (.slice none 0 0)).run P w = .ok () w := rfl
  simp only [execOp, ha.ev hx, ha.ev hy, Sem.run_bind, h1, Result.andThen_ok, Lib.run_eql_slice_nil w tx e q m c 0 0 hu, Sem.run_pure]
theorem OkL.appendE0 {s : Operand} {bytes c2 : Nat} {q2 : Option Addr} {news : List Value} (ht : ElemT P t T z bytes) (hs : evF F s = some (.slice q 0 c)) (ho : OwnOk q 0 c)
    (hx : evF F x = some (.slice q2 m c2)) (hsrc : Src w0 (rowW q T z 0 c [] :: L) q2 m news) (hnl : news.length = m * z) (h1 : (news.all fun u => u.oneCell') = true) (h63 : m ≤ maxLen) (hbytes : m * bytes ≤ 140737488355328) (hd : Nat.ble (d + 1) n = true)
    (next : ∀ p' c', OwnOk p' m c' → OkL P ops rest Q n ((d, .slice p' m c') :: F) w0 (rowW p' T z m c' news :: L)) :
    OkL P ops (⟨some d, .call { callee := .builtin .append, args := #[s, x], argTypes := #[t, t] }, ty, p, af, none⟩ :: rest) Q n F w0 (rowW q T z 0 c [] :: L) := by
  refine OkL.appendS0 (cs2 := news) ht hs ho (by simp) hx hsrc hnl h1 (by rw [Nat.zero_add]; exact h63) (by rw [Nat.zero_add]; exact hbytes) rfl hd fun p' c' h => ?_
  rw [Nat.zero_add] at h ⊢
  exact next p' c' h
theorem OkL.frzRow (i : Nat) (hi : L[i]? = some (rowW q T z m c cs)) (ho : OwnOk q m c) (hl : cs.length = m * z) (hex : w0.ex = none) (hs : setL L i (rowR q cs) = some L') (next : (∀ b, q.map (·.block) = some b → w0.w.heap.size ≤ b) → OkL P ops rest Q n F w0 L') : OkL P ops rest Q n F w0 L := fun a w ha hw => by
  refine next (fun b e => ?_) a w ha (setL_eq hs ▸ hw.freeze hi rfl (fun o hp => lies_of_rowW ho hl hp) (fun e => by cases e))
  rcases (hw.2.1 _ (List.mem_of_getElem? hi) b e).1 with h1 | h1 | h1
  · cases h1
  · exact h1
  · rw [hex] at h1; cases h1
theorem At.new {n : Nat} {cs : List Value} {a : RX cs n} (h : ∀ b, a.p.map (·.block) = some b → w0.w.heap.size ≤ b) : At w0 S a := fun y hy b e => by
  rcases List.mem_singleton.1 hy with rfl
  exact .inl (h b e)
end
structure CpX (ps : List Pt) (ts ss : List (Nat × Nat × Nat)) where
  a : OX 83 10 (rowsL ptL ps) ps.length
  b : OX 45 3 (rowsL t3L ts) ts.length
  c : OX 66 3 (rowsL t3L ss) ss.length
@[reducible] def cpW {ps : List Pt} {ts ss : List (Nat × Nat × Nat)} (x : CpX ps ts ss) : List As := [rowW x.c.p 66 3 ss.length x.c.c (rowsL t3L ss), rowW x.b.p 45 3 ts.length x.b.c (rowsL t3L ts), rowW x.a.p 83 10 ps.length x.a.c (rowsL ptL ps)]
structure RdX (ps : List Pt) (ts ss : List (Nat × Nat × Nat)) (l : List Nat) (e : Nat) where
  m : MX ps ts ss
  q : RX (inL l) l.length
theorem rd_ro {ps : List Pt} {ts ss : List (Nat × Nat × Nat)} {l : List Nat} {e : Nat} {x : RdX ps ts ss l e} {y : As} (hy : y ∈ [x.m.a.row, x.m.b.row, x.m.c.row, x.q.row]) : y.ro = true := by
  simp only [List.mem_cons, List.not_mem_nil, or_false] at hy
  rcases hy with rfl | rfl | rfl | rfl <;> rfl
instance {ps : List Pt} {ts ss : List (Nat × Nat × Nat)} {l : List Nat} {e : Nat} : Ref (RdX ps ts ss l e) := ⟨fun x => .tuple #[aG (mxL x.m), x.q.val, vN e], fun x => [x.m.a.row, x.m.b.row, x.m.c.row, x.q.row], fun x y hy => rd_ro hy⟩
section
variable {P : Program} {ops : Array Oper} {rest : List Oper} {Q : Exit → Act → World → Prop} {n d : Nat} {F : List (Nat × Value)} {w0 : Base} {S : Nat → Prop} {L : List As} {t : TypeId} {p : String} {af : Array Edge} {y : Operand} {f : FuncId} {xs : List Operand} {args : List Value} {tys : Array TypeId} {ps : List Pt} {ts ss : List (Nat × Nat × Nat)} {l : List Nat} {e : Nat}
end
end
section
section
variable {α β : Type} [DecidableEq α]
theorem getM_put {kvs : List (α × β)} {x z : α} {y : β} : getM (putM kvs x y) z = if z = x then some y else getM kvs z := by
  induction kvs with
  | nil => rfl
  | cons p r ih =>
    obtain ⟨k, v⟩ := p
    unfold putM
    split
    · rename_i e
      subst e
      unfold getM
      split <;> rfl
    · rename_i e
      rw [getM, ih]
      by_cases h : z = k
      · rw [if_pos h, if_neg (fun e2 => e (e2.symm.trans h)), getM, if_pos h]
      · rw [if_neg h]
        split
        · rfl
        · rw [getM, if_neg h]
end
section
variable {ts : List (Nat × Nat × Nat)}
def dirE (ts : List (Nat × Nat × Nat)) (u : Nat) : P2 := (crT (ts.getD (u / 3) (0, 0, 0)) (u % 3), crT (ts.getD (u / 3) (0, 0, 0)) ((u % 3 + 1) % 3))
def Fst (ts : List (Nat × Nat × Nat)) (s a b : Nat) (z : Int) : Prop := (z = -1 ∧ ∀ u, u < s → dirE ts u ≠ (a, b)) ∨ ∃ u, u < s ∧ z = ((u / 3 : Nat) : Int) ∧ dirE ts u = (a, b) ∧ ∀ v, v < u → dirE ts v ≠ (a, b)
theorem Fst.none {s a b : Nat} (h : ∀ u, u < s → dirE ts u ≠ (a, b)) : Fst ts s a b (-1) := .inl ⟨rfl, h⟩
theorem Fst.skip {s a b : Nat} {z : Int} (h : Fst ts s a b z) (hn : dirE ts s ≠ (a, b)) : Fst ts (s + 1) a b z := by
  rcases h with ⟨h1, h2⟩ | ⟨u, h1, h2, h3, h4⟩
  · refine .inl ⟨h1, fun u hu => ?_⟩
    rcases Nat.lt_or_ge u s with h | h
    · exact h2 u h
    · rw [show u = s by omega]; exact hn
  · exact .inr ⟨u, by omega, h2, h3, h4⟩
theorem Fst.take {s a b : Nat} (h : Fst ts s a b (-1)) (hn : dirE ts s = (a, b)) : Fst ts (s + 1) a b ((s / 3 : Nat) : Int) := by
  rcases h with ⟨h1, h2⟩ | ⟨u, h1, h2, h3, h4⟩
  · exact .inr ⟨s, by omega, rfl, hn, h2⟩
  · omega
theorem Fst.keep {s a b : Nat} {z : Int} (h : Fst ts s a b z) (hz : z ≠ -1) : Fst ts (s + 1) a b z := by
  rcases h with ⟨h1, h2⟩ | ⟨u, h1, h2, h3, h4⟩
  · exact absurd h1 hz
  · exact .inr ⟨u, by omega, h2, h3, h4⟩
structure EInv (ts : List (Nat × Nat × Nat)) (s : Nat) (k : P2) (e : E4) : Prop where
  ea : e.a = k.1
  eb : e.b = k.2
  lt : k.1 < k.2
  l : Fst ts s k.1 k.2 e.l
  r : Fst ts s k.2 k.1 e.r
  some : ∃ u, u < s ∧ (dirE ts u = (k.1, k.2) ∨ dirE ts u = (k.2, k.1))
theorem edS_inv (hd : ∀ u, u < 3 * ts.length → (dirE ts u).1 ≠ (dirE ts u).2) : ∀ s, s ≤ 3 * ts.length → (∀ k e, getM (edS ts s) k = some e → EInv ts s k e) ∧ (∀ k, getM (edS ts s) k = none → k.1 < k.2 → ∀ u, u < s → dirE ts u ≠ (k.1, k.2) ∧ dirE ts u ≠ (k.2, k.1))
  | 0, _ => ⟨fun k e h => (by cases h), fun k _ _ u hu => absurd hu (Nat.not_lt_zero _)⟩
  | s + 1, hs => by
    obtain ⟨i1, i2⟩ := edS_inv hd s (by omega)
    have hne := hd s (by omega)
    obtain ⟨a, ha⟩ : ∃ a, a = crT (ts.getD (s / 3) (0, 0, 0)) (s % 3) := ⟨_, rfl⟩
    obtain ⟨b, hb⟩ : ∃ b, b = crT (ts.getD (s / 3) (0, 0, 0)) ((s % 3 + 1) % 3) := ⟨_, rfl⟩
    have hdir : dirE ts s = (a, b) := by rw [ha, hb]; rfl
    rw [hdir] at hne
    have hE : edS ts (s + 1) = stpE (edS ts s) (s / 3) a b := by rw [ha, hb]; rfl
    rw [hE]
    unfold stpE
    have hky : (kyE a b).1 < (kyE a b).2 := by unfold kyE; simp only at hne ⊢; omega
    -- what the old edge, or the new one, knows
    have h0 : ∀ e0, e0 = (getM (edS ts s) (kyE a b)).getD (newE (kyE a b)) → e0.a = (kyE a b).1 ∧ e0.b = (kyE a b).2 ∧ Fst ts s (kyE a b).1 (kyE a b).2 e0.l ∧ Fst ts s (kyE a b).2 (kyE a b).1 e0.r := by
      intro e0 he0
      cases hg : getM (edS ts s) (kyE a b) with
      | none =>
        rw [hg] at he0
        have h2 := i2 _ hg hky
        subst he0
        exact ⟨rfl, rfl, Fst.none fun u hu => (h2 u hu).1, Fst.none fun u hu => (h2 u hu).2⟩
      | some e =>
        rw [hg] at he0
        have h2 := i1 _ _ hg
        subst he0
        exact ⟨h2.ea, h2.eb, h2.l, h2.r⟩
    constructor
    · intro k e hk
      rw [getM_put] at hk
      split at hk
      · rename_i e1
        injection hk with hk
        obtain ⟨c1, c2, c3, c4⟩ := h0 _ rfl
        obtain ⟨e0, he0⟩ : ∃ e0, e0 = (getM (edS ts s) (kyE a b)).getD (newE (kyE a b)) := ⟨_, rfl⟩
        rw [← he0] at hk c1 c2 c3 c4
        subst hk
        have hends := updE_ends e0 (s / 3) a b
        rw [e1]
        rcases Nat.lt_or_ge a b with hab | hab
        · have k1 : (kyE a b).1 = a := by unfold kyE; simp only; omega
          have k2 : (kyE a b).2 = b := by unfold kyE; simp only; omega
          rw [k1, k2] at c3 c4
          refine ⟨hends.1.trans c1, hends.2.trans c2, hky, ?_, ?_, s, by omega, .inl (by rw [k1, k2]; exact hdir)⟩ <;> rw [k1, k2]
          · unfold updE
            by_cases hl : e0.l = -1
            · rw [if_pos ⟨hab, hl⟩]
              rw [hl] at c3
              exact c3.take hdir
            · rw [if_neg (fun h => hl h.2), if_neg (fun h => by omega)]
              exact c3.keep hl
          · have hn2 : dirE ts s ≠ (b, a) := by rw [hdir]; intro h; injection h with h _; omega
            unfold updE
            split
            · exact c4.skip hn2
            · rw [if_neg (fun h => by omega)]
              exact c4.skip hn2
        · have hba : b < a := by simp only at hne; omega
          have k1 : (kyE a b).1 = b := by unfold kyE; simp only; omega
          have k2 : (kyE a b).2 = a := by unfold kyE; simp only; omega
          rw [k1, k2] at c3 c4
          have hn2 : dirE ts s ≠ (b, a) := by rw [hdir]; intro h; injection h with h _; omega
          refine ⟨hends.1.trans c1, hends.2.trans c2, hky, ?_, ?_, s, by omega, .inr (by rw [k1, k2]; exact hdir)⟩ <;> rw [k1, k2]
          · unfold updE
            rw [if_neg (fun h => by omega)]
            split
            · exact c3.skip hn2
            · exact c3.skip hn2
          · unfold updE
            rw [if_neg (fun h => by omega)]
            by_cases hl : e0.r = -1
            · rw [if_pos ⟨hba, hl⟩]
              rw [hl] at c4
              exact c4.take hdir
            · rw [if_neg (fun h => hl h.2)]
              exact c4.keep hl
      · rename_i e1
        obtain ⟨a1, a2, a3, a4, a5, u, a6, a7⟩ := i1 k e hk
        have n1 : dirE ts s ≠ (k.1, k.2) := by
          rw [hdir]; intro h; injection h with h1 h2
          exact e1 (Prod.ext (by unfold kyE; simp only; omega) (by unfold kyE; simp only; omega))
        have n2 : dirE ts s ≠ (k.2, k.1) := by
          rw [hdir]; intro h; injection h with h1 h2
          exact e1 (Prod.ext (by unfold kyE; simp only; omega) (by unfold kyE; simp only; omega))
        exact ⟨a1, a2, a3, a4.skip n1, a5.skip n2, u, by omega, a7⟩
    · intro k hk hlt u hu
      rw [getM_put] at hk
      split at hk
      · cases hk
      · rename_i e1
        rcases Nat.lt_or_ge u s with h | h
        · exact i2 k hk hlt u h
        · rw [show u = s by omega, hdir]
          constructor
          · intro h; injection h with h1 h2
            exact e1 (Prod.ext (by unfold kyE; simp only; omega) (by unfold kyE; simp only; omega))
          · intro h; injection h with h1 h2
            exact e1 (Prod.ext (by unfold kyE; simp only; omega) (by unfold kyE; simp only; omega))
theorem edL_inv {N : Nat} (hn : numB N ts = true) (hN : N ≤ 4611686018427387904) (hd : ∀ u, u < 3 * ts.length → (dirE ts u).1 ≠ (dirE ts u).2) {e : E4} (he : e ∈ edL ts) : EInv ts (3 * ts.length) (e.a, e.b) e := by
  unfold edL at he
  obtain ⟨p, hp, h1⟩ := List.mem_map.1 ((srtE_perm _).mem_iff.1 he)
  obtain ⟨j, hj, h2⟩ := List.getElem_of_mem hp
  have h3 := getM_at (x := p.1) (v := p.2) (edS_ok hn hN _ (Nat.le_refl _)).once (show (edS ts (3 * ts.length))[j]? = some (p.1, p.2) by rw [List.getElem?_eq_getElem hj, h2])
  have h4 := (edS_inv hd _ (Nat.le_refl _)).1 _ _ h3
  rw [h1] at h4
  rw [show (e.a, e.b) = p.1 from Prod.ext h4.ea h4.eb]
  exact h4
end
end
section
theorem keyOf_arr2 {P : Program} {k e : TypeId} (hu : P.underlying k = some (.array 2 e)) (he : P.underlying e = some (.int .i64)) (ce : P.cellsOf e = 1) (ck : P.cellsOf k = 2) (hk : P.keyType k = true) (hr : k < P.types.size)
    {a b : Int} (wa : (Lit.int .i64 a).wf = true) (wb : (Lit.int .i64 b).wf = true) : ∃ l, keyOf P k (.agg #[.int .i64 a, .int .i64 b]) = some l := by
  have h0 : 0 < P.types.size := Nat.lt_of_le_of_lt (Nat.zero_le _) hr
  obtain ⟨d, hd⟩ : ∃ d, P.types.size = d + 1 := ⟨P.types.size - 1, by omega⟩
  have hf : (Value.agg #[.int .i64 a, .int .i64 b]).formed P k = true := by
    unfold Value.formed
    simp only [hu, ck]
    rfl
  have hl : P.keyLits (P.types.size + 1) k (Value.agg #[.int .i64 a, .int .i64 b]).cells.toList = some [.int .i64 a, .int .i64 b] := by
    rw [hd]
    unfold Program.keyLits
    simp only [hu]
    show (if ([Value.int .i64 a, Value.int .i64 b] : List Value).length = P.cellsOf k then _ else _) = _
    rw [if_pos (by rw [ck]; rfl)]
    have e0 : P.keyLits (d + 1) e ((([Value.int .i64 a, Value.int .i64 b] : List Value).drop (0 * P.cellsOf e)).take (P.cellsOf e)) = some [.int .i64 a] := by
      rw [ce]; exact keyLits_int he d wa
    have e1 : P.keyLits (d + 1) e ((([Value.int .i64 a, Value.int .i64 b] : List Value).drop (1 * P.cellsOf e)).take (P.cellsOf e)) = some [.int .i64 b] := by
      rw [ce]; exact keyLits_int he d wb
    show (List.mapM (fun i => P.keyLits (d + 1) e ((([Value.int .i64 a, Value.int .i64 b] : List Value).drop (i * P.cellsOf e)).take (P.cellsOf e))) [0, 1]).map List.flatten = _
    simp only [List.mapM_cons, List.mapM_nil, e0, e1]
    rfl
  refine ⟨.string (keyBytes [.int .i64 a, .int .i64 b]), ?_⟩
  unfold keyOf
  simp only [hu, hk, hf, Bool.and_self, if_true, hl]
  rfl
theorem keyPair {P : Program} (hl : laidOutB P = true) {k e : TypeId} (hr : k < P.types.size) (ht : P.keyTypeAt 2 k = true) (hw : (match P.underlying k with | some (.array _ _) | some (.struct _) => true | _ => false) = true) (hu : P.underlying k = some (.array 2 e)) (he : P.underlying e = some (.int .i64)) (ce : P.cellsOf e = 1) (ck : P.cellsOf k = 2) (hk : P.keyType k = true) : KeyE P k kEd okE where
  law := .of_law (deep_law_laid hl (m := 2) (by decide) hr ht hw)
  key := fun a h => keyOf_arr2 hu he ce ck hk hr (wf_nat h.1) (wf_nat h.2)
  inj := fun a b h => posL_inj h
theorem okE_mk {a b : Nat} (ha : a < 4611686018427387904) (hb : b < 4611686018427387904) : okE (a, b) := ⟨ha, hb⟩
def okI (k : Nat) : Prop := k < 4611686018427387904
theorem keyInt {P : Program} {k : TypeId} (h : P.underlying k = some (.int .i64)) : KeyE P k vN okI where
  law := Maps.int_keyed h
  key := fun a ha => ⟨_, Maps.keyOf_int_mk h (wf_nat ha)⟩
  inj := fun a b e => by injection e with _ e; omega
def findM {α β : Type} [DecidableEq α] : List (α × β) → α → Nat
  | [], _ => 0
  | (k, v) :: r, x => if x = k then 0 else findM r x + 1
section
variable {α β : Type} {enc : α → Value} {eV : β → Value} {ok : α → Prop} {P : Program} {kt : TypeId} {n : Nat} {F : List (Nat × Value)} {w0 : Base} {L : List As} {d : Nat} {mp kp vp sp : Operand} {t : TypeId} {pp : String} {af : Array Edge} {g : Option (Nat × Bool)} {tx et : TypeId} {b : Nat} {ops : Array Oper} {rest : List Oper} {Q : Exit → Act → World → Prop}
def mapB {α β : Type} [DecidableEq α] (b : Nat) (enc : α → Value) (eV : β → Value) (kvs : List (α × β)) (x : α) (v : β) : As := ⟨some b, fun o => o = .map (entsM enc eV kvs 0).toArray kvs.length ∨ o = .map (entsM enc eV (putM kvs x v) 0).toArray (putM kvs x v).length, false⟩
variable [DecidableEq α]
theorem putM_same : ∀ {kvs : List (α × β)} {x : α} {v : β}, getM kvs x = some v → putM kvs x v = kvs
  | (k, u) :: r, x, v, h => by
    unfold getM at h
    unfold putM
    split at h
    · rename_i e; injection h with h; rw [if_pos e, h]
    · rename_i e; rw [if_neg e, putM_same h]
theorem putM_at_find : ∀ {kvs : List (α × β)} {x : α} {v : β}, (putM kvs x v)[findM kvs x]? = some (x, v)
  | [], _, _ => rfl
  | (k, u) :: r, x, v => by
    unfold putM findM
    split
    · rename_i e; rw [List.getElem?_cons_zero, e]
    · rw [List.getElem?_cons_succ, putM_at_find]
theorem putM_set {x : α} {u v : β} : ∀ {kvs : List (α × β)}, (putM kvs x u).set (findM kvs x) (x, v) = putM kvs x v
  | [] => rfl
  | (k, w) :: r => by
    by_cases e : x = k
    · simp [putM, findM, e]
    · simp [putM, findM, e, putM_set]
theorem findM_at : ∀ {kvs : List (α × β)} {j : Nat} {x : α} {v : β}, kvs.Pairwise (fun p q => p.1 ≠ q.1) → kvs[j]? = some (x, v) → findM kvs x = j
  | (k, u) :: r, 0, x, v, _, h => by
    simp only [List.getElem?_cons_zero, Option.some.injEq, Prod.mk.injEq] at h
    rw [findM, if_pos h.1.symm]
  | (k, u) :: r, j + 1, x, v, hp, h => by
    obtain ⟨h1, h2⟩ := List.pairwise_cons.1 hp
    rw [List.getElem?_cons_succ] at h
    rw [findM, if_neg (fun e => h1 (x, v) (List.mem_of_getElem? h) e.symm), findM_at h2 h]
theorem findM_none : ∀ {kvs : List (α × β)} {x : α}, (∀ p ∈ kvs, p.1 ≠ x) → findM kvs x = kvs.length
  | [], _, _ => rfl
  | (k, v) :: r, x, h => by
    rw [findM, if_neg (fun e => h (k, v) List.mem_cons_self e.symm), findM_none fun p hp => h p (List.mem_cons_of_mem _ hp)]; rfl
theorem wk_mapB {i : Nat} {kvs : List (α × β)} (x : α) (v : β) (hi : L[i]? = some (mapA b enc eV kvs)) : Wk (L.set i (mapB b enc eV kvs x v)) L := fun w0 w hw => by
  exact hw.freeze (i := i) (y := mapB b enc eV kvs x v) hi rfl (fun o h => .inl h) (fun e => by cases e)
theorem wk_mapB' {i : Nat} {kvs : List (α × β)} (x : α) (v : β) (hi : L[i]? = some (mapA b enc eV (putM kvs x v))) : Wk (L.set i (mapB b enc eV kvs x v)) L := fun w0 w hw => by
  exact hw.freeze (i := i) (y := mapB b enc eV kvs x v) hi rfl (fun o h => .inr h) (fun e => by cases e)
theorem wkB (i : Nat) {kvs : List (α × β)} {x : α} {v : β} {LA : List As} (hi : L[i]? = some (mapA b enc eV kvs)) (hs : setL L i (mapB b enc eV kvs x v) = some LA) : Wk LA L := setL_eq hs ▸ wk_mapB x v hi
theorem wkB' (i : Nat) {kvs : List (α × β)} {x : α} {v : β} {LA : List As} (hi : L[i]? = some (mapA b enc eV (putM kvs x v))) (hs : setL L i (mapB b enc eV kvs x v) = some LA) : Wk LA L := setL_eq hs ▸ wk_mapB' x v hi
theorem ex_lookupB (K : KeyE P kt enc ok) (i : Nat) {kvs : List (α × β)} {x : α} {z0 v : β} {dd : Option Tmp} (hx : evF F mp = some (.map (some b))) (hk : evF F kp = some (enc x)) (ht : P.underlying tx = some (.map kt et)) (hz : ∀ w, (zeroValue et).run P w = .ok (eV z0) w) (hi : L[i]? = some (mapB b enc eV kvs x v)) (hm : OkM ok kvs) (hok : ok x) (hv : v = (getM kvs x).getD z0) :
    Ex P n F w0 L ⟨dd, .lookup tx mp kp false, t, pp, af, g⟩ (eV v) := fun A w ha hw => by
  obtain ⟨_, o, ho, hp⟩ := hw.2.1 _ (List.mem_of_getElem? hi) b rfl
  obtain ⟨lx, hlx⟩ := K.key x hok
  have hc := fun em => K.law.check w em hlx
  have key : ∀ kvs' : List (α × β), OkM ok kvs' → (getM kvs' x).getD z0 = v → w.heap[b]? = some (.map (entsM enc eV kvs' 0).toArray kvs'.length) → (execOp A.eval ⟨dd, .lookup tx mp kp false, t, pp, af, g⟩).run P w = .ok (.value (eV v)) w := fun kvs' hm' hg ho => by
    rcases run_findM (eV := eV) K hm' hok w with ⟨h1, _, h2⟩ | ⟨j, u, _, h1, h2⟩
    · rw [h1] at hg
      simp only [execOp, ha.ev hx, ha.ev hk, Instr.lookup, Sem.run_bind, run_underlying ht, getObj_map ho, Result.andThen_ok, Sem.run_pure, hc, List.toList_toArray, h2, hz]
      rw [← hg]; rfl
    · rw [h1] at hg
      simp only [execOp, ha.ev hx, ha.ev hk, Instr.lookup, Sem.run_bind, run_underlying ht, getObj_map ho, Result.andThen_ok, Sem.run_pure, hc, List.toList_toArray, h2]
      rw [← hg]; rfl
  rcases hp with hp | hp
  · exact key kvs hm hv.symm (by rw [ho, hp])
  · exact key (putM kvs x v) (hm.put hok) (by rw [getM_put, if_pos rfl]; rfl) (by rw [ho, hp])
theorem OkL.mapEntry (K : KeyE P kt enc ok) (i : Nat) {kvs : List (α × β)} {x : α} {z0 v : β} (hx : evF F mp = some (.map (some b))) (hk : evF F kp = some (enc x)) (ht : P.underlying tx = some (.map kt et)) (hz : ∀ w, (zeroValue et).run P w = .ok (eV z0) w) (hi : L[i]? = some (mapA b enc eV kvs)) (hm : OkM ok kvs) (hok : ok x) (hv : v = (getM kvs x).getD z0) (hd : Nat.ble (d + 1) n = true)
    (next : OkL P ops rest Q n ((d, .tuple #[eV v, vN (findM kvs x)]) :: F) w0 (L.set i (mapA b enc eV (putM kvs x v)))) : OkL P ops (⟨some d, .mapEntry tx mp kp, t, pp, af, none⟩ :: rest) Q n F w0 L := fun a w ha hW => by
  obtain ⟨_, o, ho, hp⟩ := hW.2.1 _ (List.mem_of_getElem? hi) b rfl
  have ho : w.heap[b]? = some (.map (entsM enc eV kvs 0).toArray kvs.length) := by rw [ho, hp]
  obtain ⟨lx, hlx⟩ := K.key x hok
  have hc := fun em => K.law.check w em hlx
  have hst := K.law.stays w hlx
  have hrun : (execOp a.eval ⟨some d, .mapEntry tx mp kp, t, pp, af, none⟩).run P w = .ok (.value (.tuple #[eV v, vN (findM kvs x)])) (Go.ChangeMaps.setBlock w b (.map (entsM enc eV (putM kvs x v) 0).toArray (putM kvs x v).length)) := by
    rcases run_findM (eV := eV) K hm hok w with ⟨h0, h1, h2⟩ | ⟨j, u, hj, h1, h2⟩
    · rw [h0] at hv
      simp only [Option.getD_none] at hv
      subst hv
      rw [putM_none h1, findM_none h1, entsM_append, List.length_append]
      simp only [execOp, ha.ev hx, ha.ev hk, Instr.mapEntry, Sem.run_bind, run_underlying ht, getObj_map ho, Result.andThen_ok, hc, List.toList_toArray, h2, hz, run_setMap ho, Sem.run_pure, List.push_toArray, Nat.zero_add, List.length_singleton]
      rfl
    · rw [h1] at hv
      simp only [Option.getD_some] at hv
      subst hv
      rw [putM_same h1, findM_at hm.once hj]
      have e1 : (entsM enc eV kvs 0)[j]? = some ⟨enc x, eV v, 0 + j⟩ := by rw [entsM_get, hj]; rfl
      have e2 := ents_modify (enc := enc) (eV := eV) (y := v) hj
      have e3 : kvs.set j (x, v) = kvs := by
        apply List.ext_getElem?
        intro q
        rw [List.getElem?_set]
        split
        · rename_i e; subst e; split
          · exact hj.symm
          · rename_i h9; rw [List.getElem?_eq_none (by omega)]
        · rfl
      rw [e3] at e2
      have e4 : (entsM enc eV kvs 0).toArray.modify j (fun e => { e with key := enc x }) = (entsM enc eV kvs 0).toArray := by
        apply Array.ext_getElem?
        intro q
        rw [Array.getElem?_modify]
        simp only [List.getElem?_toArray]
        split
        · rename_i e; subst e; rw [e1]; rfl
        · rfl
      simp only [execOp, ha.ev hx, ha.ev hk, Instr.mapEntry, Sem.run_bind, run_underlying ht, getObj_map ho, Result.andThen_ok, hc, List.toList_toArray, List.getElem?_toArray, h2, e1, hst, e4, run_setMap ho, Sem.run_pure, Option.map_some, Option.getD_some]
      simp [goInt, e1, hst, e4, run_setMap ho, Result.andThen]
  unfold wpList
  rw [if_pos (wt_none rfl a ha)]
  left
  unfold Oper.wp
  rw [hrun, Oper.upon_value]
  exact next _ _ (ha.put (blt_lt' hd)) (hW.turn hi rfl rfl (grw_setBlock _ _ _) ⟨_, setBlock_at ho, rfl⟩)
theorem OkL.entryStore (i : Nat) {kvs : List (α × β)} {x : α} {u y : β} (hx : evF F mp = some (.map (some b))) (hs : evF F sp = some (vN (findM kvs x))) (hv : evF F vp = some (eV y)) (hi : L[i]? = some (mapA b enc eV (putM kvs x u)))
    (next : OkL P ops rest Q n F w0 (L.set i (mapA b enc eV (putM kvs x y)))) : OkL P ops (⟨none, .entryStore tx mp sp vp, t, pp, af, none⟩ :: rest) Q n F w0 L := fun a w ha hW => by
  obtain ⟨_, o, ho, hp⟩ := hW.2.1 _ (List.mem_of_getElem? hi) b rfl
  have ho : w.heap[b]? = some (.map (entsM enc eV (putM kvs x u) 0).toArray (putM kvs x u).length) := by rw [ho, hp]
  have hf := putM_at_find (kvs := kvs) (x := x) (v := u)
  have hlt : findM kvs x < (putM kvs x u).length := (List.getElem?_eq_some_iff.1 hf).1
  have e0 : (entsM enc eV (putM kvs x u) 0)[findM kvs x]? = some ⟨enc x, eV u, findM kvs x⟩ := by rw [entsM_get, hf]; simp
  have hnd : ((entsM enc eV (putM kvs x u) 0).map (·.born)).Nodup := by
    have e1 : ∀ (l : List (α × β)) (s : Nat), (entsM enc eV l s).map (·.born) = List.range' s l.length := by
      intro l
      induction l with
      | nil => intro s; rfl
      | cons p r ih => intro s; rw [entsM, List.map_cons, ih, List.length_cons, List.range'_succ]
    rw [e1]; exact List.nodup_range'
  have hidx : (entsM enc eV (putM kvs x u) 0).toArray.findIdx? (fun e => ((e.born : Nat) : Int) == ((findM kvs x : Nat) : Int)) = some (findM kvs x) := by
    rw [WideElems.findIdx_arr]
    exact WideElems.findIdx_born hnd e0
  have hset : (putM kvs x u).set (findM kvs x) (x, y) = putM kvs x y := putM_set
  have hmod := ents_modify (enc := enc) (eV := eV) (y := y) hf
  have hmod2 : (entsM enc eV (putM kvs x u) 0).toArray.modify (findM kvs x) (fun e => { e with val := eV y }) = (entsM enc eV (putM kvs x y) 0).toArray := by
    rw [← hset, ← hmod]
    apply Array.ext_getElem?
    intro q
    rw [Array.getElem?_modify, Array.getElem?_modify]
    simp only [List.getElem?_toArray]
    split
    · rename_i e; subst e; rw [e0]; rfl
    · rfl
  have hl2 : (putM kvs x y).length = (putM kvs x u).length := by rw [← hset, List.length_set]
  have hrun : (execOp a.eval ⟨none, .entryStore tx mp sp vp, t, pp, af, none⟩).run P w = .ok .skip (Go.ChangeMaps.setBlock w b (.map (entsM enc eV (putM kvs x y) 0).toArray (putM kvs x y).length)) := by
    rw [← hmod2, hl2]
    simp only [execOp, ha.ev hx, ha.ev hs, ha.ev hv, Instr.entryStore, Sem.run_bind, getObj_map ho, Result.andThen_ok, asInt, asIntOf, Sem.run_pure, hidx, run_setMap ho]
  unfold wpList
  rw [if_pos (wt_none rfl a ha)]
  left
  unfold Oper.wp
  rw [hrun, Oper.upon_skip]
  exact next _ _ ha.put_none (hW.turn hi rfl rfl (grw_setBlock _ _ _) ⟨_, setBlock_at ho, rfl⟩)
end
end
end Go.Proofs.YtgiacpkjnikjdaaGreat
