import Derived.Lib.SliceRun
import Derived.Test.YtnofgcpajmldkaaGreatDoorPart06
import Derived.Test.YtnofgcpajmldkaaGreatDoorPart21
import Derived.Test.YtnofgcpajmldkaaGreatDoorPart24
import Derived.Test.YtnofgcpajmldkaaGreatDoorPart27
import Derived.Test.YtnofgcpajmldkaaGreatDoorPart38
import Derived.Test.YtnofgcpajmldkaaGreatDoorPart39
namespace Go.Proofs.YtnofgcpajmldkaaGreatDoor
open Go Go.RowKit
set_option linter.unusedVariables false
set_option linter.unusedSimpArgs false
def inL (l : List Nat) : List Value := l.map fun (d : Nat) => vN d
section
set_option maxRecDepth 100000
theorem Edges_ok {ps : List Pt} {ts ss : List (Nat × Nat × Nat)} (x : MX ps ts ss) (hl : ts.length ≤ 1000000000) (hN : ps.length ≤ 4611686018427387904) (hnb : numB ps.length ts = true) (w : World) {S : Nat → Prop} (hx : Ro S w x) : Calls Tryz.prog 7 #[(aG (mxL x))] w (GivesR (RX (rowsL e4L (edL ts)) (edL ts).length) S w) := by
 have lx := atA (W := w) hx
 refine calls_ofR (args := [(aG (mxL x))]) (L := [rowR x.a.p (rowsL ptL ps), rowR x.b.p (rowsL t3L ts), rowR x.c.p (rowsL t3L ss)]) Tryz.func7 rfl rfl (leB rfl) (sxA hx roL_nil) (OkC.subF (sL [0] rfl) (q4 (bx' (cs := mxL x) rfl fun b1 => asg' rfl (q6 (sL [1, 2] rfl) ?_))))
 refine q4 (ldW' 0 tA37 rfl (cl' (args := [(aG (mxL x))]) (v := (Value.bool true)) Tryz.call29 (fun w hw => (by have h9 := Numd_ok x (by omega) w (inS hw 1 rfl lx); rw [hnb] at h9; exact h9)) rfl (st' (ex_not (c := false) rfl rfl) rfl (OkL.nil (OkQ.subF (sL [1, 2, 5] rfl) ?_)))))
 refine OkQ.then_ (OkC.cond_false rfl (OkC.skip (q2 (st' (v := (pP b1 1)) (ex_fieldAddr rfl Tryz.underlying37 rfl Tryz.sizeOf34 rfl) rfl (ldO' 0 (Value.slice x.b.p ts.length x.b.c) tO34 rfl ?_)))))
 exact cX (S := S) (cs := rowsL e4L (edL ts)) (k := (edL ts).length) (args := [(Value.slice x.b.p ts.length x.b.c)]) Tryz.call30 (fun w hw => edges_ok ts x.b ps.length hnb hN hl w (roMb (inS hw 1 rfl lx))) rfl rfl rfl fun o lo => asg' rfl (OkL.nil (OkQ.subF (sL [1, 2] rfl) (OkQ.then_ (OkC.ret (ret_one rfl (rd_tmp (v := (Value.slice o.p ((edL ts).length) o.c)) rfl) (fun w hw => retR hw (inS hw 0 rfl lo) rfl))))))
end
section
def AtL (w0 : Base) (S : Nat → Prop) (G : List As) : Prop := ∀ y ∈ G, y.ro = true → ∀ b, y.foot = some b → Nw w0 S b
theorem AtL.mem {w0 : Base} {S : Nat → Prop} {G : List As} (h : AtL w0 S G) {α : Type} [Ref α] {a : α} (hs : ∀ y ∈ Ref.rows a, y ∈ G) : At w0 S a := fun y hy b e => h y (hs y hy) (Ref.ro a y hy) b e
section
variable {w0 : Base} {S : Nat → Prop} {w w' W : World} {L G : List As}
theorem AtL.nil : AtL w0 S [] := fun y hy => by cases hy
theorem AtL.own {x : As} (hx : x.ro = false) (h : AtL w0 S G) : AtL w0 S (x :: G) := fun y hy hr b e => by
  rcases List.mem_cons.1 hy with rfl | hy
  · rw [hx] at hr; cases hr
  · exact h y hy hr b e
theorem AtL.row {α : Type} [Ref α] {a : α} {x : As} (ha : At w0 S a) (hx : Ref.rows a = [x]) (h : AtL w0 S G) : AtL w0 S (x :: G) := fun y hy hr b e => by
  rcases List.mem_cons.1 hy with rfl | hy
  · exact ha y (by rw [hx]; exact List.mem_cons_self) b e
  · exact h y hy hr b e
end
section
variable {P : Program} {ops : Array Oper} {rest : List Oper} {Q : Exit → Act → World → Prop} {n d : Nat} {F : List (Nat × Value)} {w0 : Base} {S : Nat → Prop} {L : List As} {t : TypeId} {p : String} {af : Array Edge} {y : Operand} {f : FuncId} {xs : List Operand} {args : List Value} {ts : Array TypeId} {α : Type} {V : α → Value} {LW : α → List As}
end
structure OX (T z : Nat) (cs : List Value) (n : Nat) where
  p : Option Addr
  c : Nat
  ok : OwnOk p n c
@[reducible] def oxV {T z : Nat} {cs : List Value} {n : Nat} (a : OX T z cs n) : Value := .slice a.p n a.c
@[reducible] def oxL {T z : Nat} {cs : List Value} {n : Nat} (a : OX T z cs n) : List As := [rowW a.p T z n a.c cs]
@[reducible] def oxC {T z : Nat} {cs : List Value} {n : Nat} (a : OX T z cs n) : Value := .slice a.p n n
section
variable {P : Program} {ops : Array Oper} {rest : List Oper} {Q : Exit → Act → World → Prop} {n d : Nat} {F : List (Nat × Value)} {w0 : Base} {S : Nat → Prop} {L L' : List As} {t ty T : TypeId} {p : String} {af : Array Edge} {x y : Operand} {dd : Option Tmp} {g : Option (Nat × Bool)} {q : Option Addr} {z m c : Nat} {cs vs : List Value} {v : Value}
theorem OkL.frzRow (i : Nat) (hi : L[i]? = some (rowW q T z m c cs)) (ho : OwnOk q m c) (hl : cs.length = m * z) (hex : w0.ex = none) (hs : setL L i (rowR q cs) = some L') (next : (∀ b, q.map (·.block) = some b → w0.w.heap.size ≤ b) → OkL P ops rest Q n F w0 L') : OkL P ops rest Q n F w0 L := fun a w ha hw => by
  refine next (fun b e => ?_) a w ha (setL_eq hs ▸ hw.freeze hi rfl (fun o hp => lies_of_rowW ho hl hp) (fun e => by cases e))
  rcases (hw.2.1 _ (List.mem_of_getElem? hi) b e).1 with h1 | h1 | h1
  · cases h1
  · exact h1
  · rw [hex] at h1; cases h1
theorem At.new {n : Nat} {cs : List Value} {a : RX cs n} (h : ∀ b, a.p.map (·.block) = some b → w0.w.heap.size ≤ b) : At w0 S a := fun y hy b e => by
  rcases List.mem_singleton.1 hy with rfl
  exact .inl (h b e)
end
structure CpX (ps : List Pt) (ts ss : List (Nat × Nat × Nat)) where
  a : OX 49 10 (rowsL ptL ps) ps.length
  b : OX 71 3 (rowsL t3L ts) ts.length
  c : OX 73 3 (rowsL t3L ss) ss.length
@[reducible] def cpW {ps : List Pt} {ts ss : List (Nat × Nat × Nat)} (x : CpX ps ts ss) : List As := [rowW x.c.p 73 3 ss.length x.c.c (rowsL t3L ss), rowW x.b.p 71 3 ts.length x.b.c (rowsL t3L ts), rowW x.a.p 49 10 ps.length x.a.c (rowsL ptL ps)]
structure RdX (ps : List Pt) (ts ss : List (Nat × Nat × Nat)) (l : List Nat) (e : Nat) where
  m : MX ps ts ss
  q : RX (inL l) l.length
theorem rd_ro {ps : List Pt} {ts ss : List (Nat × Nat × Nat)} {l : List Nat} {e : Nat} {x : RdX ps ts ss l e} {y : As} (hy : y ∈ [x.m.a.row, x.m.b.row, x.m.c.row, x.q.row]) : y.ro = true := by
  simp only [List.mem_cons, List.not_mem_nil, or_false] at hy
  rcases hy with rfl | rfl | rfl | rfl <;> rfl
instance {ps : List Pt} {ts ss : List (Nat × Nat × Nat)} {l : List Nat} {e : Nat} : Ref (RdX ps ts ss l e) := ⟨fun x => .tuple #[aG (mxL x.m), x.q.val, vN e], fun x => [x.m.a.row, x.m.b.row, x.m.c.row, x.q.row], fun x y hy => rd_ro hy⟩
section
variable {P : Program} {ops : Array Oper} {rest : List Oper} {Q : Exit → Act → World → Prop} {n d : Nat} {F : List (Nat × Value)} {w0 : Base} {S : Nat → Prop} {L : List As} {t : TypeId} {p : String} {af : Array Edge} {y : Operand} {f : FuncId} {xs : List Operand} {args : List Value} {tys : Array TypeId} {ps : List Pt} {ts ss : List (Nat × Nat × Nat)} {l : List Nat} {e : Nat}
end
end
section
section
variable {α β : Type} [DecidableEq α]
theorem getM_put {kvs : List (α × β)} {x z : α} {y : β} : getM (putM kvs x y) z = if z = x then some y else getM kvs z := by
  induction kvs with
  | nil => rfl
  | cons p r ih =>
    obtain ⟨k, v⟩ := p
    unfold putM
    split
    · rename_i e
      subst e
      unfold getM
      split <;> rfl
    · rename_i e
      rw [getM, ih]
      by_cases h : z = k
      · rw [if_pos h, if_neg (fun e2 => e (e2.symm.trans h)), getM, if_pos h]
      · rw [if_neg h]
        split
        · rfl
        · rw [getM, if_neg h]
end
section
variable {ts : List (Nat × Nat × Nat)}
def dirE (ts : List (Nat × Nat × Nat)) (u : Nat) : P2 := (crT (ts.getD (u / 3) (0, 0, 0)) (u % 3), crT (ts.getD (u / 3) (0, 0, 0)) ((u % 3 + 1) % 3))
def Fst (ts : List (Nat × Nat × Nat)) (s a b : Nat) (z : Int) : Prop := (z = -1 ∧ ∀ u, u < s → dirE ts u ≠ (a, b)) ∨ ∃ u, u < s ∧ z = ((u / 3 : Nat) : Int) ∧ dirE ts u = (a, b) ∧ ∀ v, v < u → dirE ts v ≠ (a, b)
theorem Fst.none {s a b : Nat} (h : ∀ u, u < s → dirE ts u ≠ (a, b)) : Fst ts s a b (-1) := .inl ⟨rfl, h⟩
theorem Fst.skip {s a b : Nat} {z : Int} (h : Fst ts s a b z) (hn : dirE ts s ≠ (a, b)) : Fst ts (s + 1) a b z := by
  rcases h with ⟨h1, h2⟩ | ⟨u, h1, h2, h3, h4⟩
  · refine .inl ⟨h1, fun u hu => ?_⟩
    rcases Nat.lt_or_ge u s with h | h
    · exact h2 u h
    · rw [show u = s by omega]; exact hn
  · exact .inr ⟨u, by omega, h2, h3, h4⟩
theorem Fst.take {s a b : Nat} (h : Fst ts s a b (-1)) (hn : dirE ts s = (a, b)) : Fst ts (s + 1) a b ((s / 3 : Nat) : Int) := by
  rcases h with ⟨h1, h2⟩ | ⟨u, h1, h2, h3, h4⟩
  · exact .inr ⟨s, by omega, rfl, hn, h2⟩
  · omega
theorem Fst.keep {s a b : Nat} {z : Int} (h : Fst ts s a b z) (hz : z ≠ -1) : Fst ts (s + 1) a b z := by
  rcases h with ⟨h1, h2⟩ | ⟨u, h1, h2, h3, h4⟩
  · exact absurd h1 hz
  · exact .inr ⟨u, by omega, h2, h3, h4⟩
structure EInv (ts : List (Nat × Nat × Nat)) (s : Nat) (k : P2) (e : E4) : Prop where
  ea : e.a = k.1
  eb : e.b = k.2
  lt : k.1 < k.2
  l : Fst ts s k.1 k.2 e.l
  r : Fst ts s k.2 k.1 e.r
  some : ∃ u, u < s ∧ (dirE ts u = (k.1, k.2) ∨ dirE ts u = (k.2, k.1))
theorem edS_inv (hd : ∀ u, u < 3 * ts.length → (dirE ts u).1 ≠ (dirE ts u).2) : ∀ s, s ≤ 3 * ts.length → (∀ k e, getM (edS ts s) k = some e → EInv ts s k e) ∧ (∀ k, getM (edS ts s) k = none → k.1 < k.2 → ∀ u, u < s → dirE ts u ≠ (k.1, k.2) ∧ dirE ts u ≠ (k.2, k.1))
  | 0, _ => ⟨fun k e h => (by cases h), fun k _ _ u hu => absurd hu (Nat.not_lt_zero _)⟩
  | s + 1, hs => by
    obtain ⟨i1, i2⟩ := edS_inv hd s (by omega)
    have hne := hd s (by omega)
    obtain ⟨a, ha⟩ : ∃ a, a = crT (ts.getD (s / 3) (0, 0, 0)) (s % 3) := ⟨_, rfl⟩
    obtain ⟨b, hb⟩ : ∃ b, b = crT (ts.getD (s / 3) (0, 0, 0)) ((s % 3 + 1) % 3) := ⟨_, rfl⟩
    have hdir : dirE ts s = (a, b) := by rw [ha, hb]; rfl
    rw [hdir] at hne
    have hE : edS ts (s + 1) = stpE (edS ts s) (s / 3) a b := by rw [ha, hb]; rfl
    rw [hE]
    unfold stpE
    have hky : (kyE a b).1 < (kyE a b).2 := by unfold kyE; simp only at hne ⊢; omega
    -- what the old edge, or the new one, knows
    have h0 : ∀ e0, e0 = (getM (edS ts s) (kyE a b)).getD (newE (kyE a b)) → e0.a = (kyE a b).1 ∧ e0.b = (kyE a b).2 ∧ Fst ts s (kyE a b).1 (kyE a b).2 e0.l ∧ Fst ts s (kyE a b).2 (kyE a b).1 e0.r := by
      intro e0 he0
      cases hg : getM (edS ts s) (kyE a b) with
      | none =>
        rw [hg] at he0
        have h2 := i2 _ hg hky
        subst he0
        exact ⟨rfl, rfl, Fst.none fun u hu => (h2 u hu).1, Fst.none fun u hu => (h2 u hu).2⟩
      | some e =>
        rw [hg] at he0
        have h2 := i1 _ _ hg
        subst he0
        exact ⟨h2.ea, h2.eb, h2.l, h2.r⟩
    constructor
    · intro k e hk
      rw [getM_put] at hk
      split at hk
      · rename_i e1
        injection hk with hk
        obtain ⟨c1, c2, c3, c4⟩ := h0 _ rfl
        obtain ⟨e0, he0⟩ : ∃ e0, e0 = (getM (edS ts s) (kyE a b)).getD (newE (kyE a b)) := ⟨_, rfl⟩
        rw [← he0] at hk c1 c2 c3 c4
        subst hk
        have hends := updE_ends e0 (s / 3) a b
        rw [e1]
        rcases Nat.lt_or_ge a b with hab | hab
        · have k1 : (kyE a b).1 = a := by unfold kyE; simp only; omega
          have k2 : (kyE a b).2 = b := by unfold kyE; simp only; omega
          rw [k1, k2] at c3 c4
          refine ⟨hends.1.trans c1, hends.2.trans c2, hky, ?_, ?_, s, by omega, .inl (by rw [k1, k2]; exact hdir)⟩ <;> rw [k1, k2]
          · unfold updE
            by_cases hl : e0.l = -1
            · rw [if_pos ⟨hab, hl⟩]
              rw [hl] at c3
              exact c3.take hdir
            · rw [if_neg (fun h => hl h.2), if_neg (fun h => by omega)]
              exact c3.keep hl
          · have hn2 : dirE ts s ≠ (b, a) := by rw [hdir]; intro h; injection h with h _; omega
            unfold updE
            split
            · exact c4.skip hn2
            · rw [if_neg (fun h => by omega)]
              exact c4.skip hn2
        · have hba : b < a := by simp only at hne; omega
          have k1 : (kyE a b).1 = b := by unfold kyE; simp only; omega
          have k2 : (kyE a b).2 = a := by unfold kyE; simp only; omega
          rw [k1, k2] at c3 c4
          have hn2 : dirE ts s ≠ (b, a) := by rw [hdir]; intro h; injection h with h _; omega
          refine ⟨hends.1.trans c1, hends.2.trans c2, hky, ?_, ?_, s, by omega, .inr (by rw [k1, k2]; exact hdir)⟩ <;> rw [k1, k2]
          · unfold updE
            rw [if_neg (fun h => by omega)]
            split
            · exact c3.skip hn2
            · exact c3.skip hn2
          · unfold updE
            rw [if_neg (fun h => by omega)]
            by_cases hl : e0.r = -1
            · rw [if_pos ⟨hba, hl⟩]
              rw [hl] at c4
              exact c4.take hdir
            · rw [if_neg (fun h => hl h.2)]
              exact c4.keep hl
      · rename_i e1
        obtain ⟨a1, a2, a3, a4, a5, u, a6, a7⟩ := i1 k e hk
        have n1 : dirE ts s ≠ (k.1, k.2) := by
          rw [hdir]; intro h; injection h with h1 h2
          exact e1 (Prod.ext (by unfold kyE; simp only; omega) (by unfold kyE; simp only; omega))
        have n2 : dirE ts s ≠ (k.2, k.1) := by
          rw [hdir]; intro h; injection h with h1 h2
          exact e1 (Prod.ext (by unfold kyE; simp only; omega) (by unfold kyE; simp only; omega))
        exact ⟨a1, a2, a3, a4.skip n1, a5.skip n2, u, by omega, a7⟩
    · intro k hk hlt u hu
      rw [getM_put] at hk
      split at hk
      · cases hk
      · rename_i e1
        rcases Nat.lt_or_ge u s with h | h
        · exact i2 k hk hlt u h
        · rw [show u = s by omega, hdir]
          constructor
          · intro h; injection h with h1 h2
            exact e1 (Prod.ext (by unfold kyE; simp only; omega) (by unfold kyE; simp only; omega))
          · intro h; injection h with h1 h2
            exact e1 (Prod.ext (by unfold kyE; simp only; omega) (by unfold kyE; simp only; omega))
theorem edL_inv {N : Nat} (hn : numB N ts = true) (hN : N ≤ 4611686018427387904) (hd : ∀ u, u < 3 * ts.length → (dirE ts u).1 ≠ (dirE ts u).2) {e : E4} (he : e ∈ edL ts) : EInv ts (3 * ts.length) (e.a, e.b) e := by
  unfold edL at he
  obtain ⟨p, hp, h1⟩ := List.mem_map.1 ((srtE_perm _).mem_iff.1 he)
  obtain ⟨j, hj, h2⟩ := List.getElem_of_mem hp
  have h3 := getM_at (x := p.1) (v := p.2) (edS_ok hn hN _ (Nat.le_refl _)).once (show (edS ts (3 * ts.length))[j]? = some (p.1, p.2) by rw [List.getElem?_eq_getElem hj, h2])
  have h4 := (edS_inv hd _ (Nat.le_refl _)).1 _ _ h3
  rw [h1] at h4
  rw [show (e.a, e.b) = p.1 from Prod.ext h4.ea h4.eb]
  exact h4
end
end
section
abbrev T3 := Nat × Nat × Nat
section
variable {ts ts' : List T3} {N : Nat}
def WayT (ts : List T3) (j a b : Nat) : Prop := ∃ r, r < 3 ∧ dirE ts (3 * j + r) = (a, b)
def FstT (ts : List T3) (n a b : Nat) (z : Int) : Prop := (z = -1 ∧ ∀ j, j < n → ¬ WayT ts j a b) ∨ ∃ j, j < n ∧ z = (j : Int) ∧ WayT ts j a b ∧ ∀ i, i < j → ¬ WayT ts i a b
theorem fst_tri {n a b : Nat} {z : Int} (h : Fst ts (3 * n) a b z) : FstT ts n a b z := by
  rcases h with ⟨h1, h2⟩ | ⟨u, h1, h2, h3, h4⟩
  · exact .inl ⟨h1, fun j hj ⟨r, hr, k⟩ => h2 _ (by omega) k⟩
  · exact .inr ⟨u / 3, by omega, h2, ⟨u % 3, by omega, by rw [show 3 * (u / 3) + u % 3 = u by omega]; exact h3⟩, fun i hi ⟨r, hr, k⟩ => h4 _ (by omega) k⟩
theorem fst_tri' {n a b : Nat} {z : Int} (h : FstT ts n a b z) : Fst ts (3 * n) a b z := by
  rcases h with ⟨h1, h2⟩ | ⟨j, h1, h2, ⟨r, hr, h3⟩, h4⟩
  · exact .inl ⟨h1, fun u hu k => h2 (u / 3) (by omega) ⟨u % 3, by omega, by rw [show 3 * (u / 3) + u % 3 = u by omega]; exact k⟩⟩
  · have key : ∀ m, m ≤ 3 → (∀ q, q < m → dirE ts (3 * j + q) ≠ (a, b)) ∨ ∃ q, q < m ∧ dirE ts (3 * j + q) = (a, b) ∧ ∀ p, p < q → dirE ts (3 * j + p) ≠ (a, b) := by
      intro m
      induction m with
      | zero => intro _; exact .inl fun q hq => absurd hq (Nat.not_lt_zero _)
      | succ m ih =>
        intro hm
        rcases ih (by omega) with h | ⟨q, h5, h6, h7⟩
        · by_cases k : dirE ts (3 * j + m) = (a, b)
          · exact .inr ⟨m, by omega, k, h⟩
          · refine .inl fun q hq => ?_
            rcases Nat.lt_or_ge q m with h8 | h8
            · exact h q h8
            · rw [show q = m by omega]; exact k
        · exact .inr ⟨q, by omega, h6, h7⟩
    rcases key 3 (Nat.le_refl _) with k | ⟨q, h5, h6, h7⟩
    · exact absurd h3 (k r hr)
    · refine .inr ⟨3 * j + q, by omega, by rw [h2]; congr 1; omega, h6, fun v hv k => ?_⟩
      rcases Nat.lt_or_ge v (3 * j) with h8 | h8
      · exact h4 (v / 3) (by omega) ⟨v % 3, by omega, by rw [show 3 * (v / 3) + v % 3 = v by omega]; exact k⟩
      · exact h7 (v - 3 * j) (by omega) (by rw [show 3 * j + (v - 3 * j) = v by omega]; exact k)
structure SameT (ts ts' : List T3) : Prop where
  len : ts.length = ts'.length
  way : ∀ j, j < ts.length → ∀ a b, WayT ts j a b ↔ WayT ts' j a b
theorem SameT.symm (h : SameT ts ts') : SameT ts' ts := ⟨h.len.symm, fun j hj a b => (h.way j (by rw [h.len]; exact hj) a b).symm⟩
theorem SameT.fst (h : SameT ts ts') {a b : Nat} {z : Int} (k : Fst ts (3 * ts.length) a b z) : Fst ts' (3 * ts'.length) a b z := by
  rw [← h.len]
  refine fst_tri' ?_
  rcases fst_tri k with ⟨h1, h2⟩ | ⟨j, h1, h2, h3, h4⟩
  · exact .inl ⟨h1, fun j hj k => h2 j hj ((h.way j hj a b).2 k)⟩
  · exact .inr ⟨j, h1, h2, (h.way j h1 a b).1 h3, fun i hi k => h4 i hi ((h.way i (by omega) a b).2 k)⟩
theorem SameT.inv (h : SameT ts ts') {e : E4} (k : EInv ts (3 * ts.length) (e.a, e.b) e) : EInv ts' (3 * ts'.length) (e.a, e.b) e := by
  obtain ⟨u, hu, hs⟩ := k.some
  refine ⟨k.ea, k.eb, k.lt, h.fst k.l, h.fst k.r, ?_⟩
  have key : ∀ a b, dirE ts u = (a, b) → ∃ v, v < 3 * ts'.length ∧ dirE ts' v = (a, b) := fun a b hd => by
    obtain ⟨r, hr, h3⟩ := (h.way (u / 3) (by omega) a b).1 ⟨u % 3, by omega, by rw [show 3 * (u / 3) + u % 3 = u by omega]; exact hd⟩
    exact ⟨3 * (u / 3) + r, by rw [← h.len]; omega, h3⟩
  rcases hs with hs | hs
  · obtain ⟨v, h1, h2⟩ := key _ _ hs; exact ⟨v, h1, .inl h2⟩
  · obtain ⟨v, h1, h2⟩ := key _ _ hs; exact ⟨v, h1, .inr h2⟩
end
end
section
section
variable {N M i : Nat} {es : List E4} {ts : List T3} {t : T3} {ss rs : List T3} {ps : List Pt}
end
end
section
theorem rowOk_lit (b n : Nat) : RowOk (some ⟨b, 0, none⟩) n n := ⟨fun e => (by cases e), fun a e => (by injection e with e; subst e; rfl), Nat.le_refl _⟩
theorem At.mx {w0 : Base} {S : Nat → Prop} {ps : List Pt} {ts ss : List T3} {x : MX ps ts ss} (h1 : At w0 S x.a) (h2 : At w0 S x.b) (h3 : At w0 S x.c) : At w0 S x := fun y hy b e => by
  have hy : y ∈ [x.a.row, x.b.row, x.c.row] := hy
  simp only [List.mem_cons, List.not_mem_nil, or_false] at hy
  rcases hy with rfl | rfl | rfl
  · exact h1 _ List.mem_cons_self b e
  · exact h2 _ List.mem_cons_self b e
  · exact h3 _ List.mem_cons_self b e
section
variable {P : Program} {ops : Array Oper} {rest : List Oper} {Q : Exit → Act → World → Prop} {n : Nat} {F : List (Nat × Value)} {w0 : Base} {S : Nat → Prop} {L : List As} {ps : List Pt} {ts ss : List T3}
end
theorem inX {α : Type} [Ref α] {w0 : Base} {w : World} {S : Nat → Prop} {L : List As} (hw : Own w0 w L) (is : List Nat) {a : α} (hi : (is.map fun i => L[i]?) = (Ref.rows a).map some) (ha : At w0 S a) : Ro (SL w0 S L) w a := fun y hy => by
  have h1 : some y ∈ (is.map fun i => L[i]?) := by rw [hi]; exact List.mem_map.2 ⟨y, hy, rfl⟩
  obtain ⟨i, _, h2⟩ := List.mem_map.1 h1
  have hm := List.mem_of_getElem? h2
  exact ⟨fun b e => (hw.2.1 y hm b e).2, fun b e => ⟨⟨y, hm, Ref.ro a y hy, e⟩, ha y hy b e⟩⟩
end
def ltL (p q : Pt) : Prop := p.x < q.x ∨ (p.x = q.x ∧ p.y < q.y)
instance (p q : Pt) : Decidable (ltL p q) := by unfold ltL; infer_instance
def lsP (a b : Pt) : Pt := if ltL b a then b else a
def grP (a b : Pt) : Pt := if ltL a b then b else a
def pceN (a b c d : Pt) : Nat := if ltL (lsP (grP a b) (grP c d)) (grP (lsP a b) (lsP c d)) then 0 else if grP (lsP a b) (lsP c d) = lsP (grP a b) (grP c d) then 1 else 2
def cutQ (a b c d : Pt) : Nat :=
  if turnP a b c = 0 ∧ turnP a b d = 0 ∧ turnP c d a = 0 ∧ turnP c d b = 0 then pceN a b c d
  else if 0 < (turnP a b c).num.sign * (turnP a b d).num.sign ∨ 0 < (turnP c d a).num.sign * (turnP c d b).num.sign then 0 else 1
theorem less_1 {p q : Pt} (h : cmpQ p.x q.x ≠ 0) : decide (cmpQ p.x q.x < 0) = decide (ltL p q) := by
  have h2 : ¬ p.x = q.x := fun e => h (cmpQ_eq.2 e)
  refine decide_eq_decide.2 ⟨fun k => .inl (cmpQ_lt.1 k), fun k => ?_⟩
  rcases k with k | k
  · exact cmpQ_lt.2 k
  · exact absurd k.1 h2
theorem less_2 {p q : Pt} (h : cmpQ p.x q.x = 0) : decide (cmpQ p.y q.y < 0) = decide (ltL p q) := by
  have h2 : p.x = q.x := cmpQ_eq.1 h
  refine decide_eq_decide.2 ⟨fun k => .inr ⟨h2, cmpQ_lt.1 k⟩, fun k => ?_⟩
  rcases k with k | k
  · rw [h2] at k; exact absurd k (by grind)
  · exact cmpQ_lt.2 k.2
theorem sgn_eq0 {x : Rat} (h : x.num.sign = 0) : x = 0 := by
  have := Int.sign_eq_zero_iff_zero.1 h
  exact Rat.num_eq_zero.1 this
theorem sgn_sq {x : Rat} (h : x ≠ 0) : 0 < x.num.sign * x.num.sign := by
  have h1 : x.num.sign ≠ 0 := fun e => h (sgn_eq0 e)
  rcases Int.lt_trichotomy x.num.sign 0 with k | k | k
  · exact Int.mul_pos_of_neg_of_neg k k
  · exact absurd k h1
  · exact Int.mul_pos k k
theorem cut_den {a b c d : Pt} (h1 : ¬ (turnP a b c = 0 ∧ turnP a b d = 0 ∧ turnP c d a = 0 ∧ turnP c d b = 0)) (h2 : ¬ (0 < (turnP a b c).num.sign * (turnP a b d).num.sign ∨ 0 < (turnP c d a).num.sign * (turnP c d b).num.sign)) : crossP (b - a) (d - c) ≠ 0 := fun e => by
  have e1 : turnP a b d = turnP a b c := by simp only [turnP, crossP, sub_x, sub_y] at *; grind
  have e2 : turnP c d b = turnP c d a := by simp only [turnP, crossP, sub_x, sub_y] at *; grind
  rw [e1, e2] at h1 h2
  by_cases k1 : turnP a b c = 0
  · by_cases k2 : turnP c d a = 0
    · exact h1 ⟨k1, k1, k2, k2⟩
    · exact h2 (.inr (sgn_sq k2))
  · exact h2 (.inl (sgn_sq k1))
theorem sgn_prod (x y : Rat) : -1 ≤ x.num.sign * y.num.sign ∧ x.num.sign * y.num.sign ≤ 1 := by
  have h : ∀ z : Int, z.sign = -1 ∨ z.sign = 0 ∨ z.sign = 1 := fun z => by rcases Int.lt_trichotomy z 0 with h | h | h <;> simp [Int.sign_eq_neg_one_of_neg, Int.sign_eq_one_of_pos, h]
  rcases h x.num with h1 | h1 | h1 <;> rcases h y.num with h2 | h2 | h2 <;> rw [h1, h2] <;> decide
theorem ls_sz {k : Nat} {a b : Pt} (ha : SzP a ≤ k) (hb : SzP b ≤ k) : SzP (lsP a b) ≤ k := by unfold lsP; split <;> assumption
theorem gr_sz {k : Nat} {a b : Pt} (ha : SzP a ≤ k) (hb : SzP b ≤ k) : SzP (grP a b) ≤ k := by unfold grP; split <;> assumption
theorem ro_blk {w : World} {b T n : Nat} {cs : List Value} (hl : w.heap[b]? = some (.cells cs.toArray T (0, 0))) : Ro (fun _ => True) w (⟨some ⟨b, 0, none⟩, n, rowOk_lit _ _⟩ : RX cs n) := fun y hy => by
  rcases List.mem_singleton.1 hy with rfl
  exact ⟨fun c e => (by injection e with e; subst e; exact ⟨_, hl, lies_blkB (T := T) rfl⟩), fun _ _ => trivial⟩
def pceP (a b c d : Pt) : Pt := if ltL (lsP (grP a b) (grP c d)) (grP (lsP a b) (lsP c d)) then ⟨0, 0⟩ else grP (lsP a b) (lsP c d)
def cutP (a b c d : Pt) : Pt :=
  if turnP a b c = 0 ∧ turnP a b d = 0 ∧ turnP c d a = 0 ∧ turnP c d b = 0 then pceP a b c d
  else if 0 < (turnP a b c).num.sign * (turnP a b d).num.sign ∨ 0 < (turnP c d a).num.sign * (turnP c d b).num.sign then ⟨0, 0⟩ else a + scaleP (b - a) (crossP (c - a) (d - c) / crossP (b - a) (d - c))
def m7 (m : MQ) (k : Nat) : List Nat := (m.cs.take k).map (· % 7)
theorem m7_succ {m : MQ} {k : Nat} (h : k < m.cs.length) : m7 m (k + 1) = m7 m k ++ [m.cs.getD k 0 % 7] := by
  unfold m7
  rw [List.take_add_one, List.getD, List.getElem?_eq_getElem h, List.map_append]; rfl
theorem m7_lt {m : MQ} {k x : Nat} (h : x ∈ m7 m k) : x < 7 := by
  obtain ⟨y, _, rfl⟩ := List.mem_map.1 h
  exact Nat.mod_lt _ (by decide)
def MQ.set7 (m : MQ) (p : Option Addr) (cap : Nat) (cs : List Nat) (h : ∀ x ∈ cs, x < 7) (ok : RowOk p cs.length cap) : MQ := { m with cs := cs, p := p, cap := cap, hcs := fun x hx => Nat.lt_trans (h x hx) (by decide), ok := ok }
theorem bytL_len {xs : List Nat} : (bytL xs).length = xs.length * 1 := by simp [bytL]
end Go.Proofs.YtnofgcpajmldkaaGreatDoor
