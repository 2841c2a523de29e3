import Derived.Test.YtmejjgmpkelaiaaGreatDoorPart28
namespace Go.Proofs.YtmejjgmpkelaiaaGreatDoor
open Go Go.RowKit
set_option linter.unusedVariables false
set_option linter.unusedSimpArgs false
section
structure MX (ps : List Pt) (ts ss : List (Nat × Nat × Nat)) where
  a : RX (rowsL ptL ps) ps.length
  b : RX (rowsL t3L ts) ts.length
  c : RX (rowsL t3L ss) ss.length
def mxL {ps : List Pt} {ts ss : List (Nat × Nat × Nat)} (x : MX ps ts ss) : List Value := [x.a.val, x.b.val, x.c.val]
theorem mx_ro {ps : List Pt} {ts ss : List (Nat × Nat × Nat)} {x : MX ps ts ss} {y : As} (hy : y ∈ [x.a.row, x.b.row, x.c.row]) : y.ro = true := by
  simp only [List.mem_cons, List.not_mem_nil, or_false] at hy
  rcases hy with rfl | rfl | rfl <;> rfl
instance {ps : List Pt} {ts ss : List (Nat × Nat × Nat)} : Ref (MX ps ts ss) := ⟨fun x => aG (mxL x), fun x => [x.a.row, x.b.row, x.c.row], fun x y hy => mx_ro hy⟩
def MG.mx (g : MG) : MX g.ps g.ts g.ss := ⟨g.a, g.b, g.c⟩
structure BX (cs : List Value) where
  b : Nat
instance {cs : List Value} : Ref (BX cs) := ⟨fun x => pP x.b 0, fun x => [rowR (some ⟨x.b, 0, none⟩) cs], fun x y hy => by rcases List.mem_singleton.1 hy with rfl; rfl⟩
theorem lies_blkB {b : Nat} {T : TypeId} {cs : List Value} {o : Obj} (h : (blk b T cs).P o) : (rowR (some ⟨b, 0, none⟩) cs).P o := ⟨cs.toArray, T, (0, 0), h, by show (cs.toArray.toList.drop 0).take cs.length = cs; simp⟩
section
variable {S : Nat → Prop} {w W : World} {w0 : Base} {L : List As} {ps : List Pt} {ts ss : List (Nat × Nat × Nat)} {cs : List Value}
theorem roMb {x : MX ps ts ss} (h : Ro S w x) : Ro S w x.b := fun y hy => by rcases List.mem_singleton.1 hy with rfl; exact h _ (List.mem_cons_of_mem _ List.mem_cons_self)
theorem inB (hw : Own w0 w L) (i : Nat) {x : BX cs} (hi : L[i]? = some (rowR (some ⟨x.b, 0, none⟩) cs)) (hb : w0.w.heap.size ≤ x.b) : Ro (SL w0 S L) w x := fun y hy => by
  rcases List.mem_singleton.1 hy with rfl
  exact ⟨hw.holds hi, fun c e => ⟨⟨_, List.mem_of_getElem? hi, rfl, e⟩, .inl (by injection e with e; rw [← e]; exact hb)⟩⟩
end
section
variable {P : Program} {ops : Array Oper} {rest : List Oper} {Q : Exit → Act → World → Prop} {n d : Nat} {F : List (Nat × Value)} {w0 : Base} {S : Nat → Prop} {L : List As} {t : TypeId} {p : String} {af : Array Edge} {y : Operand} {f : FuncId} {xs : List Operand} {args : List Value} {ts : Array TypeId}
theorem OkL.frzX (i : Nat) {b : Nat} {T : TypeId} {cs : List Value} (hi : L[i]? = some (blk b T cs)) (hex : w0.ex = none) (next : w0.w.heap.size ≤ b → OkL P ops rest Q n F w0 (L.set i (rowR (some ⟨b, 0, none⟩) cs))) : OkL P ops rest Q n F w0 L := fun a w ha hw => by
  refine next ?_ a w ha (hw.freeze hi rfl (fun o hp => lies_blkB hp) (fun e => by cases e))
  rcases (hw.2.1 _ (List.mem_of_getElem? hi) b rfl).1 with h1 | h1 | h1
  · cases h1
  · exact h1
  · rw [hex] at h1; cases h1
end
def okT (n : Nat) (t : Nat × Nat × Nat) : Bool := decide (t.1 < n) && decide (t.2.1 < n) && decide (t.2.2 < n) && !decide (t.1 = t.2.1) && !decide (t.2.1 = t.2.2) && !decide (t.2.2 = t.1)
def numB (n : Nat) (ts : List (Nat × Nat × Nat)) : Bool := ts.all (okT n)
theorem numB_good {ps : List Pt} {ts : List (Nat × Nat × Nat)} (h : GoodM ps ts) : numB ps.length ts = true := List.all_eq_true.2 fun t ht => by
  obtain ⟨j, hj, rfl⟩ := List.getElem_of_mem ht
  have k := h.tri j hj
  rw [show ts.getD j (0, 0, 0) = ts[j] by rw [List.getD, List.getElem?_eq_getElem hj]; rfl] at k
  simp [okT, k.a, k.b, k.c, k.ab, k.bc, k.ca]
theorem numB_at {n : Nat} {ts : List (Nat × Nat × Nat)} (h : numB n ts = true) {j : Nat} (hj : j < ts.length) : okT n (ts.getD j (0, 0, 0)) = true := by
  rw [List.getD, List.getElem?_eq_getElem hj]
  exact List.all_eq_true.1 h _ (List.getElem_mem hj)
theorem okT_spec {n : Nat} {t : Nat × Nat × Nat} (h : okT n t = true) : t.1 < n ∧ t.2.1 < n ∧ t.2.2 < n := by
  simp [okT] at h; omega
def idxB (n : Nat) : List (Nat × Nat × Nat) → Nat → Int
  | [], _ => -1
  | t :: r, i => if okT n t = true then idxB n r (i + 1) else (i : Int)
theorem drop_at {α : Type} {ts : List α} {d : α} {j : Nat} (hj : j < ts.length) : ts.drop j = ts.getD j d :: ts.drop (j + 1) := by
  rw [List.drop_eq_getElem_cons hj, List.getD, List.getElem?_eq_getElem hj]; rfl
theorem idxB_step {n : Nat} {ts : List (Nat × Nat × Nat)} {j : Nat} (hj : j < ts.length) (h : okT n (ts.getD j (0, 0, 0)) = true) : idxB n (ts.drop j) j = idxB n (ts.drop (j + 1)) (j + 1) := by
  rw [drop_at (d := (0, 0, 0)) hj]; exact if_pos h
theorem idxB_hit {n : Nat} {ts : List (Nat × Nat × Nat)} {j : Nat} (hj : j < ts.length) (h : okT n (ts.getD j (0, 0, 0)) = false) : idxB n (ts.drop j) j = (j : Int) := by
  rw [drop_at (d := (0, 0, 0)) hj]; exact if_neg (by rw [h]; exact Bool.false_ne_true)
theorem idxB_end {n : Nat} {ts : List (Nat × Nat × Nat)} {j : Nat} (hj : ¬ j < ts.length) : idxB n (ts.drop j) j = -1 := by
  rw [List.drop_of_length_le (by omega)]; rfl
theorem idxB_sign (n : Nat) : ∀ (ts : List (Nat × Nat × Nat)) (i : Nat), decide (0 ≤ idxB n ts i) = !numB n ts
  | [], i => rfl
  | t :: r, i => by
    unfold idxB numB
    rw [List.all_cons]
    cases h : okT n t with
    | true => rw [if_pos rfl, Bool.true_and]; exact idxB_sign n r (i + 1)
    | false => rw [if_neg Bool.false_ne_true, Bool.false_and]; simp
def cor (ps : List Pt) (k : Nat) : Pt := ps.getD k ⟨0, 0⟩
def whereV (a b c p : Pt) : Nat := if turnP a b c = 0 then 0 else whereN (turnP p b c / turnP a b c) (turnP a p c / turnP a b c) (turnP a b p / turnP a b c)
def whereT (ps : List Pt) (q : Pt) (t : Nat × Nat × Nat) : Nat := whereV (cor ps t.1) (cor ps t.2.1) (cor ps t.2.2) q
def findAt (ps : List Pt) (q : Pt) : List (Nat × Nat × Nat) → Nat → Int × Nat
  | [], _ => (-1, 0)
  | t :: r, i => if whereT ps q t = 0 then findAt ps q r (i + 1) else ((i : Int), whereT ps q t)
end
end Go.Proofs.YtmejjgmpkelaiaaGreatDoor
