import Derived.Test.YtnofgcpajmldkaaGreatDoorPart03
namespace Go.Proofs.YtnofgcpajmldkaaGreatDoor
open Go Go.RowKit
set_option linter.unusedVariables false
set_option linter.unusedSimpArgs false
section
structure AggT (P : Program) (t : TypeId) (k : Nat) : Prop where
  a : ∀ w, (isAgg t).run P w = .ok true w
  s : ∀ w, (sizeOf t).run P w = .ok k w
structure OneT (P : Program) (t : TypeId) : Prop where
  a : ∀ w, (isAgg t).run P w = .ok false w
def ZeroT (P : Program) (t : TypeId) (cs : List Value) : Prop := ∃ u : Value, (∀ w, (zeroValue t).run P w = .ok u w) ∧ u.cells = cs.toArray
section
variable {P : Program} {ops : Array Oper} {rest : List Oper} {Q : Exit → Act → World → Prop} {n d i b off k : Nat} {F F' : List (Nat × Value)} {w0 : Base} {L Lro : List As} {op : Op} {t ty T : TypeId} {p : String} {af : Array Edge} {u v : Value} {x y : Operand} {l : List Oper} {specs : List Sp} {cs vs : List Value}
theorem blt_lt' {a b : Nat} (h : Nat.ble (a + 1) b = true) : a < b := Nat.le_of_ble_eq_true h
theorem mv (hx : evF F x = some v) (hd : Nat.ble (d + 1) n = true) (next : OkL P ops rest Q n ((d, v) :: F) w0 L) : OkL P ops (⟨some d, .move x, t, p, af, none⟩ :: rest) Q n F w0 L := OkL.step (wt_none rfl) (ex_move hx) rfl (blt_lt' hd) next
theorem asg (hx : evF F x = some v) (hd : Nat.ble (d + 1) n = true) (next : OkL P ops rest Q n ((d, v) :: F) w0 L) : OkL P ops (⟨some d, .assign x, t, p, af, none⟩ :: rest) Q n F w0 L := OkL.step (wt_none rfl) (ex_assign hx) rfl (blt_lt' hd) next
theorem take_all {cs : List Value} {k : Nat} (h : cs.length = k) : (cs.drop 0).take k = cs := by rw [List.drop_zero, List.take_of_length_le (by omega)]
theorem ldW (i : Nat) (ht : AggT P ty k) (hx : evF F x = some (pP b 0)) (hi : L[i]? = some (blk b T cs)) (hl : cs.length = k) (hd : Nat.ble (d + 1) n = true) (next : OkL P ops rest Q n ((d, aG cs) :: F) w0 L) :
    OkL P ops (⟨some d, .load ty x, t, p, af, none⟩ :: rest) Q n F w0 L := OkL.step (wt_none rfl) (ex_load_agg hx hi ht.a ht.s (take_all hl) hl) rfl (blt_lt' hd) next
theorem ldA (i : Nat) (vs : List Value) (ht : AggT P ty k) (hx : evF F x = some (pP b off)) (hi : L[i]? = some (blk b T cs)) (hv : (cs.drop off).take k = vs) (hl : vs.length = k) (hd : Nat.ble (d + 1) n = true) (next : OkL P ops rest Q n ((d, aG vs) :: F) w0 L) :
    OkL P ops (⟨some d, .load ty x, t, p, af, none⟩ :: rest) Q n F w0 L := OkL.step (wt_none rfl) (ex_load_agg hx hi ht.a ht.s hv hl) rfl (blt_lt' hd) next
theorem ldO (i : Nat) (v : Value) (ht : OneT P ty) (hx : evF F x = some (pP b off)) (hi : L[i]? = some (blk b T cs)) (hv : cs[off]? = some v) (hd : Nat.ble (d + 1) n = true) (next : OkL P ops rest Q n ((d, v) :: F) w0 L) :
    OkL P ops (⟨some d, .load ty x, t, p, af, none⟩ :: rest) Q n F w0 L := OkL.step (wt_none rfl) (ex_load_one hx hi ht.a hv) rfl (blt_lt' hd) next
theorem bx (hx : evF F x = some v) (hv : v.cells = cs.toArray) (hd : Nat.ble (d + 1) n = true) (next : ∀ b, OkL P ops rest Q n ((d, pP b 0) :: F) w0 (blk b T cs :: L)) : OkL P ops (⟨some d, .box T x, t, p, af, none⟩ :: rest) Q n F w0 L :=
  OkL.open_ (wt_none rfl) (op_box hx hv) rfl (blt_lt' hd) next
theorem al (hz : ZeroT P T cs) (hd : Nat.ble (d + 1) n = true) (next : ∀ b, OkL P ops rest Q n ((d, pP b 0) :: F) w0 (blk b T cs :: L)) : OkL P ops (⟨some d, .alloc T, t, p, af, none⟩ :: rest) Q n F w0 L :=
  have ⟨_, h1, h2⟩ := hz
  OkL.open_ (wt_none rfl) (op_alloc h1 h2) rfl (blt_lt' hd) next
theorem cl {f : FuncId} {xs : List Operand} {args : List Value} {ts : Array TypeId} (hc : ∀ args w, (callFunc f args).run P w = .ok (.enter f args) w) (h : ∀ w, Own w0 w L → Calls P f args.toArray w (Gives w v))
    (hf : evF F x = some (.func (.func f) #[] #[])) (hargs : xs.map (evF F) = args.map some) (hd : Nat.ble (d + 1) n = true) (next : OkL P ops rest Q n ((d, v) :: F) w0 L) :
    OkL P ops (⟨some d, .call { callee := .value x, args := xs.toArray, argTypes := ts }, t, p, af, none⟩ :: rest) Q n F w0 L := OkL.call (wt_none rfl) (op_call0 hf hargs hc) h rfl (blt_lt' hd) next
theorem lay_all {cs vs : List Value} (h : vs.length = cs.length) : lay cs 0 vs = vs := by simp [lay, h]
theorem storeW {L' : List As} (hx : evF F x = some (pP b 0)) (hy : evF F y = some v) (hi : L[i]? = some (blk b T cs)) (hv : v.cells = vs.toArray) (hs : ∀ w, (sizeOf ty).run P w = .ok vs.length w) (h1 : (vs.all fun u => u.oneCell') = true) (hl : vs.length = cs.length)
    (hL : L.set i (blk b T vs) = L') (next : OkL P ops rest Q n F w0 L') : OkL P ops (⟨none, .store ty x y, t, p, af, none⟩ :: rest) Q n F w0 L := OkL.store' (wt_none rfl) rfl hx hy hi hv hs h1 (Nat.ble_eq_true_of_le (by omega)) (lay_all hl) hL next
theorem storeWH {L' : List As} (hro : Lro.Sublist L') (hx : evF F x = some (pP b 0)) (hy : evF F y = some v) (hi : L[i]? = some (blk b T cs)) (hv : v.cells = vs.toArray) (hs : ∀ w, (sizeOf ty).run P w = .ok vs.length w) (h1 : (vs.all fun u => u.oneCell') = true) (hl : vs.length = cs.length)
    (hL : L.set i (blk b T vs) = L') (next : OkLH P ops rest Q n F w0 Lro L') : OkLH P ops (⟨none, .store ty x y, t, p, af, none⟩ :: rest) Q n F w0 Lro L := OkLH.store' hro (wt_none rfl) rfl hx hy hi hv hs h1 (Nat.ble_eq_true_of_le (by omega)) (lay_all hl) hL next
variable {A0 A1 A2 A3 A4 A5 : As}
theorem stW0 (hx : evF F x = some (pP b 0)) (hy : evF F y = some v) (hv : v.cells = vs.toArray) (hs : ∀ w, (sizeOf ty).run P w = .ok vs.length w) (h1 : (vs.all fun u => u.oneCell') = true) (hl : vs.length = cs.length)
    (next : OkL P ops rest Q n F w0 (blk b T vs :: L)) : OkL P ops (⟨none, .store ty x y, t, p, af, none⟩ :: rest) Q n F w0 (blk b T cs :: L) := storeW (i := 0) hx hy rfl hv hs h1 hl rfl next
theorem stW1 (hx : evF F x = some (pP b 0)) (hy : evF F y = some v) (hv : v.cells = vs.toArray) (hs : ∀ w, (sizeOf ty).run P w = .ok vs.length w) (h1 : (vs.all fun u => u.oneCell') = true) (hl : vs.length = cs.length)
    (next : OkL P ops rest Q n F w0 (A0 :: blk b T vs :: L)) : OkL P ops (⟨none, .store ty x y, t, p, af, none⟩ :: rest) Q n F w0 (A0 :: blk b T cs :: L) := storeW (i := 1) hx hy rfl hv hs h1 hl rfl next
theorem stW2 (hx : evF F x = some (pP b 0)) (hy : evF F y = some v) (hv : v.cells = vs.toArray) (hs : ∀ w, (sizeOf ty).run P w = .ok vs.length w) (h1 : (vs.all fun u => u.oneCell') = true) (hl : vs.length = cs.length)
    (next : OkL P ops rest Q n F w0 (A0 :: A1 :: blk b T vs :: L)) : OkL P ops (⟨none, .store ty x y, t, p, af, none⟩ :: rest) Q n F w0 (A0 :: A1 :: blk b T cs :: L) := storeW (i := 2) hx hy rfl hv hs h1 hl rfl next
theorem stW3 (hx : evF F x = some (pP b 0)) (hy : evF F y = some v) (hv : v.cells = vs.toArray) (hs : ∀ w, (sizeOf ty).run P w = .ok vs.length w) (h1 : (vs.all fun u => u.oneCell') = true) (hl : vs.length = cs.length)
    (next : OkL P ops rest Q n F w0 (A0 :: A1 :: A2 :: blk b T vs :: L)) : OkL P ops (⟨none, .store ty x y, t, p, af, none⟩ :: rest) Q n F w0 (A0 :: A1 :: A2 :: blk b T cs :: L) := storeW (i := 3) hx hy rfl hv hs h1 hl rfl next
theorem stH1 (hro : Lro.Sublist (A0 :: blk b T vs :: L)) (hx : evF F x = some (pP b 0)) (hy : evF F y = some v) (hv : v.cells = vs.toArray) (hs : ∀ w, (sizeOf ty).run P w = .ok vs.length w) (h1 : (vs.all fun u => u.oneCell') = true) (hl : vs.length = cs.length)
    (next : OkLH P ops rest Q n F w0 Lro (A0 :: blk b T vs :: L)) : OkLH P ops (⟨none, .store ty x y, t, p, af, none⟩ :: rest) Q n F w0 Lro (A0 :: blk b T cs :: L) := storeWH (i := 1) hro hx hy rfl hv hs h1 hl rfl next
theorem sr {L : List As} : L.Sublist L := List.Sublist.refl _
theorem sl {a : As} {l1 l2 : List As} (h : l1.Sublist l2) : l1.Sublist (a :: l2) := List.Sublist.cons _ h
theorem sk {a : As} {l1 l2 : List As} (h : l1.Sublist l2) : (a :: l1).Sublist (a :: l2) := List.Sublist.cons_cons _ h
def zipK : List Nat → List Value → List (Nat × Value)
  | k :: ks, v :: vs => (k, v) :: zipK ks vs
  | _, _ => []
theorem vcP {v : Value} {G : List (Nat × Value)} {dd : Option Tmp} (hG : ∀ β, lkL (preF l specs β ⟨dd, op, t, p, af, none⟩ ++ F) G = vsL G) (h : ∀ w0, Ex P n G w0 [] ⟨dd, op, t, p, af, none⟩ v) : Vc P n l specs F w0 Lro L ⟨dd, op, t, p, af, none⟩ ⟨.pure, fun _ => v, [], noA, noC⟩ :=
  vc_pure (G := fun _ => G) (fun β => sF (hG β)) (fun _ => wt_none rfl) (fun _ w => h w)
theorem vcM (s : Nat) (v : Value) {dd : Option Tmp} (hG : ∀ β, lkL (preF l specs β ⟨dd, .move (.tmp s), t, p, af, none⟩ ++ F) [(s, v)] = vsL [(s, v)]) : Vc P n l specs F w0 Lro L ⟨dd, .move (.tmp s), t, p, af, none⟩ ⟨.pure, fun _ => v, [], noA, noC⟩ :=
  vcP hG (fun _ => ex_move (by simp [evF]))
theorem vcH {v : Value} {G : List (Nat × Value)} {dd : Option Tmp} (hG : ∀ β, lkL (preF l specs β ⟨dd, op, t, p, af, none⟩ ++ F) G = vsL G) (h : Ex P n G w0 Lro ⟨dd, op, t, p, af, none⟩ v) : Vc P n l specs F w0 Lro L ⟨dd, op, t, p, af, none⟩ ⟨.held, fun _ => v, [], noA, noC⟩ :=
  vc_held (G := fun _ => G) (fun β => sF (hG β)) (fun _ => wt_none rfl) (fun _ => h)
theorem vcW (i s : Nat) {dd : Option Tmp} (ht : AggT P ty k) (hi : Lro[i]? = some (blk b T cs)) (hl : cs.length = k) (hG : ∀ β, lkL (preF l specs β ⟨dd, .load ty (.tmp s), t, p, af, none⟩ ++ F) [(s, pP b 0)] = vsL [(s, pP b 0)]) :
    Vc P n l specs F w0 Lro L ⟨dd, .load ty (.tmp s), t, p, af, none⟩ ⟨.held, fun _ => aG cs, [], noA, noC⟩ :=
  vcH hG (ex_load_agg (i := i) (by simp [evF]) hi ht.a ht.s (take_all hl) hl)
theorem vcK (ss : List Nat) {f : FuncId} {xs : List Operand} {args : List Value} {ts : Array TypeId} {v : Value} {dd : Option Tmp} (hc : ∀ args w, (callFunc f args).run P w = .ok (.enter f args) w)
    (h : ∀ w, Own w0 w L → Calls P f args.toArray w (Gives w v)) (hf : evF [] x = some (.func (.func f) #[] #[])) (hargs : xs.map (evF (zipK ss args)) = args.map some)
    (hG : ∀ β, lkL (preF l specs β ⟨dd, .call { callee := .value x, args := xs.toArray, argTypes := ts }, t, p, af, none⟩ ++ F) (zipK ss args) = vsL (zipK ss args)) :
    Vc P n l specs F w0 Lro L ⟨dd, .call { callee := .value x, args := xs.toArray, argTypes := ts }, t, p, af, none⟩ ⟨.call, fun _ => v, [], noA, noC⟩ :=
  vc_call (G := fun _ => zipK ss args) (fun β => sF (hG β)) (fun _ => wt_none rfl) (fun _ => op_call0 (by cases x <;> simp_all [evF]) hargs hc) (fun _ w hw => h w hw)
end
theorem dA {Q : Exit → Act → World → Prop} {n : Nat} {F : List (Nat × Value)} {w0 : Base} {L Lro : List As} {l : List Oper} {specs : List Sp} {id : Nat} (hro : Lro.Sublist L) (hdep : DepAll 0 specs)
    (hA : chkR n l specs = true → VcAll Tryz.prog n l specs F w0 Lro L l specs) (hc : chkR n l specs = true)
    (hF : ((List.range specs.length).all fun j => match (l[j]?).bind (·.dst) with | some d => (F.lookup d).isNone | none => false) = true)
    (hQ : ∀ c a d v w, Q (.panic c) (a.put d v) w → Q (.panic c) a w)
    (hB : ∀ β, Cs specs β (List.range specs.length) → OkLH Tryz.prog l.toArray (l.drop specs.length) Q n (allF l specs β ++ F) w0 Lro (newL specs β ++ L)) : OkC Tryz.prog (.region id l.toArray true) Q n F w0 L :=
  OkC.drawn hro (Deps.of hdep) follows_mixed hc hF hQ (vcs_of _ _ (hA hc)) hB
section
variable {P : Program} {ops : Array Oper} {rest : List Oper} {Q : Exit → Act → World → Prop} {n : Nat} {F F' : List (Nat × Value)} {w0 : Base} {L Lro : List As} {specs : List Sp} {β : Nat → Value} {A0 A1 A2 A3 : As}
theorem hS0 (hs : lkL F F' = vsL F') (hn : newL specs β = []) (h : OkLH P ops rest Q n F' w0 Lro L) : OkLH P ops rest Q n F w0 Lro (newL specs β ++ L) := OkLH.sub (sF hs) (by rw [hn]; exact List.Sublist.refl _) h
end
def pickF (F : List (Nat × Value)) : List Nat → Option (List (Nat × Value))
  | [] => some []
  | k :: ks => match F.lookup k with
    | some v => match pickF F ks with
      | some r => some ((k, v) :: r)
      | none => none
    | none => none
theorem sL : ∀ (ks : List Nat) {F F' : List (Nat × Value)}, pickF F ks = some F' → SubF F' F
  | [], _, _, h => by injection h with h; subst h; trivial
  | k :: ks, F, F', h => by
    unfold pickF at h
    split at h
    · rename_i v hv
      split at h
      · rename_i r hr
        injection h with h; subst h
        exact ⟨hv, sL ks hr⟩
      · cases h
    · cases h
def setL : List As → Nat → As → Option (List As)
  | [], _, _ => none
  | _ :: r, 0, y => some (y :: r)
  | x :: r, i + 1, y => match setL r i y with
    | some r' => some (x :: r')
    | none => none
theorem setL_eq : ∀ {L : List As} {i : Nat} {y : As} {L' : List As}, setL L i y = some L' → L.set i y = L'
  | [], _, _, _, h => by cases h
  | _ :: r, 0, y, _, h => by injection h
  | x :: r, i + 1, y, L', h => by
    unfold setL at h
    split at h
    · rename_i r' hr
      injection h with h; subst h
      rw [List.set_cons_succ, setL_eq hr]
    · cases h
section
variable {α β γ δ ε : Type} {a a' : α} {b b' : β} {c c' : γ} {d d' : δ} {e e' : ε}
theorem t21 (h : (a, b) = (a', b')) : a = a' := congrArg Prod.fst h
theorem t22 (h : (a, b) = (a', b')) : b = b' := congrArg Prod.snd h
end
section
variable {P : Program} {ops : Array Oper} {rest : List Oper} {Q : Exit → Act → World → Prop} {n d i b off k : Nat} {F F' : List (Nat × Value)} {w0 : Base} {L L' Lro : List As} {op : Op} {t ty T : TypeId} {p : String} {af : Array Edge} {u v : Value} {x y : Operand} {l : List Oper} {specs : List Sp} {cs vs : List Value} {o : Oper} {j : Nat} {g : Option (Nat × Bool)}
theorem wt_some' {t : Nat} {b : Bool} (h : (o.guard, (ops[j]?).bind (·.dst), F.lookup t) = (some (j, b), some t, some (.bool b))) : Wt ops n F o := wt_some (t21 h) (t21 (t22 h)) (t22 (t22 h))
theorem wt_not' {t : Nat} {b : Bool} (h : (o.guard, (ops[j]?).bind (·.dst), F.lookup t) = (some (j, b), some t, some (.bool (!b)))) : ∀ a, Frm n a F → Region.wanted o (yielded ops a.tmps) = false := wt_not (t21 h) (t21 (t22 h)) (t22 (t22 h))
theorem st' (he : Ex P n F w0 L ⟨some d, op, t, p, af, none⟩ v) (hd : Nat.ble (d + 1) n = true) (next : OkL P ops rest Q n ((d, v) :: F) w0 L) : OkL P ops (⟨some d, op, t, p, af, none⟩ :: rest) Q n F w0 L := st he (blt_lt' hd) next
theorem mv' (h : (evF F x, Nat.ble (d + 1) n) = (some v, true)) (next : OkL P ops rest Q n ((d, v) :: F) w0 L) : OkL P ops (⟨some d, .move x, t, p, af, none⟩ :: rest) Q n F w0 L := mv (t21 h) (t22 h) next
theorem asg' (h : (evF F x, Nat.ble (d + 1) n) = (some v, true)) (next : OkL P ops rest Q n ((d, v) :: F) w0 L) : OkL P ops (⟨some d, .assign x, t, p, af, none⟩ :: rest) Q n F w0 L := asg (t21 h) (t22 h) next
theorem ldW' (i : Nat) (ht : AggT P ty k) (h : (evF F x, L[i]?, cs.length, Nat.ble (d + 1) n) = (some (pP b 0), some (blk b T cs), k, true)) (next : OkL P ops rest Q n ((d, aG cs) :: F) w0 L) :
    OkL P ops (⟨some d, .load ty x, t, p, af, none⟩ :: rest) Q n F w0 L := ldW i ht (t21 h) (t21 (t22 h)) (t21 (t22 (t22 h))) (t22 (t22 (t22 h))) next
theorem ldA' (i : Nat) (vs : List Value) (ht : AggT P ty k) (h : (evF F x, L[i]?, (cs.drop off).take k, vs.length, Nat.ble (d + 1) n) = (some (pP b off), some (blk b T cs), vs, k, true)) (next : OkL P ops rest Q n ((d, aG vs) :: F) w0 L) :
    OkL P ops (⟨some d, .load ty x, t, p, af, none⟩ :: rest) Q n F w0 L := ldA i vs ht (t21 h) (t21 (t22 h)) (t21 (t22 (t22 h))) (t21 (t22 (t22 (t22 h)))) (t22 (t22 (t22 (t22 h)))) next
theorem ldO' (i : Nat) (v : Value) (ht : OneT P ty) (h : (evF F x, L[i]?, cs[off]?, Nat.ble (d + 1) n) = (some (pP b off), some (blk b T cs), some v, true)) (next : OkL P ops rest Q n ((d, v) :: F) w0 L) :
    OkL P ops (⟨some d, .load ty x, t, p, af, none⟩ :: rest) Q n F w0 L := ldO i v ht (t21 h) (t21 (t22 h)) (t21 (t22 (t22 h))) (t22 (t22 (t22 h))) next
theorem bx' (h : (evF F x, v.cells, Nat.ble (d + 1) n) = (some v, cs.toArray, true)) (next : ∀ b, OkL P ops rest Q n ((d, pP b 0) :: F) w0 (blk b T cs :: L)) : OkL P ops (⟨some d, .box T x, t, p, af, none⟩ :: rest) Q n F w0 L :=
  bx (t21 h) (t21 (t22 h)) (t22 (t22 h)) next
theorem cl' {f : FuncId} {xs : List Operand} {args : List Value} {ts : Array TypeId} (hc : ∀ args w, (callFunc f args).run P w = .ok (.enter f args) w) (h : ∀ w, Own w0 w L → Calls P f args.toArray w (Gives w v))
    (h2 : (evF F x, xs.map (evF F), Nat.ble (d + 1) n) = (some (.func (.func f) #[] #[]), args.map some, true)) (next : OkL P ops rest Q n ((d, v) :: F) w0 L) :
    OkL P ops (⟨some d, .call { callee := .value x, args := xs.toArray, argTypes := ts }, t, p, af, none⟩ :: rest) Q n F w0 L := cl hc h (t21 h2) (t21 (t22 h2)) (t22 (t22 h2)) next
theorem ck' {f : FuncId} {xs : List Operand} {args : List Value} {ts : Array TypeId} (hc : ∀ args w, (callFunc f args).run P w = .ok (.enter f args) w) (h : ∀ w, Calls P f args.toArray w (Gives w v))
    (h2 : (evF F x, xs.map (evF F), Nat.ble (d + 1) n) = (some (.func (.func f) #[] #[]), args.map some, true)) (next : OkL P ops rest Q n ((d, v) :: F) w0 L) :
    OkL P ops (⟨some d, .call { callee := .value x, args := xs.toArray, argTypes := ts }, t, p, af, none⟩ :: rest) Q n F w0 L := cl' hc (fun w _ => h w) h2 next
variable {A0 A1 A2 A3 A4 A5 : As}
theorem stW0' (h : (evF F x, evF F y, v.cells) = (some (pP b 0), some v, vs.toArray)) (hs : ∀ w, (sizeOf ty).run P w = .ok vs.length w) (h2 : (vs.all fun u => u.oneCell', vs.length) = (true, cs.length))
    (next : OkL P ops rest Q n F w0 (blk b T vs :: L)) : OkL P ops (⟨none, .store ty x y, t, p, af, none⟩ :: rest) Q n F w0 (blk b T cs :: L) := stW0 (t21 h) (t21 (t22 h)) (t22 (t22 h)) hs (t21 h2) (t22 h2) next
theorem stW1' (h : (evF F x, evF F y, v.cells) = (some (pP b 0), some v, vs.toArray)) (hs : ∀ w, (sizeOf ty).run P w = .ok vs.length w) (h2 : (vs.all fun u => u.oneCell', vs.length) = (true, cs.length))
    (next : OkL P ops rest Q n F w0 (A0 :: blk b T vs :: L)) : OkL P ops (⟨none, .store ty x y, t, p, af, none⟩ :: rest) Q n F w0 (A0 :: blk b T cs :: L) := stW1 (t21 h) (t21 (t22 h)) (t22 (t22 h)) hs (t21 h2) (t22 h2) next
theorem stW2' (h : (evF F x, evF F y, v.cells) = (some (pP b 0), some v, vs.toArray)) (hs : ∀ w, (sizeOf ty).run P w = .ok vs.length w) (h2 : (vs.all fun u => u.oneCell', vs.length) = (true, cs.length))
    (next : OkL P ops rest Q n F w0 (A0 :: A1 :: blk b T vs :: L)) : OkL P ops (⟨none, .store ty x y, t, p, af, none⟩ :: rest) Q n F w0 (A0 :: A1 :: blk b T cs :: L) := stW2 (t21 h) (t21 (t22 h)) (t22 (t22 h)) hs (t21 h2) (t22 h2) next
theorem stW3' (h : (evF F x, evF F y, v.cells) = (some (pP b 0), some v, vs.toArray)) (hs : ∀ w, (sizeOf ty).run P w = .ok vs.length w) (h2 : (vs.all fun u => u.oneCell', vs.length) = (true, cs.length))
    (next : OkL P ops rest Q n F w0 (A0 :: A1 :: A2 :: blk b T vs :: L)) : OkL P ops (⟨none, .store ty x y, t, p, af, none⟩ :: rest) Q n F w0 (A0 :: A1 :: A2 :: blk b T cs :: L) := stW3 (t21 h) (t21 (t22 h)) (t22 (t22 h)) hs (t21 h2) (t22 h2) next
theorem stX (i : Nat) {v : Value} {cs' : List Value} (hw : Wt ops n F ⟨none, .store ty x y, t, p, af, g⟩) (h : (evF F x, evF F y, L[i]?, v.cells) = (some (pP b off), some v, some (blk b T cs), vs.toArray))
    (hs : ∀ w, (sizeOf ty).run P w = .ok vs.length w) (h2 : (vs.all fun u => u.oneCell', Nat.ble (off + vs.length) cs.length, lay cs off vs, setL L i (blk b T cs')) = (true, true, cs', some L')) (next : OkL P ops rest Q n F w0 L') : OkL P ops (⟨none, .store ty x y, t, p, af, g⟩ :: rest) Q n F w0 L :=
  OkL.store' hw rfl (t21 h) (t21 (t22 h)) (t21 (t22 (t22 h))) (t22 (t22 (t22 h))) hs (t21 h2) (t21 (t22 h2)) (t21 (t22 (t22 h2))) (setL_eq (t22 (t22 (t22 h2)))) next
end
end
end Go.Proofs.YtnofgcpajmldkaaGreatDoor
