import Derived.Test.YtgiacpkjnikjdaaGreatPart02
namespace Go.Proofs.YtgiacpkjnikjdaaGreat
open Go Go.RowKit
set_option linter.unusedVariables false
set_option linter.unusedSimpArgs false
section
def digs (f : Nat) (v : Nat) : List Nat :=
  match f with
  | 0 => []
  | f + 1 => if v = 0 then [] else v % 4294967296 :: digs f (v / 4294967296)
def wordsOf (v : Nat) : List Nat := digs v v
def bytes4 (x : Nat) : List UInt8 := [(x % 256).toUInt8, (x / 256 % 256).toUInt8, (x / 65536 % 256).toUInt8, (x / 16777216 % 256).toUInt8]
def small (v : Nat) : Bool := decide (v < 18446744073709551616)
def lowN (v : Nat) : Nat := if small v then v else 0
def bigB (v : Nat) : ByteArray := if small v then ByteArray.empty else ⟨((wordsOf v).flatMap bytes4).toArray⟩
def natL (v : Nat) : List Value := [.int .u64 (lowN v : Nat), .string (bigB v)]
def intL (z : Int) : List Value := [.int .u64 (lowN z.natAbs : Nat), .string (bigB z.natAbs), .bool (decide (z < 0))]
def fracL (q : Rat) : List Value := [.int .u64 (lowN q.num.natAbs : Nat), .string (bigB q.num.natAbs), .bool (decide (q.num < 0)), .int .u64 (lowN (q.den - 1) : Nat), .string (bigB (q.den - 1))]
@[ext] structure Pt where
  x : Rat
  y : Rat
def ptL (p : Pt) : List Value := fracL p.x ++ fracL p.y
theorem wrap_i64 {z : Int} (h : -9223372036854775808 ≤ z) (h' : z < 9223372036854775808) : IntKind.i64.wrap z = z := by
  simp only [IntKind.wrap, IntKind.bits, IntKind.signed]; simp; split <;> omega
theorem wrap_u64 {z : Int} (h : 0 ≤ z) (h' : z < 18446744073709551616) : IntKind.u64.wrap z = z := by
  simp only [IntKind.wrap, IntKind.bits, IntKind.signed]; simp; omega
theorem wrap_u32 {z : Int} (h : 0 ≤ z) (h' : z < 4294967296) : IntKind.u32.wrap z = z := by
  simp only [IntKind.wrap, IntKind.bits, IntKind.signed]; simp; omega
theorem wrap_u8 {z : Int} (h : 0 ≤ z) (h' : z < 256) : IntKind.u8.wrap z = z := by
  simp only [IntKind.wrap, IntKind.bits, IntKind.signed]; simp; omega
theorem addN_i64 {a b : Nat} (h : a + b < 9223372036854775808) : IntKind.i64.wrap ((a : Int) + (b : Int)) = ((a + b : Nat) : Int) := by rw [wrap_i64 (by omega) (by omega)]; omega
theorem subN_i64 {a b : Nat} (h : b ≤ a) (h' : a < 9223372036854775808) : IntKind.i64.wrap ((a : Int) - (b : Int)) = ((a - b : Nat) : Int) := by rw [wrap_i64 (by omega) (by omega)]; omega
theorem mulN_i64 {a b : Nat} (h : a * b < 9223372036854775808) : IntKind.i64.wrap ((a : Int) * (b : Int)) = ((a * b : Nat) : Int) := by
  rw [← Int.natCast_mul, wrap_i64 (by omega) (by omega)]
theorem addN_u64 {a b : Nat} (h : a + b < 18446744073709551616) : IntKind.u64.wrap ((a : Int) + (b : Int)) = ((a + b : Nat) : Int) := by rw [wrap_u64 (by omega) (by omega)]; omega
theorem subN_u64 {a b : Nat} (h : b ≤ a) (h' : a < 18446744073709551616) : IntKind.u64.wrap ((a : Int) - (b : Int)) = ((a - b : Nat) : Int) := by rw [wrap_u64 (by omega) (by omega)]; omega
theorem mulN_u64 {a b : Nat} (h : a * b < 18446744073709551616) : IntKind.u64.wrap ((a : Int) * (b : Int)) = ((a * b : Nat) : Int) := by
  rw [← Int.natCast_mul, wrap_u64 (by omega) (by omega)]
theorem convN_i64 {a : Nat} (h : a < 9223372036854775808) : IntKind.i64.wrap (a : Int) = (a : Int) := wrap_i64 (by omega) (by omega)
theorem convN_u64 {a : Nat} (h : a < 18446744073709551616) : IntKind.u64.wrap (a : Int) = (a : Int) := wrap_u64 (by omega) (by omega)
theorem convN_u32 {a : Nat} (h : a < 4294967296) : IntKind.u32.wrap (a : Int) = (a : Int) := wrap_u32 (by omega) (by omega)
theorem convN_u8 {a : Nat} (h : a < 256) : IntKind.u8.wrap (a : Int) = (a : Int) := wrap_u8 (by omega) (by omega)
theorem modN_u32 {a : Nat} : IntKind.u32.wrap (a : Int) = ((a % 4294967296 : Nat) : Int) := by
  simp only [IntKind.wrap, IntKind.bits, IntKind.signed]; simp
theorem modN_u8 {a : Nat} : IntKind.u8.wrap (a : Int) = ((a % 256 : Nat) : Int) := by
  simp only [IntKind.wrap, IntKind.bits, IntKind.signed]; simp
theorem ltN {a b : Nat} : decide ((a : Int) < (b : Int)) = decide (a < b) := decide_eq_decide.2 (by omega)
theorem leN {a b : Nat} : decide ((a : Int) ≤ (b : Int)) = decide (a ≤ b) := decide_eq_decide.2 (by omega)
theorem eqN {a b : Nat} : decide ((a : Int) = (b : Int)) = decide (a = b) := decide_eq_decide.2 (by omega)
theorem neN {a b : Nat} : decide ((a : Int) ≠ (b : Int)) = decide (a ≠ b) := decide_eq_decide.2 (by omega)
theorem quoN_i64 {a b : Nat} (h : a < 9223372036854775808) : IntKind.i64.wrap ((a : Int).tdiv (b : Int)) = ((a / b : Nat) : Int) := by
  have : a / b ≤ a := Nat.div_le_self _ _
  rw [← Int.ofNat_tdiv]
  generalize a / b = q at *
  exact wrap_i64 (by omega) (by omega)
theorem quoN_u64 {a b : Nat} (h : a < 18446744073709551616) : IntKind.u64.wrap ((a : Int).tdiv (b : Int)) = ((a / b : Nat) : Int) := by
  have : a / b ≤ a := Nat.div_le_self _ _
  rw [← Int.ofNat_tdiv]
  generalize a / b = q at *
  exact wrap_u64 (by omega) (by omega)
theorem remN {a b : Nat} : ((a : Int).tmod (b : Int)) = ((a % b : Nat) : Int) := (Int.ofNat_tmod a b).symm
theorem shrN {a s : Nat} : (a : Int) / 2 ^ s = ((a / 2 ^ s : Nat) : Int) := by simp
theorem follows_mixed : Tryz.prog.follows .mixedOrders = true := by kernel_rfl
theorem SubF.nil {F : List (Nat × Value)} : SubF [] F := trivial
theorem SubF.cons {k : Nat} {v : Value} {r F : List (Nat × Value)} (h : F.lookup k = some v) (t : SubF r F) : SubF ((k, v) :: r) F := ⟨h, t⟩
theorem VcAll.nil {P : Program} {n : Nat} {l : List Oper} {specs : List Sp} {F : List (Nat × Value)} {w0 : Base} {Lro L : List As} {os : List Oper} : VcAll P n l specs F w0 Lro L os [] := by
  cases os <;> trivial
theorem VcAll.cons {P : Program} {n : Nat} {l : List Oper} {specs : List Sp} {F : List (Nat × Value)} {w0 : Base} {Lro L : List As} {o : Oper} {os : List Oper} {s : Sp} {ss : List Sp} (h : Vc P n l specs F w0 Lro L o s) (t : VcAll P n l specs F w0 Lro L os ss) :
    VcAll P n l specs F w0 Lro L (o :: os) (s :: ss) := ⟨h, t⟩
theorem OkL.store' {P : Program} {ops : Array Oper} {rest : List Oper} {Q : Exit → Act → World → Prop} {n : Nat} {F : List (Nat × Value)} {w0 : Base} {L L' : List As} {v : Value} {x y : Operand} {d : Option Tmp} {t : TypeId} {p : String} {af : Array Edge} {g : Option (Nat × Bool)}
    {i b off : Nat} {ty T : TypeId} {cs vs cs' : List Value} (hw : Wt ops n F ⟨d, .store ty x y, t, p, af, g⟩) (ho : d = none) (hx : evF F x = some (.pointer (some ⟨b, off, none⟩))) (hy : evF F y = some v) (hi : L[i]? = some (blk b T cs))
    (hv : v.cells = vs.toArray) (hs : ∀ w, (sizeOf ty).run P w = .ok vs.length w) (h1 : (vs.all fun u => u.oneCell') = true) (hl : Nat.ble (off + vs.length) cs.length = true)
    (hc : lay cs off vs = cs') (hL : L.set i (blk b T cs') = L') (next : OkL P ops rest Q n F w0 L') : OkL P ops (⟨d, .store ty x y, t, p, af, g⟩ :: rest) Q n F w0 L := by
  subst hc; subst hL
  exact OkL.store hw (op_store hx hy hi hv hs h1 hl) ho hi next
theorem OkL.callB {P : Program} {ops : Array Oper} {rest : List Oper} {Q : Exit → Act → World → Prop} {n : Nat} {F : List (Nat × Value)} {w0 : Base} {L : List As} {o : Oper} {d : Nat} {f : FuncId} {args : Array Value} {V : Nat → Value} {T : TypeId} {cs : List Value} (hw : Wt ops n F o)
    (he : ∀ a w, Frm n a F → Own w0 w L → (execOp a.eval o).run P w = .ok (.enter f args) w)
    (hc : ∀ w, Own w0 w L → Calls P f args w fun e w' => ∃ b, e = .returned (V b) ∧ Bel w.heap.size w w' ∧ w.heap.size ≤ b ∧ w'.heap[b]? = some (.cells cs.toArray T (0, 0)))
    (ho : o.dst = some d) (hd : d < n) (next : ∀ b, OkL P ops rest Q n ((d, V b) :: F) w0 (blk b T cs :: L)) : OkL P ops (o :: rest) Q n F w0 L := fun a w ha hW => by
  unfold wpList
  rw [if_pos (hw a ha)]
  left
  unfold Oper.wp
  rw [he a w ha hW, Oper.upon_enter]
  refine (hc w hW).mono ?_
  rintro e w' ⟨b, rfl, hb, hlt, hcell⟩
  rw [ho]
  exact next b _ _ (ha.put hd) (hW.add rfl hb hlt ⟨_, hcell, rfl⟩)
theorem OkL.callM {P : Program} {ops : Array Oper} {rest : List Oper} {Q : Exit → Act → World → Prop} {n : Nat} {F : List (Nat × Value)} {w0 : Base} {L L' : List As} {o : Oper} {f : FuncId} {args : Array Value} {v : Value} {i b : Nat} {T : TypeId} {cs cs' : List Value} (hw : Wt ops n F o)
    (he : ∀ a w, Frm n a F → Own w0 w L → (execOp a.eval o).run P w = .ok (.enter f args) w) (hi : L[i]? = some (blk b T cs))
    (hc : ∀ w, Own w0 w L → Calls P f args w fun e w' => e = .returned v ∧ Grw w w' (some b) ∧ w'.heap[b]? = some (.cells cs'.toArray T (0, 0)))
    (hd : ∀ d, o.dst = some d → d < n) (hL : L.set i (blk b T cs') = L') (next : OkL P ops rest Q n (match o.dst with | some d => (d, v) :: F | none => F) w0 L') : OkL P ops (o :: rest) Q n F w0 L := fun a w ha hW => by
  subst hL
  unfold wpList
  rw [if_pos (hw a ha)]
  left
  unfold Oper.wp
  rw [he a w ha hW, Oper.upon_enter]
  refine (hc w hW).mono ?_
  rintro e w' ⟨rfl, hg, hcell⟩
  have hW' := hW.turn hi rfl rfl hg ⟨_, hcell, rfl⟩ (y := blk b T cs')
  cases hdst : o.dst with
  | none => rw [hdst] at next; exact next _ _ ha.put_none hW'
  | some d => rw [hdst] at next; exact next _ _ (ha.put (hd d hdst)) hW'
abbrev pP (b o : Nat) : Value := .pointer (some ⟨b, o, none⟩)
abbrev aG (l : List Value) : Value := .agg l.toArray
abbrev vI (z : Int) : Value := .int .i64 z
abbrev vN (n : Nat) : Value := .int .i64 (n : Int)
abbrev vK (k : IntKind) (n : Nat) : Value := .int k (n : Int)
theorem leB {a b : Nat} (h : Nat.ble a b = true) : a ≤ b := Nat.le_of_ble_eq_true h
theorem sN {F : List (Nat × Value)} : SubF [] F := trivial
theorem sS {k : Nat} {v : Value} {r F : List (Nat × Value)} (h : F.lookup k = some v) (t : SubF r F) : SubF ((k, v) :: r) F := ⟨h, t⟩
def lkL (F : List (Nat × Value)) : List (Nat × Value) → List (Option Value)
  | [] => []
  | p :: r => F.lookup p.1 :: lkL F r
def vsL : List (Nat × Value) → List (Option Value)
  | [] => []
  | p :: r => some p.2 :: vsL r
theorem sF : ∀ {F' F : List (Nat × Value)}, lkL F F' = vsL F' → SubF F' F
  | [], _, _ => trivial
  | _ :: _, _, h => by
    simp only [lkL, vsL, List.cons.injEq] at h
    exact ⟨h.1, sF h.2⟩
theorem vC {P : Program} {n : Nat} {l : List Oper} {specs : List Sp} {F : List (Nat × Value)} {w0 : Base} {Lro L : List As} {o : Oper} {os : List Oper} {s : Sp} {ss : List Sp} (h : Vc P n l specs F w0 Lro L o s) (t : VcAll P n l specs F w0 Lro L os ss) :
    VcAll P n l specs F w0 Lro L (o :: os) (s :: ss) := ⟨h, t⟩
theorem dN {j : Nat} : DepAll j [] := trivial
theorem dC {j : Nat} {kd : Kd} {v : Value} {ks : List Nat} {A : Value → List As} {C : Value → Prop} {ss : List Sp} (t : DepAll (j + 1) ss) : DepAll j (⟨kd, fun _ => v, ks, A, C⟩ :: ss) := ⟨fun _ _ _ _ => rfl, t⟩
section
variable {P : Program} {ops : Array Oper} {rest : List Oper} {Q : Exit → Act → World → Prop} {n d : Nat} {F F' : List (Nat × Value)} {w0 : Base} {L Lro : List As} {op : Op} {t : TypeId} {p : String} {af : Array Edge} {v : Value} {l : List Oper} {specs : List Sp}
theorem OkC.subF {c : Code} (hs : SubF F' F) (h : OkC P c Q n F' w0 L) : OkC P c Q n F w0 L := OkC.sub hs (List.Sublist.refl _) h
theorem OkQ.subF {e : Exit} (hs : SubF F' F) (h : OkQ Q e n F' w0 L) : OkQ Q e n F w0 L := OkQ.sub hs (List.Sublist.refl _) h
theorem st (he : Ex P n F w0 L ⟨some d, op, t, p, af, none⟩ v) (hd : d < n) (next : OkL P ops rest Q n ((d, v) :: F) w0 L) : OkL P ops (⟨some d, op, t, p, af, none⟩ :: rest) Q n F w0 L := OkL.step (wt_none rfl) he rfl hd next
theorem q1 {x y : Code} (h : OkC P x (Exit.then (y.wp P Q) Q) n F w0 L) : OkQ (Exit.then ((Code.seq x y).wp P Q) Q) .normal n F w0 L := OkQ.then_ (OkC.seq h)
theorem q2 {id : Nat} {y : Code} (h : OkL P l.toArray l (Exit.then (y.wp P Q) Q) n F w0 L) : OkQ (Exit.then ((Code.seq (.region id l.toArray false) y).wp P Q) Q) .normal n F w0 L := q1 (OkC.region h)
theorem q3 {id : Nat} {y : Code} (hs : SubF F' F) (h : OkL P l.toArray l (Exit.then (y.wp P Q) Q) n F' w0 L) : OkL P ops [] (Exit.then ((Code.seq (.region id l.toArray false) y).wp P Q) Q) n F w0 L := OkL.nil (OkQ.subF hs (q2 h))
theorem q4 {id : Nat} {y : Code} (h : OkL P l.toArray l (Exit.then (y.wp P Q) Q) n F w0 L) : OkC P (Code.seq (.region id l.toArray false) y) Q n F w0 L := OkC.seq (OkC.region h)
theorem q6 {x y : Code} (hs : SubF F' F) (h : OkC P x (Exit.then (y.wp P Q) Q) n F' w0 L) : OkL P ops [] (Exit.then ((Code.seq x y).wp P Q) Q) n F w0 L := OkL.nil (OkQ.subF hs (q1 h))
theorem q7 {x y : Code} (hs : SubF F' F) (h : OkC P x (Exit.then (y.wp P Q) Q) n F' w0 L) : OkLH P ops [] (Exit.then ((Code.seq x y).wp P Q) Q) n F w0 Lro L := OkLH.nil (OkQ.subF hs (q1 h))
theorem op_call0 {x : Operand} {f : FuncId} {xs : List Operand} {args : List Value} {ts : Array TypeId} {dd : Option Tmp} {g : Option (Nat × Bool)} (hf : evF F x = some (.func (.func f) #[] #[])) (hargs : xs.map (evF F) = args.map some)
    (hc : ∀ args w, (callFunc f args).run P w = .ok (.enter f args) w) :
    ∀ a w, Frm n a F → Own w0 w L → (execOp a.eval ⟨dd, .call { callee := .value x, args := xs.toArray, argTypes := ts }, t, p, af, g⟩).run P w = .ok (.enter f args.toArray) w :=
  op_call (caps := []) hf hargs (List.append_nil _) hc
theorem vc_look0 {v : (Nat → Value) → Value} {ks : List Nat} {G : (Nat → Value) → List (Nat × Value)} {dd : Option Tmp} (hG : ∀ β, SubF (G β) (preF l specs β ⟨dd, op, t, p, af, none⟩ ++ F)) (h : ∀ β, Ex P n (G β) w0 (blocksOf specs β ks ++ L) ⟨dd, op, t, p, af, none⟩ (v β)) : Vc P n l specs F w0 Lro L ⟨dd, op, t, p, af, none⟩ ⟨.look, v, ks, noA, noC⟩ := vc_look hG (fun _ => wt_none rfl) h
theorem vc_call0 {v : (Nat → Value) → Value} {ks : List Nat} {G : (Nat → Value) → List (Nat × Value)} {dd : Option Tmp} {f : FuncId} {args : (Nat → Value) → Array Value} (hG : ∀ β, SubF (G β) (preF l specs β ⟨dd, op, t, p, af, none⟩ ++ F))
    (h : ∀ β a w, Frm n a (G β) → Own w0 w (blocksOf specs β ks ++ L) → (execOp a.eval ⟨dd, op, t, p, af, none⟩).run P w = .ok (.enter f (args β)) w) (hc : ∀ β w, Own w0 w (blocksOf specs β ks ++ L) → Calls P f (args β) w (Gives w (v β))) : Vc P n l specs F w0 Lro L ⟨dd, op, t, p, af, none⟩ ⟨.call, v, ks, noA, noC⟩ :=
  vc_call hG (fun _ => wt_none rfl) h hc
end
end
section
structure AggT (P : Program) (t : TypeId) (k : Nat) : Prop where
  a : ∀ w, (isAgg t).run P w = .ok true w
  s : ∀ w, (sizeOf t).run P w = .ok k w
structure OneT (P : Program) (t : TypeId) : Prop where
  a : ∀ w, (isAgg t).run P w = .ok false w
def ZeroT (P : Program) (t : TypeId) (cs : List Value) : Prop := ∃ u : Value, (∀ w, (zeroValue t).run P w = .ok u w) ∧ u.cells = cs.toArray
section
variable {P : Program} {ops : Array Oper} {rest : List Oper} {Q : Exit → Act → World → Prop} {n d i b off k : Nat} {F F' : List (Nat × Value)} {w0 : Base} {L Lro : List As} {op : Op} {t ty T : TypeId} {p : String} {af : Array Edge} {u v : Value} {x y : Operand} {l : List Oper} {specs : List Sp} {cs vs : List Value}
theorem blt_lt' {a b : Nat} (h : Nat.ble (a + 1) b = true) : a < b := Nat.le_of_ble_eq_true h
theorem mv (hx : evF F x = some v) (hd : Nat.ble (d + 1) n = true) (next : OkL P ops rest Q n ((d, v) :: F) w0 L) : OkL P ops (⟨some d, .move x, t, p, af, none⟩ :: rest) Q n F w0 L := OkL.step (wt_none rfl) (ex_move hx) rfl (blt_lt' hd) next
theorem asg (hx : evF F x = some v) (hd : Nat.ble (d + 1) n = true) (next : OkL P ops rest Q n ((d, v) :: F) w0 L) : OkL P ops (⟨some d, .assign x, t, p, af, none⟩ :: rest) Q n F w0 L := OkL.step (wt_none rfl) (ex_assign hx) rfl (blt_lt' hd) next
theorem take_all {cs : List Value} {k : Nat} (h : cs.length = k) : (cs.drop 0).take k = cs := by rw [List.drop_zero, List.take_of_length_le (by omega)]
theorem ldW (i : Nat) (ht : AggT P ty k) (hx : evF F x = some (pP b 0)) (hi : L[i]? = some (blk b T cs)) (hl : cs.length = k) (hd : Nat.ble (d + 1) n = true) (next : OkL P ops rest Q n ((d, aG cs) :: F) w0 L) :
    OkL P ops (⟨some d, .load ty x, t, p, af, none⟩ :: rest) Q n F w0 L := OkL.step (wt_none rfl) (ex_load_agg hx hi ht.a ht.s (take_all hl) hl) rfl (blt_lt' hd) next
theorem ldA (i : Nat) (vs : List Value) (ht : AggT P ty k) (hx : evF F x = some (pP b off)) (hi : L[i]? = some (blk b T cs)) (hv : (cs.drop off).take k = vs) (hl : vs.length = k) (hd : Nat.ble (d + 1) n = true) (next : OkL P ops rest Q n ((d, aG vs) :: F) w0 L) :
    OkL P ops (⟨some d, .load ty x, t, p, af, none⟩ :: rest) Q n F w0 L := OkL.step (wt_none rfl) (ex_load_agg hx hi ht.a ht.s hv hl) rfl (blt_lt' hd) next
theorem ldO (i : Nat) (v : Value) (ht : OneT P ty) (hx : evF F x = some (pP b off)) (hi : L[i]? = some (blk b T cs)) (hv : cs[off]? = some v) (hd : Nat.ble (d + 1) n = true) (next : OkL P ops rest Q n ((d, v) :: F) w0 L) :
    OkL P ops (⟨some d, .load ty x, t, p, af, none⟩ :: rest) Q n F w0 L := OkL.step (wt_none rfl) (ex_load_one hx hi ht.a hv) rfl (blt_lt' hd) next
theorem bx (hx : evF F x = some v) (hv : v.cells = cs.toArray) (hd : Nat.ble (d + 1) n = true) (next : ∀ b, OkL P ops rest Q n ((d, pP b 0) :: F) w0 (blk b T cs :: L)) : OkL P ops (⟨some d, .box T x, t, p, af, none⟩ :: rest) Q n F w0 L :=
  OkL.open_ (wt_none rfl) (op_box hx hv) rfl (blt_lt' hd) next
theorem al (hz : ZeroT P T cs) (hd : Nat.ble (d + 1) n = true) (next : ∀ b, OkL P ops rest Q n ((d, pP b 0) :: F) w0 (blk b T cs :: L)) : OkL P ops (⟨some d, .alloc T, t, p, af, none⟩ :: rest) Q n F w0 L :=
  have ⟨_, h1, h2⟩ := hz
  OkL.open_ (wt_none rfl) (op_alloc h1 h2) rfl (blt_lt' hd) next
theorem cl {f : FuncId} {xs : List Operand} {args : List Value} {ts : Array TypeId} (hc : ∀ args w, (callFunc f args).run P w = .ok (.enter f args) w) (h : ∀ w, Own w0 w L → Calls P f args.toArray w (Gives w v))
    (hf : evF F x = some (.func (.func f) #[] #[])) (hargs : xs.map (evF F) = args.map some) (hd : Nat.ble (d + 1) n = true) (next : OkL P ops rest Q n ((d, v) :: F) w0 L) :
    OkL P ops (⟨some d, .call { callee := .value x, args := xs.toArray, argTypes := ts }, t, p, af, none⟩ :: rest) Q n F w0 L := OkL.call (wt_none rfl) (op_call0 hf hargs hc) h rfl (blt_lt' hd) next
theorem lay_all {cs vs : List Value} (h : vs.length = cs.length) : lay cs 0 vs = vs := by simp [lay, h]
theorem storeW {L' : List As} (hx : evF F x = some (pP b 0)) (hy : evF F y = some v) (hi : L[i]? = some (blk b T cs)) (hv : v.cells = vs.toArray) (hs : ∀ w, (sizeOf ty).run P w = .ok vs.length w) (h1 : (vs.all fun u => u.oneCell') = true) (hl : vs.length = cs.length)
    (hL : L.set i (blk b T vs) = L') (next : OkL P ops rest Q n F w0 L') : OkL P ops (⟨none, .store ty x y, t, p, af, none⟩ :: rest) Q n F w0 L := OkL.store' (wt_none rfl) rfl hx hy hi hv hs h1 (Nat.ble_eq_true_of_le (by omega)) (lay_all hl) hL next
theorem storeWH {L' : List As} (hro : Lro.Sublist L') (hx : evF F x = some (pP b 0)) (hy : evF F y = some v) (hi : L[i]? = some (blk b T cs)) (hv : v.cells = vs.toArray) (hs : ∀ w, (sizeOf ty).run P w = .ok vs.length w) (h1 : (vs.all fun u => u.oneCell') = true) (hl : vs.length = cs.length)
    (hL : L.set i (blk b T vs) = L') (next : OkLH P ops rest Q n F w0 Lro L') : OkLH P ops (⟨none, .store ty x y, t, p, af, none⟩ :: rest) Q n F w0 Lro L := OkLH.store' hro (wt_none rfl) rfl hx hy hi hv hs h1 (Nat.ble_eq_true_of_le (by omega)) (lay_all hl) hL next
variable {A0 A1 A2 A3 A4 A5 : As}
theorem stW0 (hx : evF F x = some (pP b 0)) (hy : evF F y = some v) (hv : v.cells = vs.toArray) (hs : ∀ w, (sizeOf ty).run P w = .ok vs.length w) (h1 : (vs.all fun u => u.oneCell') = true) (hl : vs.length = cs.length)
    (next : OkL P ops rest Q n F w0 (blk b T vs :: L)) : OkL P ops (⟨none, .store ty x y, t, p, af, none⟩ :: rest) Q n F w0 (blk b T cs :: L) := storeW (i := 0) hx hy rfl hv hs h1 hl rfl next
theorem stW1 (hx : evF F x = some (pP b 0)) (hy : evF F y = some v) (hv : v.cells = vs.toArray) (hs : ∀ w, (sizeOf ty).run P w = .ok vs.length w) (h1 : (vs.all fun u => u.oneCell') = true) (hl : vs.length = cs.length)
    (next : OkL P ops rest Q n F w0 (A0 :: blk b T vs :: L)) : OkL P ops (⟨none, .store ty x y, t, p, af, none⟩ :: rest) Q n F w0 (A0 :: blk b T cs :: L) := storeW (i := 1) hx hy rfl hv hs h1 hl rfl next
theorem stW2 (hx : evF F x = some (pP b 0)) (hy : evF F y = some v) (hv : v.cells = vs.toArray) (hs : ∀ w, (sizeOf ty).run P w = .ok vs.length w) (h1 : (vs.all fun u => u.oneCell') = true) (hl : vs.length = cs.length)
    (next : OkL P ops rest Q n F w0 (A0 :: A1 :: blk b T vs :: L)) : OkL P ops (⟨none, .store ty x y, t, p, af, none⟩ :: rest) Q n F w0 (A0 :: A1 :: blk b T cs :: L) := storeW (i := 2) hx hy rfl hv hs h1 hl rfl next
theorem stW3 (hx : evF F x = some (pP b 0)) (hy : evF F y = some v) (hv : v.cells = vs.toArray) (hs : ∀ w, (sizeOf ty).run P w = .ok vs.length w) (h1 : (vs.all fun u => u.oneCell') = true) (hl : vs.length = cs.length)
    (next : OkL P ops rest Q n F w0 (A0 :: A1 :: A2 :: blk b T vs :: L)) : OkL P ops (⟨none, .store ty x y, t, p, af, none⟩ :: rest) Q n F w0 (A0 :: A1 :: A2 :: blk b T cs :: L) := storeW (i := 3) hx hy rfl hv hs h1 hl rfl next
theorem stH1 (hro : Lro.Sublist (A0 :: blk b T vs :: L)) (hx : evF F x = some (pP b 0)) (hy : evF F y = some v) (hv : v.cells = vs.toArray) (hs : ∀ w, (sizeOf ty).run P w = .ok vs.length w) (h1 : (vs.all fun u => u.oneCell') = true) (hl : vs.length = cs.length)
    (next : OkLH P ops rest Q n F w0 Lro (A0 :: blk b T vs :: L)) : OkLH P ops (⟨none, .store ty x y, t, p, af, none⟩ :: rest) Q n F w0 Lro (A0 :: blk b T cs :: L) := storeWH (i := 1) hro hx hy rfl hv hs h1 hl rfl next
theorem sr {L : List As} : L.Sublist L := List.Sublist.refl _
theorem sl {a : As} {l1 l2 : List As} (h : l1.Sublist l2) : l1.Sublist (a :: l2) := List.Sublist.cons _ h
theorem sk {a : As} {l1 l2 : List As} (h : l1.Sublist l2) : (a :: l1).Sublist (a :: l2) := List.Sublist.cons_cons _ h
def zipK : List Nat → List Value → List (Nat × Value)
  | k :: ks, v :: vs => (k, v) :: zipK ks vs
  | _, _ => []
theorem vcP {v : Value} {G : List (Nat × Value)} {dd : Option Tmp} (hG : ∀ β, lkL (preF l specs β ⟨dd, op, t, p, af, none⟩ ++ F) G = vsL G) (h : ∀ w0, Ex P n G w0 [] ⟨dd, op, t, p, af, none⟩ v) : Vc P n l specs F w0 Lro L ⟨dd, op, t, p, af, none⟩ ⟨.pure, fun _ => v, [], noA, noC⟩ :=
  vc_pure (G := fun _ => G) (fun β => sF (hG β)) (fun _ => wt_none rfl) (fun _ w => h w)
theorem vcM (s : Nat) (v : Value) {dd : Option Tmp} (hG : ∀ β, lkL (preF l specs β ⟨dd, .move (.tmp s), t, p, af, none⟩ ++ F) [(s, v)] = vsL [(s, v)]) : Vc P n l specs F w0 Lro L ⟨dd, .move (.tmp s), t, p, af, none⟩ ⟨.pure, fun _ => v, [], noA, noC⟩ :=
  vcP hG (fun _ => ex_move (by simp [evF]))
theorem vcK (ss : List Nat) {f : FuncId} {xs : List Operand} {args : List Value} {ts : Array TypeId} {v : Value} {dd : Option Tmp} (hc : ∀ args w, (callFunc f args).run P w = .ok (.enter f args) w)
    (h : ∀ w, Own w0 w L → Calls P f args.toArray w (Gives w v)) (hf : evF [] x = some (.func (.func f) #[] #[])) (hargs : xs.map (evF (zipK ss args)) = args.map some)
    (hG : ∀ β, lkL (preF l specs β ⟨dd, .call { callee := .value x, args := xs.toArray, argTypes := ts }, t, p, af, none⟩ ++ F) (zipK ss args) = vsL (zipK ss args)) :
    Vc P n l specs F w0 Lro L ⟨dd, .call { callee := .value x, args := xs.toArray, argTypes := ts }, t, p, af, none⟩ ⟨.call, fun _ => v, [], noA, noC⟩ :=
  vc_call (G := fun _ => zipK ss args) (fun β => sF (hG β)) (fun _ => wt_none rfl) (fun _ => op_call0 (by cases x <;> simp_all [evF]) hargs hc) (fun _ w hw => h w hw)
end
theorem dA {Q : Exit → Act → World → Prop} {n : Nat} {F : List (Nat × Value)} {w0 : Base} {L Lro : List As} {l : List Oper} {specs : List Sp} {id : Nat} (hro : Lro.Sublist L) (hdep : DepAll 0 specs)
    (hA : chkR n l specs = true → VcAll Tryz.prog n l specs F w0 Lro L l specs) (hc : chkR n l specs = true)
    (hF : ((List.range specs.length).all fun j => match (l[j]?).bind (·.dst) with | some d => (F.lookup d).isNone | none => false) = true)
    (hQ : ∀ c a d v w, Q (.panic c) (a.put d v) w → Q (.panic c) a w)
    (hB : ∀ β, Cs specs β (List.range specs.length) → OkLH Tryz.prog l.toArray (l.drop specs.length) Q n (allF l specs β ++ F) w0 Lro (newL specs β ++ L)) : OkC Tryz.prog (.region id l.toArray true) Q n F w0 L :=
  OkC.drawn hro (Deps.of hdep) follows_mixed hc hF hQ (vcs_of _ _ (hA hc)) hB
section
variable {P : Program} {ops : Array Oper} {rest : List Oper} {Q : Exit → Act → World → Prop} {n : Nat} {F F' : List (Nat × Value)} {w0 : Base} {L Lro : List As} {specs : List Sp} {β : Nat → Value} {A0 A1 A2 A3 : As}
theorem hS0 (hs : lkL F F' = vsL F') (hn : newL specs β = []) (h : OkLH P ops rest Q n F' w0 Lro L) : OkLH P ops rest Q n F w0 Lro (newL specs β ++ L) := OkLH.sub (sF hs) (by rw [hn]; exact List.Sublist.refl _) h
end
def pickF (F : List (Nat × Value)) : List Nat → Option (List (Nat × Value))
  | [] => some []
  | k :: ks => match F.lookup k with
    | some v => match pickF F ks with
      | some r => some ((k, v) :: r)
      | none => none
    | none => none
theorem sL : ∀ (ks : List Nat) {F F' : List (Nat × Value)}, pickF F ks = some F' → SubF F' F
  | [], _, _, h => by injection h with h; subst h; trivial
  | k :: ks, F, F', h => by
    unfold pickF at h
    split at h
    · rename_i v hv
      split at h
      · rename_i r hr
        injection h with h; subst h
        exact ⟨hv, sL ks hr⟩
      · cases h
    · cases h
def setL : List As → Nat → As → Option (List As)
  | [], _, _ => none
  | _ :: r, 0, y => some (y :: r)
  | x :: r, i + 1, y => match setL r i y with
    | some r' => some (x :: r')
    | none => none
theorem setL_eq : ∀ {L : List As} {i : Nat} {y : As} {L' : List As}, setL L i y = some L' → L.set i y = L'
  | [], _, _, _, h => by cases h
  | _ :: r, 0, y, _, h => by injection h
  | x :: r, i + 1, y, L', h => by
    unfold setL at h
    split at h
    · rename_i r' hr
      injection h with h; subst h
      rw [List.set_cons_succ, setL_eq hr]
    · cases h
section
variable {α β γ δ ε : Type} {a a' : α} {b b' : β} {c c' : γ} {d d' : δ} {e e' : ε}
theorem t21 (h : (a, b) = (a', b')) : a = a' := congrArg Prod.fst h
theorem t22 (h : (a, b) = (a', b')) : b = b' := congrArg Prod.snd h
end
section
variable {P : Program} {ops : Array Oper} {rest : List Oper} {Q : Exit → Act → World → Prop} {n d i b off k : Nat} {F F' : List (Nat × Value)} {w0 : Base} {L L' Lro : List As} {op : Op} {t ty T : TypeId} {p : String} {af : Array Edge} {u v : Value} {x y : Operand} {l : List Oper} {specs : List Sp} {cs vs : List Value} {o : Oper} {j : Nat} {g : Option (Nat × Bool)}
theorem wt_some' {t : Nat} {b : Bool} (h : (o.guard, (ops[j]?).bind (·.dst), F.lookup t) = (some (j, b), some t, some (.bool b))) : Wt ops n F o := wt_some (t21 h) (t21 (t22 h)) (t22 (t22 h))
theorem wt_not' {t : Nat} {b : Bool} (h : (o.guard, (ops[j]?).bind (·.dst), F.lookup t) = (some (j, b), some t, some (.bool (!b)))) : ∀ a, Frm n a F → Region.wanted o (yielded ops a.tmps) = false := wt_not (t21 h) (t21 (t22 h)) (t22 (t22 h))
theorem st' (he : Ex P n F w0 L ⟨some d, op, t, p, af, none⟩ v) (hd : Nat.ble (d + 1) n = true) (next : OkL P ops rest Q n ((d, v) :: F) w0 L) : OkL P ops (⟨some d, op, t, p, af, none⟩ :: rest) Q n F w0 L := st he (blt_lt' hd) next
theorem mv' (h : (evF F x, Nat.ble (d + 1) n) = (some v, true)) (next : OkL P ops rest Q n ((d, v) :: F) w0 L) : OkL P ops (⟨some d, .move x, t, p, af, none⟩ :: rest) Q n F w0 L := mv (t21 h) (t22 h) next
theorem asg' (h : (evF F x, Nat.ble (d + 1) n) = (some v, true)) (next : OkL P ops rest Q n ((d, v) :: F) w0 L) : OkL P ops (⟨some d, .assign x, t, p, af, none⟩ :: rest) Q n F w0 L := asg (t21 h) (t22 h) next
theorem ldW' (i : Nat) (ht : AggT P ty k) (h : (evF F x, L[i]?, cs.length, Nat.ble (d + 1) n) = (some (pP b 0), some (blk b T cs), k, true)) (next : OkL P ops rest Q n ((d, aG cs) :: F) w0 L) :
    OkL P ops (⟨some d, .load ty x, t, p, af, none⟩ :: rest) Q n F w0 L := ldW i ht (t21 h) (t21 (t22 h)) (t21 (t22 (t22 h))) (t22 (t22 (t22 h))) next
theorem ldA' (i : Nat) (vs : List Value) (ht : AggT P ty k) (h : (evF F x, L[i]?, (cs.drop off).take k, vs.length, Nat.ble (d + 1) n) = (some (pP b off), some (blk b T cs), vs, k, true)) (next : OkL P ops rest Q n ((d, aG vs) :: F) w0 L) :
    OkL P ops (⟨some d, .load ty x, t, p, af, none⟩ :: rest) Q n F w0 L := ldA i vs ht (t21 h) (t21 (t22 h)) (t21 (t22 (t22 h))) (t21 (t22 (t22 (t22 h)))) (t22 (t22 (t22 (t22 h)))) next
theorem ldO' (i : Nat) (v : Value) (ht : OneT P ty) (h : (evF F x, L[i]?, cs[off]?, Nat.ble (d + 1) n) = (some (pP b off), some (blk b T cs), some v, true)) (next : OkL P ops rest Q n ((d, v) :: F) w0 L) :
    OkL P ops (⟨some d, .load ty x, t, p, af, none⟩ :: rest) Q n F w0 L := ldO i v ht (t21 h) (t21 (t22 h)) (t21 (t22 (t22 h))) (t22 (t22 (t22 h))) next
theorem bx' (h : (evF F x, v.cells, Nat.ble (d + 1) n) = (some v, cs.toArray, true)) (next : ∀ b, OkL P ops rest Q n ((d, pP b 0) :: F) w0 (blk b T cs :: L)) : OkL P ops (⟨some d, .box T x, t, p, af, none⟩ :: rest) Q n F w0 L :=
  bx (t21 h) (t21 (t22 h)) (t22 (t22 h)) next
theorem cl' {f : FuncId} {xs : List Operand} {args : List Value} {ts : Array TypeId} (hc : ∀ args w, (callFunc f args).run P w = .ok (.enter f args) w) (h : ∀ w, Own w0 w L → Calls P f args.toArray w (Gives w v))
    (h2 : (evF F x, xs.map (evF F), Nat.ble (d + 1) n) = (some (.func (.func f) #[] #[]), args.map some, true)) (next : OkL P ops rest Q n ((d, v) :: F) w0 L) :
    OkL P ops (⟨some d, .call { callee := .value x, args := xs.toArray, argTypes := ts }, t, p, af, none⟩ :: rest) Q n F w0 L := cl hc h (t21 h2) (t21 (t22 h2)) (t22 (t22 h2)) next
theorem ck' {f : FuncId} {xs : List Operand} {args : List Value} {ts : Array TypeId} (hc : ∀ args w, (callFunc f args).run P w = .ok (.enter f args) w) (h : ∀ w, Calls P f args.toArray w (Gives w v))
    (h2 : (evF F x, xs.map (evF F), Nat.ble (d + 1) n) = (some (.func (.func f) #[] #[]), args.map some, true)) (next : OkL P ops rest Q n ((d, v) :: F) w0 L) :
    OkL P ops (⟨some d, .call { callee := .value x, args := xs.toArray, argTypes := ts }, t, p, af, none⟩ :: rest) Q n F w0 L := cl' hc (fun w _ => h w) h2 next
variable {A0 A1 A2 A3 A4 A5 : As}
theorem stW0' (h : (evF F x, evF F y, v.cells) = (some (pP b 0), some v, vs.toArray)) (hs : ∀ w, (sizeOf ty).run P w = .ok vs.length w) (h2 : (vs.all fun u => u.oneCell', vs.length) = (true, cs.length))
    (next : OkL P ops rest Q n F w0 (blk b T vs :: L)) : OkL P ops (⟨none, .store ty x y, t, p, af, none⟩ :: rest) Q n F w0 (blk b T cs :: L) := stW0 (t21 h) (t21 (t22 h)) (t22 (t22 h)) hs (t21 h2) (t22 h2) next
theorem stW1' (h : (evF F x, evF F y, v.cells) = (some (pP b 0), some v, vs.toArray)) (hs : ∀ w, (sizeOf ty).run P w = .ok vs.length w) (h2 : (vs.all fun u => u.oneCell', vs.length) = (true, cs.length))
    (next : OkL P ops rest Q n F w0 (A0 :: blk b T vs :: L)) : OkL P ops (⟨none, .store ty x y, t, p, af, none⟩ :: rest) Q n F w0 (A0 :: blk b T cs :: L) := stW1 (t21 h) (t21 (t22 h)) (t22 (t22 h)) hs (t21 h2) (t22 h2) next
theorem stW2' (h : (evF F x, evF F y, v.cells) = (some (pP b 0), some v, vs.toArray)) (hs : ∀ w, (sizeOf ty).run P w = .ok vs.length w) (h2 : (vs.all fun u => u.oneCell', vs.length) = (true, cs.length))
    (next : OkL P ops rest Q n F w0 (A0 :: A1 :: blk b T vs :: L)) : OkL P ops (⟨none, .store ty x y, t, p, af, none⟩ :: rest) Q n F w0 (A0 :: A1 :: blk b T cs :: L) := stW2 (t21 h) (t21 (t22 h)) (t22 (t22 h)) hs (t21 h2) (t22 h2) next
theorem stW3' (h : (evF F x, evF F y, v.cells) = (some (pP b 0), some v, vs.toArray)) (hs : ∀ w, (sizeOf ty).run P w = .ok vs.length w) (h2 : (vs.all fun u => u.oneCell', vs.length) = (true, cs.length))
    (next : OkL P ops rest Q n F w0 (A0 :: A1 :: A2 :: blk b T vs :: L)) : OkL P ops (⟨none, .store ty x y, t, p, af, none⟩ :: rest) Q n F w0 (A0 :: A1 :: A2 :: blk b T cs :: L) := stW3 (t21 h) (t21 (t22 h)) (t22 (t22 h)) hs (t21 h2) (t22 h2) next
theorem stX (i : Nat) {v : Value} {cs' : List Value} (hw : Wt ops n F ⟨none, .store ty x y, t, p, af, g⟩) (h : (evF F x, evF F y, L[i]?, v.cells) = (some (pP b off), some v, some (blk b T cs), vs.toArray))
    (hs : ∀ w, (sizeOf ty).run P w = .ok vs.length w) (h2 : (vs.all fun u => u.oneCell', Nat.ble (off + vs.length) cs.length, lay cs off vs, setL L i (blk b T cs')) = (true, true, cs', some L')) (next : OkL P ops rest Q n F w0 L') : OkL P ops (⟨none, .store ty x y, t, p, af, g⟩ :: rest) Q n F w0 L :=
  OkL.store' hw rfl (t21 h) (t21 (t22 h)) (t21 (t22 (t22 h))) (t22 (t22 (t22 h))) hs (t21 h2) (t21 (t22 h2)) (t21 (t22 (t22 h2))) (setL_eq (t22 (t22 (t22 h2)))) next
end
end
end Go.Proofs.YtgiacpkjnikjdaaGreat
