/- Rows of 32-bit words and of bytes in a walk: reading, writing, making, cutting. -/
import Derived.Test.YtpkoldfmbebmgaaGreatDoorEnc
import Derived.Laws.MakeOwn
import Derived.Laws.OwnMore
import Derived.Laws.BytesString
import Derived.Laws.BytesArg
namespace Go.Proofs.YtpkoldfmbebmgaaGreatDoor
open Go Go.RowKit
set_option linter.unusedVariables false
set_option linter.unusedSimpArgs false

/-- A row of words as cells. -/
def u32s (xs : List Nat) : List Value := xs.map fun x => .int .u32 (x : Nat)
def u8s (xs : List Nat) : List Value := xs.map fun x => .int .u8 (x : Nat)

theorem u32s_length (xs : List Nat) : (u32s xs).length = xs.length := by simp [u32s]
theorem u8s_length (xs : List Nat) : (u8s xs).length = xs.length := by simp [u8s]
theorem u32s_get {xs : List Nat} {j : Nat} (h : j < xs.length) : (u32s xs)[j]? = some (.int .u32 ((xs.getD j 0 : Nat) : Int)) := by
  simp [u32s, h]
theorem u8s_get {xs : List Nat} {j : Nat} (h : j < xs.length) : (u8s xs)[j]? = some (.int .u8 ((xs.getD j 0 : Nat) : Int)) := by
  simp [u8s, h]
theorem u32s_set {xs : List Nat} {j v : Nat} (h : j < xs.length) : lay (u32s xs) j [.int .u32 (v : Nat)] = u32s (xs.set j v) := by
  unfold lay u32s
  rw [List.set_eq_take_append_cons_drop, if_pos h]
  simp
theorem u32s_one (xs : List Nat) : ∀ u ∈ u32s xs, u.oneCell' = true := by
  intro u hu
  obtain ⟨x, _, rfl⟩ := List.mem_map.1 hu
  rfl

section
variable {P : Program} {n : Nat} {F : List (Nat × Value)} {w0 : Base} {L : List As} {v u : Value} {x y z : Operand} {d : Option Tmp} {t : TypeId} {p : String} {af : Array Edge} {g : Option (Nat × Bool)}

/-- What an old block holds. -/
theorem Own.oldCA {w : World} (hW : Own w0 w L) {b off : Nat} {vs : List Value} (hne : some b ≠ w0.ex) (h : CA w0.w b off vs) : CA w b off vs := fun j u hu => by
  have h1 := h j u hu
  have hlt := World.block_lt_of_cell? _ _ h1
  rw [← h1]
  exact World.cell?_of_block (hW.1.block b hlt hne)

theorem CA.at_ {w : World} {b off j : Nat} {vs : List Value} (h : CA w b off vs) (hv : vs[j]? = some v) : w.cell? ⟨b, off + j, none⟩ = some v := h j v hv
theorem CA.at0 {w : World} {b j : Nat} {vs : List Value} (h : CA w b 0 vs) (hv : vs[j]? = some v) : w.cell? ⟨b, j, none⟩ = some v := by simpa using h j v hv

/-! ### Cutting -/
theorem ex_slice_hi {tx e : TypeId} {a : Option Addr} {len cap k : Nat} {hi : Operand} {ki : IntKind} {m : Nat} (hx : evF F x = some (.slice a len cap)) (hh : evF F hi = some (.int ki (m : Nat))) (hu : P.underlying tx = some (.slice e)) (hs : ∀ w, (sizeOf e).run P w = .ok k w) (hm : m ≤ cap) :
    Ex P n F w0 L ⟨d, .slice tx x none (some hi) none, t, p, af, g⟩ (.slice a m cap) := fun A w ha _ => by
  have e1 : (if cap = 0 then a else a.map fun y => y.add (0 * k)) = a := by
    split
    · rfl
    · cases a <;> simp [Addr.add]
  simp only [execOp, ha.ev hx, Instr.sliceAt, run_underlying hu, Instr.slice, Option.map_some, Option.map_none, ha.ev hh, Instr.sliceBounds, Instr.sliceBound, asIntOf, Sem.run_bind, Result.andThen_ok, Sem.run_pure]
  have h1 : (0 : Int) ≤ (m : Int) ∧ (m : Int) ≤ (cap : Int) := ⟨by omega, by omega⟩
  simp [h1.2, hs]
  cases a <;> simp [Addr.add]
theorem ex_slice_mid {tx e : TypeId} {b off r len cap k : Nat} {lo hi : Operand} {ki kj : IntKind} {i m : Nat} (hx : evF F x = some (.slice (some ⟨b, off, none⟩) len cap)) (hl : evF F lo = some (.int ki (i : Nat))) (hh : evF F hi = some (.int kj (m : Nat))) (hu : P.underlying tx = some (.slice e)) (hs : ∀ w, (sizeOf e).run P w = .ok k w)
    (h1 : i ≤ m) (hm : m ≤ cap) (hi' : i < cap) (hr : off + i * k = r) : Ex P n F w0 L ⟨d, .slice tx x (some lo) (some hi) none, t, p, af, g⟩ (.slice (some ⟨b, r, none⟩) (m - i) (cap - i)) := fun A w ha _ => by
  subst hr
  simp only [execOp, ha.ev hx, Instr.sliceAt, run_underlying hu, Instr.slice, Option.map_some, Option.map_none, ha.ev hl, ha.ev hh, Instr.sliceBounds, Instr.sliceBound, asIntOf, Sem.run_bind, Result.andThen_ok, Sem.run_pure]
  have e1 : (0 : Int) ≤ (m : Int) ∧ (m : Int) ≤ (cap : Int) := ⟨by omega, by omega⟩
  have e3 : ¬ cap = i := by omega
  simp [e1.2, hs, e3, Addr.add_lit]
  intro h; omega

/-! ### Making -/
theorem op_make_u32 {m c : Nat} {ki kj : IntKind} (hx : evF F x = some (.int ki (m : Nat))) (hy : evF F y = some (.int kj (c : Nat))) (hmc : m ≤ c) (hc : c ≤ 35184372088832) :
    ∀ a w, Frm n a F → Own w0 w L → (execOp a.eval ⟨d, .makeSlice 161 x y, t, p, af, g⟩).run Tryz.prog w = .ok (.value (.slice (some ⟨w.heap.size, 0, none⟩) m c)) (w.alloc (.cells (u32s (List.replicate c 0)).toArray 22)) := fun a w ha _ => by
  have h1 := run_make (P := Tryz.prog) w 161 22 Tryz.t22 (.int .u32 0) Tryz.underlying161 (by kernel_rfl) rfl ki kj (m : Nat) (c : Nat) (by omega) (by omega) (by show (4 : Int) * (c : Int) ≤ _; omega) (by omega)
  have e1 : madeCells (Value.int .u32 0).cells ((c : Int).toNat * Tryz.t22.size) = (u32s (List.replicate c 0)).toArray := by
    apply Array.toList_inj.1
    show (madeCells #[Value.int .u32 0] ((c : Int).toNat * 1)).toList = _
    rw [toList_madeCells_one]
    simp [u32s]
  rw [e1] at h1
  simp only [execOp, ha.ev hx, ha.ev hy, Sem.run_bind, h1, Result.andThen_ok, Sem.run_pure, Int.toNat_natCast]

theorem op_make_u8 {m c : Nat} {ki kj : IntKind} (hx : evF F x = some (.int ki (m : Nat))) (hy : evF F y = some (.int kj (c : Nat))) (hmc : m ≤ c) (hc : c ≤ 140737488355328) :
    ∀ a w, Frm n a F → Own w0 w L → (execOp a.eval ⟨d, .makeSlice 197 x y, t, p, af, g⟩).run Tryz.prog w = .ok (.value (.slice (some ⟨w.heap.size, 0, none⟩) m c)) (w.alloc (.cells (u8s (List.replicate c 0)).toArray 5)) := fun a w ha _ => by
  have h1 := run_make (P := Tryz.prog) w 197 5 Tryz.t5 (.int .u8 0) Tryz.underlying197 (by kernel_rfl) rfl ki kj (m : Nat) (c : Nat) (by omega) (by omega) (by show (1 : Int) * (c : Int) ≤ _; omega) (by omega)
  have e1 : madeCells (Value.int .u8 0).cells ((c : Int).toNat * Tryz.t5.size) = (u8s (List.replicate c 0)).toArray := by
    apply Array.toList_inj.1
    show (madeCells #[Value.int .u8 0] ((c : Int).toNat * 1)).toList = _
    rw [toList_madeCells_one]
    simp [u8s]
  rw [e1] at h1
  simp only [execOp, ha.ev hx, ha.ev hy, Sem.run_bind, h1, Result.andThen_ok, Sem.run_pure, Int.toNat_natCast]

/-- A slice whose elements are written out. -/
theorem op_buildSlice {P : Program} {T e : TypeId} {len k : Nat} {z : Value} {parts : Array (Nat × Operand)} {pv : List (Nat × Value)} {cs : List Value} (hu : P.underlying T = some (.slice e)) (hs : ∀ w, (sizeOf e).run P w = .ok k w) (hz : ∀ w, (zeroValue e).run P w = .ok z w)
    (hlk : len * k ≠ 0) (hsm : len * k ≤ 16777216)
    (hp : parts.toList.map (fun q => (q.1, evF F q.2)) = pv.map (fun q => (q.1, some q.2)))
    (hf : Instr.fill (fun i => some (i * k, k)) ((Array.range (len * k)).map (z.cells[· % z.cells.size]!)) pv = some cs.toArray) :
    ∀ a w, Frm n a F → Own w0 w L → (execOp a.eval ⟨d, .buildSlice T len parts, t, p, af, g⟩).run P w = .ok (.value (.slice (some ⟨w.heap.size, 0, none⟩) len len)) (w.alloc (.cells cs.toArray e)) := fun A w ha _ => by
  have key : ∀ (l : List (Nat × Operand)) (r : List (Nat × Value)), l.map (fun q => (q.1, evF F q.2)) = r.map (fun q => (q.1, some q.2)) → l.map (fun q => (q.1, A.eval q.2)) = r := by
    intro l
    induction l with
    | nil => intro r h; cases r <;> simp_all
    | cons o l ih =>
      intro r h
      cases r with
      | nil => simp at h
      | cons q r =>
        simp only [List.map_cons, List.cons.injEq, Prod.mk.injEq] at h
        rw [List.map_cons, ha.ev h.1.2, ih r h.2, h.1.1]
  have e1 : (parts.map fun q => (q.1, A.eval q.2)).toList = pv := by rw [Array.toList_map]; exact key _ _ hp
  have e2 : (parts.map fun (i, x) => (i, A.eval x)).toList = pv := e1
  have hn : ¬ (len * k > 2 ^ 24) := by omega
  simp only [execOp, Instr.buildSlice, run_underlying hu, hs, Sem.run_bind, Result.andThen_ok, if_neg hn, if_neg hlk, Sem.run_pure, hz, Sem.run_ite]
  rw [e2, hf]
  simp [newRow]

/-- append of bytes within the capacity. -/
theorem OkL.append_u8 {ops : Array Oper} {rest : List Oper} {Q : Exit → Act → World → Prop} {L' : List As} {i j b b' m c k c' dd : Nat} {cs ns cs' : List Value} {o : Oper} (ho : o = ⟨some dd, .call { callee := .builtin .append, args := #[x, y], argTypes := #[197, 197] }, t, p, af, g⟩) (hw : Wt ops n F o)
    (hx : evF F x = some (.slice (some ⟨b, 0, none⟩) m c)) (hy : evF F y = some (.slice (some ⟨b', 0, none⟩) k c')) (hi : L[i]? = some (blk b 5 cs)) (hj : L[j]? = some (blk b' 5 ns)) (hk : ns.length = k) (h1 : (ns.all fun u => u.oneCell') = true) (hroom : m + k ≤ c) (hfit : m + k ≤ cs.length)
    (hcs : lay cs m ns = cs') (hL : L.set i (blk b 5 cs') = L') (hd : dd < n) (next : OkL Tryz.prog ops rest Q n ((dd, .slice (some ⟨b, 0, none⟩) (m + k) c) :: F) w0 L') : OkL Tryz.prog ops (o :: rest) Q n F w0 L := fun a w ha hW => by
  subst ho; subst hcs; subst hL
  unfold wpList
  rw [if_pos (hw a ha)]
  left
  have hca := ca_of_row (off := 0) (k := ns.length) (hW.get hj)
  have hns : (ns.drop 0).take ns.length = ns := by simp
  rw [hns] at hca
  have hr := run_append_room (P := Tryz.prog) w 197 t 5 Tryz.t5 Tryz.underlying197 (by kernel_rfl) b m c cs.toArray (hW.get hi) ⟨b', 0, none⟩ k c' ns (by show _ = k * 1; omega) (fun q u hu => by rw [Addr.add_lit]; exact hca q u hu) (fun u hu => List.all_eq_true.1 h1 u hu) hroom (by show m * 1 + ns.length ≤ cs.toArray.size; simp; omega)
  have hz : m * Tryz.t5.size = m := Nat.mul_one m
  rw [hz] at hr
  unfold Oper.wp
  have he : (execOp a.eval ⟨some dd, .call { callee := .builtin .append, args := #[x, y], argTypes := #[197, 197] }, t, p, af, g⟩).run Tryz.prog w = .ok (.value (.slice (some ⟨b, 0, none⟩) (m + k) c)) (w.setRow b (lay cs m ns).toArray) := by
    simp only [execOp, resolve, invoke, builtin, Sem.run_bind, Sem.run_pure, Result.andThen_ok, List.map_toArray, List.map_cons, List.map_nil, ha.ev hx, ha.ev hy, hr, lay]
  rw [he, Oper.upon_value]
  have hg := hW.get hi
  exact next _ _ (ha.put hd) (hW.turn hi rfl rfl ⟨rfl, rfl, rfl, by simp, fun q _ hq => setRow_other w b q _ (fun e => hq (by simp [e]))⟩ ⟨_, setRow_heap w b cs.toArray _ 5 _ hg, rfl⟩)

/-- Bytes as a string. -/
def strOf (xs : List Nat) : ByteArray := ⟨(xs.map fun x => UInt8.ofNat x).toArray⟩
theorem ex_bytes_string {i b m c : Nat} {cs : List Value} {ns : List Nat} (hx : evF F x = some (.slice (some ⟨b, 0, none⟩) m c)) (hi : L[i]? = some (blk b 5 cs)) (hcs : cs.take m = u8s ns) (hm : ns.length = m) :
    Ex Tryz.prog n F w0 L ⟨d, .convert 197 9 x, t, p, af, g⟩ (.string (strOf ns)) := fun a w ha hW => by
  have hca := ca_of_row (off := 0) (k := m) (hW.get hi)
  rw [List.drop_zero, hcs] at hca
  have h2 := run_loadCells_list (P := Tryz.prog) w ⟨b, 0, none⟩ (u8s ns) (fun q u hu => by rw [Addr.add_lit]; exact hca q u hu)
  rw [u8s_length, hm] at h2
  have h3 : (u8s ns) = (ns.map fun x => ((x : Nat) : Int)).map (Value.int .u8) := by simp [u8s]
  rw [h3] at h2
  have h4 := run_bytesToString w ⟨b, 0, none⟩ m c _ h2
  rw [foldl_push_bytes] at h4
  simp only [execOp, ha.ev hx, Sem.run_bind, run_convert_bytes_string w 197 9 5 _ _ _ Tryz.underlying197 Tryz.underlying5 Tryz.underlying9, h4, Result.andThen_ok, Sem.run_pure]
  congr 2
  simp [strOf, ByteArray.empty, ByteArray.emptyWithCapacity]
  rfl
end

end Go.Proofs.YtpkoldfmbebmgaaGreatDoor
