import Derived.Laws.MakeOwn
import Derived.Laws.OwnMore
import Derived.Laws.BytesString
import Derived.Laws.BytesArg
import Derived.Laws.CopyRow
import Derived.Test.YtgiacpkjnikjdaaGreatPart03
namespace Go.Proofs.YtgiacpkjnikjdaaGreat
open Go Go.RowKit
set_option linter.unusedVariables false
set_option linter.unusedSimpArgs false
section
def u32s (xs : List Nat) : List Value := xs.map fun x => .int .u32 (x : Nat)
def u8s (xs : List Nat) : List Value := xs.map fun x => .int .u8 (x : Nat)
theorem u32s_length (xs : List Nat) : (u32s xs).length = xs.length := by simp [u32s]
theorem u8s_length (xs : List Nat) : (u8s xs).length = xs.length := by simp [u8s]
theorem u32s_get {xs : List Nat} {j : Nat} (h : j < xs.length) : (u32s xs)[j]? = some (.int .u32 ((xs.getD j 0 : Nat) : Int)) := by
  simp [u32s, h]
theorem u32s_set {xs : List Nat} {j v : Nat} (h : j < xs.length) : lay (u32s xs) j [.int .u32 (v : Nat)] = u32s (xs.set j v) := by
  unfold lay u32s
  rw [List.set_eq_take_append_cons_drop, if_pos h]
  simp
theorem u32s_one (xs : List Nat) : ∀ u ∈ u32s xs, u.oneCell' = true := by
  intro u hu
  obtain ⟨x, _, rfl⟩ := List.mem_map.1 hu
  rfl
section
variable {P : Program} {n : Nat} {F : List (Nat × Value)} {w0 : Base} {L : List As} {v u : Value} {x y z : Operand} {d : Option Tmp} {t : TypeId} {p : String} {af : Array Edge} {g : Option (Nat × Bool)}
theorem Own.oldCA {w : World} (hW : Own w0 w L) {b off : Nat} {vs : List Value} (hne : some b ≠ w0.ex) (h : CA w0.w b off vs) : CA w b off vs := fun j u hu => by
  have h1 := h j u hu
  have hlt := World.block_lt_of_cell? _ _ h1
  rw [← h1]
  exact World.cell?_of_block (hW.1.block b hlt hne)
theorem CA.at_ {w : World} {b off j : Nat} {vs : List Value} (h : CA w b off vs) (hv : vs[j]? = some v) : w.cell? ⟨b, off + j, none⟩ = some v := h j v hv
theorem CA.at0 {w : World} {b j : Nat} {vs : List Value} (h : CA w b 0 vs) (hv : vs[j]? = some v) : w.cell? ⟨b, j, none⟩ = some v := by simpa using h j v hv
theorem ex_slice_hi {tx e : TypeId} {a : Option Addr} {len cap k : Nat} {hi : Operand} {ki : IntKind} {m : Nat} (hx : evF F x = some (.slice a len cap)) (hh : evF F hi = some (.int ki (m : Nat))) (hu : P.underlying tx = some (.slice e)) (hs : ∀ w, (sizeOf e).run P w = .ok k w) (hm : m ≤ cap) :
    Ex P n F w0 L ⟨d, .slice tx x none (some hi) none, t, p, af, g⟩ (.slice a m cap) := fun A w ha _ => by
  have e1 : (if cap = 0 then a else a.map fun y => y.add (0 * k)) = a := by
    split
    · rfl
    · cases a <;> simp [Addr.add]
  simp only [execOp, ha.ev hx, Instr.sliceAt, run_underlying hu, Instr.slice, Option.map_some, Option.map_none, ha.ev hh, Instr.sliceBounds, Instr.sliceBound, asIntOf, Sem.run_bind, Result.andThen_ok, Sem.run_pure]
  have h1 : (0 : Int) ≤ (m : Int) ∧ (m : Int) ≤ (cap : Int) := ⟨by omega, by omega⟩
  simp [h1.2, hs]
  cases a <;> simp [Addr.add]
theorem ex_slice_mid {tx e : TypeId} {b off r len cap k : Nat} {lo hi : Operand} {ki kj : IntKind} {i m : Nat} (hx : evF F x = some (.slice (some ⟨b, off, none⟩) len cap)) (hl : evF F lo = some (.int ki (i : Nat))) (hh : evF F hi = some (.int kj (m : Nat))) (hu : P.underlying tx = some (.slice e)) (hs : ∀ w, (sizeOf e).run P w = .ok k w)
    (h1 : i ≤ m) (hm : m ≤ cap) (hi' : i < cap) (hr : off + i * k = r) : Ex P n F w0 L ⟨d, .slice tx x (some lo) (some hi) none, t, p, af, g⟩ (.slice (some ⟨b, r, none⟩) (m - i) (cap - i)) := fun A w ha _ => by
  subst hr
  simp only [execOp, ha.ev hx, Instr.sliceAt, run_underlying hu, Instr.slice, Option.map_some, Option.map_none, ha.ev hl, ha.ev hh, Instr.sliceBounds, Instr.sliceBound, asIntOf, Sem.run_bind, Result.andThen_ok, Sem.run_pure]
  have e1 : (0 : Int) ≤ (m : Int) ∧ (m : Int) ≤ (cap : Int) := ⟨by omega, by omega⟩
  have e3 : ¬ cap = i := by omega
  simp [e1.2, hs, e3, Addr.add_lit]
  intro h; omega
theorem op_make_u32 {m c : Nat} {ki kj : IntKind} (hx : evF F x = some (.int ki (m : Nat))) (hy : evF F y = some (.int kj (c : Nat))) (hmc : m ≤ c) (hc : c ≤ 35184372088832) :
    ∀ a w, Frm n a F → Own w0 w L → (execOp a.eval ⟨d, .makeSlice 226 x y, t, p, af, g⟩).run Tryz.prog w = .ok (.value (.slice (some ⟨w.heap.size, 0, none⟩) m c)) (w.alloc (.cells (u32s (List.replicate c 0)).toArray 105)) := fun a w ha _ => by
  have h1 := run_make (P := Tryz.prog) w 226 105 Tryz.t105 (.int .u32 0) Tryz.underlying226 (by kernel_rfl) rfl ki kj (m : Nat) (c : Nat) (by omega) (by omega) (by show (4 : Int) * (c : Int) ≤ _; omega) (by omega)
  have e1 : madeCells (Value.int .u32 0).cells ((c : Int).toNat * Tryz.t105.size) = (u32s (List.replicate c 0)).toArray := by
    apply Array.toList_inj.1
    show (madeCells #[Value.int .u32 0] ((c : Int).toNat * 1)).toList = _
    rw [toList_madeCells_one]
    simp [u32s]
  rw [e1] at h1
  simp only [execOp, ha.ev hx, ha.ev hy, Sem.run_bind, h1, Result.andThen_ok, Sem.run_pure, Int.toNat_natCast]
theorem op_make_u8 {m c : Nat} {ki kj : IntKind} (hx : evF F x = some (.int ki (m : Nat))) (hy : evF F y = some (.int kj (c : Nat))) (hmc : m ≤ c) (hc : c ≤ 140737488355328) :
    ∀ a w, Frm n a F → Own w0 w L → (execOp a.eval ⟨d, .makeSlice 22 x y, t, p, af, g⟩).run Tryz.prog w = .ok (.value (.slice (some ⟨w.heap.size, 0, none⟩) m c)) (w.alloc (.cells (u8s (List.replicate c 0)).toArray 5)) := fun a w ha _ => by
  have h1 := run_make (P := Tryz.prog) w 22 5 Tryz.t5 (.int .u8 0) Tryz.underlying22 (by kernel_rfl) rfl ki kj (m : Nat) (c : Nat) (by omega) (by omega) (by show (1 : Int) * (c : Int) ≤ _; omega) (by omega)
  have e1 : madeCells (Value.int .u8 0).cells ((c : Int).toNat * Tryz.t5.size) = (u8s (List.replicate c 0)).toArray := by
    apply Array.toList_inj.1
    show (madeCells #[Value.int .u8 0] ((c : Int).toNat * 1)).toList = _
    rw [toList_madeCells_one]
    simp [u8s]
  rw [e1] at h1
  simp only [execOp, ha.ev hx, ha.ev hy, Sem.run_bind, h1, Result.andThen_ok, Sem.run_pure, Int.toNat_natCast]
theorem op_buildSlice {P : Program} {T e : TypeId} {len k : Nat} {z : Value} {parts : Array (Nat × Operand)} {pv : List (Nat × Value)} {cs : List Value} (hu : P.underlying T = some (.slice e)) (hs : ∀ w, (sizeOf e).run P w = .ok k w) (hz : ∀ w, (zeroValue e).run P w = .ok z w)
    (hlk : len * k ≠ 0) (hsm : len * k ≤ 16777216)
    (hp : parts.toList.map (fun q => (q.1, evF F q.2)) = pv.map (fun q => (q.1, some q.2)))
    (hf : Instr.fill (fun i => some (i * k, k)) ((Array.range (len * k)).map (z.cells[· % z.cells.size]!)) pv = some cs.toArray) :
    ∀ a w, Frm n a F → Own w0 w L → (execOp a.eval ⟨d, .buildSlice T len parts, t, p, af, g⟩).run P w = .ok (.value (.slice (some ⟨w.heap.size, 0, none⟩) len len)) (w.alloc (.cells cs.toArray e)) := fun A w ha _ => by
  have key : ∀ (l : List (Nat × Operand)) (r : List (Nat × Value)), l.map (fun q => (q.1, evF F q.2)) = r.map (fun q => (q.1, some q.2)) → l.map (fun q => (q.1, A.eval q.2)) = r := by
    intro l
    induction l with
    | nil => intro r h; cases r <;> simp_all
    | cons o l ih =>
      intro r h
      cases r with
      | nil => simp at h
      | cons q r =>
        simp only [List.map_cons, List.cons.injEq, Prod.mk.injEq] at h
        rw [List.map_cons, ha.ev h.1.2, ih r h.2, h.1.1]
  have e1 : (parts.map fun q => (q.1, A.eval q.2)).toList = pv := by rw [Array.toList_map]; exact key _ _ hp
  have e2 : (parts.map fun (i, x) => (i, A.eval x)).toList = pv := e1
  have hn : ¬ (len * k > 2 ^ 24) := by omega
  simp only [execOp, Instr.buildSlice, run_underlying hu, hs, Sem.run_bind, Result.andThen_ok, if_neg hn, if_neg hlk, Sem.run_pure, hz, Sem.run_ite]
  rw [e2, hf]
  simp [newRow]
theorem OkL.append_u8 {ops : Array Oper} {rest : List Oper} {Q : Exit → Act → World → Prop} {L' : List As} {i j b b' m c k c' dd : Nat} {cs ns cs' : List Value} {o : Oper} (ho : o = ⟨some dd, .call { callee := .builtin .append, args := #[x, y], argTypes := #[22, 22] }, t, p, af, g⟩) (hw : Wt ops n F o)
    (hx : evF F x = some (.slice (some ⟨b, 0, none⟩) m c)) (hy : evF F y = some (.slice (some ⟨b', 0, none⟩) k c')) (hi : L[i]? = some (blk b 5 cs)) (hj : L[j]? = some (blk b' 5 ns)) (hk : ns.length = k) (h1 : (ns.all fun u => u.oneCell') = true) (hroom : m + k ≤ c) (hfit : m + k ≤ cs.length)
    (hcs : lay cs m ns = cs') (hL : L.set i (blk b 5 cs') = L') (hd : dd < n) (next : OkL Tryz.prog ops rest Q n ((dd, .slice (some ⟨b, 0, none⟩) (m + k) c) :: F) w0 L') : OkL Tryz.prog ops (o :: rest) Q n F w0 L := fun a w ha hW => by
  subst ho; subst hcs; subst hL
  unfold wpList
  rw [if_pos (hw a ha)]
  left
  have hca := ca_of_row (off := 0) (k := ns.length) (hW.get hj)
  have hns : (ns.drop 0).take ns.length = ns := by simp
  rw [hns] at hca
  have hr := run_append_room (P := Tryz.prog) w 22 t 5 Tryz.t5 Tryz.underlying22 (by kernel_rfl) b m c cs.toArray (hW.get hi) ⟨b', 0, none⟩ k c' ns (by show _ = k * 1; omega) (fun q u hu => by rw [Addr.add_lit]; exact hca q u hu) (fun u hu => List.all_eq_true.1 h1 u hu) hroom (by show m * 1 + ns.length ≤ cs.toArray.size; simp; omega)
  have hz : m * Tryz.t5.size = m := Nat.mul_one m
  rw [hz] at hr
  unfold Oper.wp
  have he : (execOp a.eval ⟨some dd, .call { callee := .builtin .append, args := #[x, y], argTypes := #[22, 22] }, t, p, af, g⟩).run Tryz.prog w = .ok (.value (.slice (some ⟨b, 0, none⟩) (m + k) c)) (w.setRow b (lay cs m ns).toArray) := by
    simp only [execOp, resolve, invoke, builtin, Sem.run_bind, Sem.run_pure, Result.andThen_ok, List.map_toArray, List.map_cons, List.map_nil, ha.ev hx, ha.ev hy, hr, lay]
  rw [he, Oper.upon_value]
  have hg := hW.get hi
  exact next _ _ (ha.put hd) (hW.turn hi rfl rfl ⟨⟨rfl, rfl, rfl, by simp, fun q _ hq => setRow_other w b q _ (fun e => hq (by simp [e]))⟩, Nat.le_refl _⟩ ⟨_, setRow_heap w b cs.toArray _ 5 _ hg, rfl⟩)
def strOf (xs : List Nat) : ByteArray := ⟨(xs.map fun x => UInt8.ofNat x).toArray⟩
theorem ex_bytes_string {i b m c : Nat} {cs : List Value} {ns : List Nat} (hx : evF F x = some (.slice (some ⟨b, 0, none⟩) m c)) (hi : L[i]? = some (blk b 5 cs)) (hcs : cs.take m = u8s ns) (hm : ns.length = m) :
    Ex Tryz.prog n F w0 L ⟨d, .convert 22 9 x, t, p, af, g⟩ (.string (strOf ns)) := fun a w ha hW => by
  have hca := ca_of_row (off := 0) (k := m) (hW.get hi)
  rw [List.drop_zero, hcs] at hca
  have h2 := run_loadCells_list (P := Tryz.prog) w ⟨b, 0, none⟩ (u8s ns) (fun q u hu => by rw [Addr.add_lit]; exact hca q u hu)
  rw [u8s_length, hm] at h2
  have h3 : (u8s ns) = (ns.map fun x => ((x : Nat) : Int)).map (Value.int .u8) := by simp [u8s]
  rw [h3] at h2
  have h4 := run_bytesToString w ⟨b, 0, none⟩ m c _ h2
  rw [foldl_push_bytes] at h4
  simp only [execOp, ha.ev hx, Sem.run_bind, run_convert_bytes_string w 22 9 5 _ _ _ Tryz.underlying22 Tryz.underlying5 Tryz.underlying9, h4, Result.andThen_ok, Sem.run_pure]
  congr 2
  simp [strOf, ByteArray.empty, ByteArray.emptyWithCapacity]
  rfl
end
end
section
section
variable {P : Program} {ops : Array Oper} {l rest : List Oper} {Q : Exit → Act → World → Prop} {n : Nat} {F F' FM : List (Nat × Value)} {w0 : Base} {L L' LM : List As} {o : Oper} {v u : Value} {c x y : Code}
theorem wp_mono_normal {o : Oper} {a : Act} {w : World} {K K' : Act → World → Prop} {Q' : Exit → Act → World → Prop} (h : ∀ a w, K a w → K' a w) (hq : ∀ e a w, e ≠ .normal → ¬ Q e a w)
    (hh : o.wp P a w K Q) : o.wp P a w K' Q' := by
  unfold Oper.wp at *
  generalize (execOp a.eval o).run P w = r at *
  cases r with
  | ok n w' =>
    cases n <;> simp only [Oper.upon] at hh ⊢ <;>
      first
        | exact h _ _ hh
        | exact Calls.mono hh (fun e w'' he => by cases e <;> first | exact h _ _ he | exact absurd he (hq _ _ _ (by simp)) | exact (match he with | ⟨_, _, hl⟩ => absurd hl (hq _ _ _ (by simp))))
        | exact Rows.mono hh (fun _ _ he => h _ _ he)
  | halt x w' => cases x <;> simp only [Oper.upon] at hh ⊢ <;> exact absurd hh (hq _ _ _ (by simp))
theorem OkL.mid (m : Nat) (h1 : OkL P ops (l.take m) (fun e a w => e = .normal ∧ Frm n a FM ∧ Own w0 w LM) n F w0 L) (h2 : OkL P ops (l.drop m) Q n FM w0 LM) : OkL P ops l Q n F w0 L := fun a w ha hW => by
  have key : ∀ (m : Nat) (l : List Oper) (a : Act) (w : World), wpList P ops (fun e a w => e = .normal ∧ Frm n a FM ∧ Own w0 w LM) (l.take m) a w → (∀ a w, Frm n a FM → Own w0 w LM → wpList P ops Q (l.drop m) a w) → wpList P ops Q l a w := by
    intro m
    induction m with
    | zero => intro l a w h h2; exact h2 a w h.2.1 h.2.2
    | succ m ih =>
      intro l a w h h2
      cases l with
      | nil => exact h2 a w h.2.1 h.2.2
      | cons o l =>
        simp only [List.take_succ_cons] at h
        unfold wpList at h ⊢
        split at h
        · rename_i hg
          rw [if_pos hg]
          rcases h with h | ⟨_, _, _, hl, _⟩
          · exact .inl (wp_mono_normal (fun a w hk => ih l a w hk h2) (fun e a w he hq => he hq.1) h)
          · cases hl
        · rename_i hg
          rw [if_neg hg]
          exact ih l _ w h h2
  exact key m l a w (h1 a w ha hW) h2
theorem OkQ.mid (hs : SubF FM F) (hl : LM.Sublist L) : OkQ (fun e a w => e = .normal ∧ Frm n a FM ∧ Own w0 w LM) .normal n F w0 L := fun _ _ ha hw => ⟨rfl, ha.sub hs, hw.weak hl⟩
theorem Frm.retell {a : Act} (h : Frm n a F) {k : Nat} (hk : F.lookup k = some v) (hv : v = u) : Frm n a ((k, u) :: F) := by
  subst hv
  refine ⟨h.1, h.2.1, fun j x hj => ?_⟩
  simp only [List.lookup_cons] at hj
  split at hj
  · rename_i e
    injection hj with hj
    subst hj
    have : j = k := by simpa using e
    subst this
    exact h.2.2 j _ hk
  · exact h.2.2 j x hj
theorem OkL.retell {k : Nat} (hk : F.lookup k = some v) (hv : v = u) (next : OkL P ops rest Q n ((k, u) :: F) w0 L) : OkL P ops rest Q n F w0 L := fun a w ha hW => next a w (ha.retell hk hv) hW
theorem OkQ.retell {e : Exit} {k : Nat} (hk : F.lookup k = some v) (hv : v = u) (next : OkQ Q e n ((k, u) :: F) w0 L) : OkQ Q e n F w0 L := fun a w ha hW => next a w (ha.retell hk hv) hW
theorem OkC.retell {k : Nat} (hk : F.lookup k = some v) (hv : v = u) (next : OkC P c Q n ((k, u) :: F) w0 L) : OkC P c Q n F w0 L := fun a w ha hW => next a w (ha.retell hk hv) hW
theorem OkQ.reblock {e : Exit} (h : L = L') (next : OkQ Q e n F w0 L') : OkQ Q e n F w0 L := h ▸ next
theorem OkL.reblock (h : L = L') (next : OkL P ops rest Q n F w0 L') : OkL P ops rest Q n F w0 L := h ▸ next
theorem OkC.reblock (h : L = L') (next : OkC P c Q n F w0 L') : OkC P c Q n F w0 L := h ▸ next
theorem OkL.openV {d : Nat} {T : TypeId} {cs : List Value} {V : Nat → Value} (hw : Wt ops n F o)
    (he : ∀ a w, Frm n a F → Own w0 w L → (execOp a.eval o).run P w = .ok (.value (V w.heap.size)) (w.alloc (.cells cs.toArray T)))
    (ho : o.dst = some d) (hd : d < n) (next : ∀ b, OkL P ops rest Q n ((d, V b) :: F) w0 (blk b T cs :: L)) : OkL P ops (o :: rest) Q n F w0 L := fun a w ha hW => by
  unfold wpList
  rw [if_pos (hw a ha)]
  left
  unfold Oper.wp
  rw [he a w ha hW, Oper.upon_value, ho]
  exact next _ _ _ (ha.put hd) (hW.alloc _ rfl rfl)
end
theorem ca_blk {w : World} {b : Nat} {cs : List Value} {T : TypeId} {fr : Nat × Nat} (h : w.heap[b]? = some (.cells cs.toArray T fr)) : CA w b 0 cs := by
  have := ca_of_row (off := 0) (k := cs.length) h
  simpa using this
theorem ble_row {xs : List Nat} {f : List Nat → List Value} (hf : (f xs).length = xs.length) {j : Nat} (h : j < xs.length) : Nat.ble (j + 1) (f xs).length = true := Nat.ble_eq_true_of_le (by omega)
def W32 (xs : List Nat) : Prop := ∀ x ∈ xs, x < 4294967296
theorem W32.getD {xs : List Nat} (h : W32 xs) (i : Nat) : xs.getD i 0 < 4294967296 := by
  by_cases hi : i < xs.length
  · simp [hi]; exact h _ (List.getElem_mem hi)
  · simp [Nat.not_lt.1 hi]
theorem W32.set {xs : List Nat} (h : W32 xs) {v : Nat} (hv : v < 4294967296) (i : Nat) : W32 (xs.set i v) := fun x hx => by
  rcases List.mem_or_eq_of_mem_set hx with h1 | h1
  · exact h x h1
  · omega
theorem W32.take {xs : List Nat} (h : W32 xs) (i : Nat) : W32 (xs.take i) := fun x hx => h x (List.mem_of_mem_take hx)
theorem W32.drop {xs : List Nat} (h : W32 xs) (i : Nat) : W32 (xs.drop i) := fun x hx => h x (List.mem_of_mem_drop hx)
theorem W32.zeros (k : Nat) : W32 (List.replicate k 0) := fun x hx => by rw [(List.mem_replicate.1 hx).2]; omega
theorem W32.append {xs ys : List Nat} (h : W32 xs) (h' : W32 ys) : W32 (xs ++ ys) := fun x hx => by
  rcases List.mem_append.1 hx with h1 | h1
  · exact h x h1
  · exact h' x h1
theorem W32.cons {x : Nat} {xs : List Nat} (h : x < 4294967296) (h' : W32 xs) : W32 (x :: xs) := fun y hy => by
  rcases List.mem_cons.1 hy with h1 | h1
  · omega
  · exact h' y h1
theorem W32.nil : W32 [] := fun _ h => by cases h
def val : List Nat → Nat
  | [] => 0
  | x :: xs => x + 4294967296 * val xs
theorem val_cons (x : Nat) (xs : List Nat) : val (x :: xs) = x + 4294967296 * val xs := rfl
theorem val_append (xs ys : List Nat) : val (xs ++ ys) = val xs + 4294967296 ^ xs.length * val ys := by
  induction xs with
  | nil => simp [val]
  | cons x xs ih => simp only [List.cons_append, val, ih, List.length_cons, Nat.pow_succ]; grind
theorem val_zeros (k : Nat) : val (List.replicate k 0) = 0 := by
  induction k with
  | zero => rfl
  | succ k ih => simp [List.replicate_succ, val, ih]
theorem val_lt {xs : List Nat} (h : W32 xs) : val xs < 4294967296 ^ xs.length := by
  induction xs with
  | nil => simp [val]
  | cons x xs ih =>
    have h1 := h x (by simp)
    have h2 := ih (fun y hy => h y (by simp [hy]))
    simp only [val, List.length_cons, Nat.pow_succ]
    omega
theorem val_set {xs : List Nat} {i : Nat} (h : i < xs.length) (v : Nat) : val (xs.set i v) + xs.getD i 0 * 4294967296 ^ i = val xs + v * 4294967296 ^ i := by
  induction xs generalizing i with
  | nil => simp at h
  | cons x xs ih =>
    cases i with
    | zero => simp [val]; omega
    | succ i =>
      have := ih (i := i) (by simpa using h)
      simp only [List.set_cons_succ, val, List.getD_cons_succ, Nat.pow_succ]
      grind
theorem val_take_succ (xs : List Nat) (i : Nat) : val (xs.take (i + 1)) = val (xs.take i) + xs.getD i 0 * 4294967296 ^ i := by
  induction xs generalizing i with
  | nil => simp [val]
  | cons x xs ih =>
    cases i with
    | zero => simp [val]
    | succ i =>
      have := ih i
      simp only [List.take_succ_cons, val, List.getD_cons_succ, Nat.pow_succ] at this ⊢
      rw [this]
      grind
theorem val_split (xs : List Nat) (i : Nat) (h : i ≤ xs.length) : val xs = val (xs.take i) + 4294967296 ^ i * val (xs.drop i) := by
  have := val_append (xs.take i) (xs.drop i)
  rwa [List.take_append_drop, List.length_take, Nat.min_eq_left h] at this
theorem val_take_le (xs : List Nat) (i : Nat) : val (xs.take i) ≤ val xs := by
  by_cases h : i ≤ xs.length
  · have := val_split xs i h; omega
  · rw [List.take_of_length_le (by omega)]; exact Nat.le_refl _
theorem val_getD_le (xs : List Nat) (i : Nat) : xs.getD i 0 * 4294967296 ^ i ≤ val xs := by
  have h1 := val_take_succ xs i
  have h2 := val_take_le xs (i + 1)
  omega
theorem getD_zero_of_lt {xs : List Nat} {i m : Nat} (h : val xs < 4294967296 ^ m) (hm : m ≤ i) : xs.getD i 0 = 0 := by
  have h1 := val_getD_le xs i
  have h2 : 4294967296 ^ m ≤ 4294967296 ^ i := Nat.pow_le_pow_right (by omega) hm
  rcases Nat.eq_zero_or_pos (xs.getD i 0) with h3 | h3
  · exact h3
  · have : 1 * 4294967296 ^ i ≤ xs.getD i 0 * 4294967296 ^ i := Nat.mul_le_mul_right _ h3
    omega
theorem val_take_of_lt {xs : List Nat} {m : Nat} (h : val xs < 4294967296 ^ m) : val (xs.take m) = val xs := by
  by_cases hm : m ≤ xs.length
  · have h1 := val_split xs m hm
    rcases Nat.eq_zero_or_pos (val (xs.drop m)) with h3 | h3
    · rw [h3] at h1; omega
    · have : 4294967296 ^ m * 1 ≤ 4294967296 ^ m * val (xs.drop m) := Nat.mul_le_mul_left _ h3
      omega
  · rw [List.take_of_length_le (by omega)]
theorem digs_fuel : ∀ (f v : Nat), v ≤ f → digs f v = wordsOf v := by
  intro f
  induction f using Nat.strongRecOn with
  | _ f ih =>
    intro v hv
    cases f with
    | zero => have : v = 0 := by omega
              subst this; rfl
    | succ f =>
      unfold wordsOf
      cases v with
      | zero => simp [digs]
      | succ v =>
        simp only [digs]
        have h1 : (v + 1) / 4294967296 ≤ v := by omega
        rw [ih f (by omega) _ (by omega)]
        by_cases hvf : v = f
        · subst hvf; rw [ih v (by omega) _ h1]
        · rw [ih v (by omega) _ h1]
theorem words_zero : wordsOf 0 = [] := rfl
theorem words_pos {v : Nat} (h : v ≠ 0) : wordsOf v = v % 4294967296 :: wordsOf (v / 4294967296) := by
  cases v with
  | zero => exact absurd rfl h
  | succ v =>
    conv => lhs; unfold wordsOf digs
    simp only [Nat.add_eq_zero_iff]
    rw [digs_fuel v _ (by omega)]
    simp
theorem val_words (v : Nat) : val (wordsOf v) = v := by
  induction v using Nat.strongRecOn with
  | _ v ih =>
    by_cases h : v = 0
    · subst h; rfl
    · rw [words_pos h, val, ih _ (by omega)]; omega
theorem words_w32 (v : Nat) : W32 (wordsOf v) := by
  induction v using Nat.strongRecOn with
  | _ v ih =>
    by_cases h : v = 0
    · subst h; exact W32.nil
    · rw [words_pos h]; exact W32.cons (by omega) (ih _ (by omega))
def nw (v : Nat) : Nat := (wordsOf v).length
theorem nw_zero : nw 0 = 0 := rfl
theorem nw_pos {v : Nat} (h : v ≠ 0) : nw v = nw (v / 4294967296) + 1 := by unfold nw; rw [words_pos h]; rfl
theorem nw_le_iff {v k : Nat} : nw v ≤ k ↔ v < 4294967296 ^ k := by
  induction k generalizing v with
  | zero =>
    by_cases h : v = 0
    · subst h; simp [nw_zero]
    · rw [nw_pos h]; simp; omega
  | succ k ih =>
    by_cases h : v = 0
    · subst h; simp [nw_zero, Nat.pow_pos]
    · rw [nw_pos h, Nat.pow_succ, Nat.add_le_add_iff_right, ih, Nat.div_lt_iff_lt_mul (by omega)]
theorem lt_pow_nw (v : Nat) : v < 4294967296 ^ nw v := nw_le_iff.1 (Nat.le_refl _)
theorem nw_mono {a b : Nat} (h : a ≤ b) : nw a ≤ nw b := nw_le_iff.2 (Nat.lt_of_le_of_lt h (lt_pow_nw b))
theorem nw_mul (a b : Nat) : nw (a * b) ≤ nw a + nw b := by
  rw [nw_le_iff, Nat.pow_add]
  exact Nat.mul_lt_mul'' (lt_pow_nw a) (lt_pow_nw b)
theorem nw_add (a b : Nat) : nw (a + b) ≤ max (nw a) (nw b) + 1 := by
  rw [nw_le_iff, Nat.pow_succ]
  have h1 : a < 4294967296 ^ max (nw a) (nw b) := nw_le_iff.1 (Nat.le_max_left ..)
  have h2 : b < 4294967296 ^ max (nw a) (nw b) := nw_le_iff.1 (Nat.le_max_right ..)
  omega
theorem nw_small {a : Nat} (h : a < 18446744073709551616) : nw a ≤ 2 := nw_le_iff.2 (by omega)
theorem words_of_row {xs : List Nat} (h : W32 xs) (hl : ∀ x, xs.getLast? = some x → x ≠ 0) : wordsOf (val xs) = xs := by
  induction xs with
  | nil => rfl
  | cons x xs ih =>
    have hx := h x (by simp)
    have h0 : val (x :: xs) ≠ 0 := by
      intro h0
      rw [val_cons] at h0
      have hv : val xs = 0 := by omega
      cases xs with
      | nil => exact hl x rfl (by omega)
      | cons y ys =>
        have := ih (fun z hz => h z (by simp [hz])) (fun z hz => hl z (by simpa using hz))
        rw [hv] at this
        cases this
    rw [words_pos h0, val_cons]
    have e1 : (x + 4294967296 * val xs) % 4294967296 = x := by omega
    have e2 : (x + 4294967296 * val xs) / 4294967296 = val xs := by omega
    rw [e1, e2]
    congr 1
    exact ih (fun z hz => h z (by simp [hz])) (fun z hz => hl z (by
      cases xs with
      | nil => simp at hz
      | cons y ys => simpa using hz))
end
end Go.Proofs.YtgiacpkjnikjdaaGreat
