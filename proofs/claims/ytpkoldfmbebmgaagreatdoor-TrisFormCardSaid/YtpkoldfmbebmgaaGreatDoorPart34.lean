import Derived.Lib.ItoaLen
import Derived.Laws.IdiomStrings
import Derived.Test.YtpkoldfmbebmgaaGreatDoorPart08
import Derived.Test.YtpkoldfmbebmgaaGreatDoorPart10
import Derived.Test.YtpkoldfmbebmgaaGreatDoorPart11
import Derived.Test.YtpkoldfmbebmgaaGreatDoorPart32
import Derived.Test.YtpkoldfmbebmgaaGreatDoorPart33
namespace Go.Proofs.YtpkoldfmbebmgaaGreatDoor
open Go Go.RowKit
set_option linter.unusedVariables false
set_option linter.unusedSimpArgs false
section
def byL (l : List UInt8) : List Value := l.map fun x => Value.int .u8 (x.toNat : Int)
theorem byL_length (l : List UInt8) : (byL l).length = l.length := by simp [byL]
def Tab (w : World) : Prop := Lib.TabIs Tryz.prog w "internal/strconv.uint64pow10" .u64 Lib.pow10Tab
theorem fmt10_gen (Z : Nat) (hZ : Z = 24) (b u : Nat) (T : TypeId) (w : World) (hb : w.heap[b]? = some (.cells (List.replicate Z (Value.int .u8 0)).toArray T (0, 0))) (hu : u < 18446744073709551616) :
    Calls Tryz.prog 184 #[.slice (some ⟨b, 0, none⟩) (Lib.nDigits u) 24, .int .u64 u] w fun e w' => e = .returned (.tuple #[]) ∧ w.grownBy w' (some b) ∧ ∃ o, w'.heap[b]? = some o ∧ Lies 0 (byL (Lib.decDigits u)) o := by
  have hnd := Lib.nDigits_le20 u hu
  have hH : Go.Sort.Holds (fun (b : UInt8) => Value.int .u8 (b.toNat : Int)) w b 0 (Array.replicate (Lib.nDigits u) (0 : UInt8)) := fun j hj => by
    have hj' : j < Lib.nDigits u := by simpa using hj
    refine ⟨?_, by simp [World.frozen?, hb]⟩
    rw [cell_of_row w b _ _ T (0, 0) hb, getElem!_pos _ j hj]
    simp [show j < Z by omega]
  have h := Tryz.internal_strconv_formatBase10 b 0 24 u (Array.replicate (Lib.nDigits u) 0) w hH (by rw [Array.size_replicate]; exact Lib.lt_pow_nDigits u) hu (by rw [Array.size_replicate]; omega)
  rw [Array.size_replicate] at h
  refine h.mono ?_
  rintro e w' ⟨rfl, n, v', dk, rfl, hF⟩
  refine ⟨rfl, ⟨rfl, rfl, rfl, by simp [Go.Sort.putRow, Go.Sort.mapBlock], fun k hk hne => ?_⟩, _, (by simp only [World.heap_drewN, Go.Sort.putRow, Go.Sort.mapBlock, Array.getElem?_modify, hb, if_true, Option.map_some, Go.Sort.onCells] : _ = some (.cells (Go.Sort.putCells (fun (b : UInt8) => Value.int .u8 (b.toNat : Int)) 0 dk (List.replicate Z (Value.int .u8 0)).toArray) T (0, 0))), _, T, (0, 0), rfl, ?_⟩
  · have : b ≠ k := fun e => hne (by rw [e])
    simp [Go.Sort.putRow, Go.Sort.mapBlock, Array.getElem?_modify, this]
  · have hsz : dk.size = Lib.nDigits u := hF.size
    rw [byL_length, Lib.decDigits_length]
    apply List.ext_getElem?
    intro j
    by_cases hj : j < Lib.nDigits u
    · have hjd : j < (Lib.decDigits u).length := by rw [Lib.decDigits_length]; exact hj
      rw [List.drop_zero, List.getElem?_take_of_lt hj, Array.getElem?_toList]
      have e1 := Lib.row_is_numeral hF j hjd
      simp only [byL, List.getElem?_map, List.getElem?_eq_getElem hjd, e1, Option.map_some]
      simp [Go.Sort.putCells, hj, hsz, show j < Z by omega]
    · rw [List.getElem?_take_eq_none (by omega), List.getElem?_eq_none (by rw [byL_length, Lib.decDigits_length]; omega)]
theorem fmt10_ok (b u : Nat) (T : TypeId) (w : World) (hb : w.heap[b]? = some (.cells (List.replicate 24 (Value.int .u8 0)).toArray T (0, 0))) (hu : u < 18446744073709551616) :
    Calls Tryz.prog 184 #[.slice (some ⟨b, 0, none⟩) (Lib.nDigits u) 24, .int .u64 u] w fun e w' => e = .returned (.tuple #[]) ∧ w.grownBy w' (some b) ∧ ∃ o, w'.heap[b]? = some o ∧ Lies 0 (byL (Lib.decDigits u)) o := fmt10_gen 24 rfl b u T w hb hu
theorem Tab.below {w w' : World} (h : Tab w) (hb : Below w.heap.size w w') : Tab w' := by
  unfold Tab Lib.TabIs World.var? at *
  cases hg : Tryz.prog.globalNamed "internal/strconv.uint64pow10" with
  | none => simp [hg] at h
  | some g =>
    simp only [hg, Option.bind_some] at h ⊢
    have hlt : g < w.heap.size := by
      rcases Nat.lt_or_ge g w.heap.size with h' | h'
      · exact h'
      · rw [Array.getElem?_eq_none h'] at h; simp at h
    rw [hb.block g hlt]
    exact h
theorem ndig_ok (u : Nat) (h1 : 1 ≤ u) (h2 : u < 18446744073709551616) (w : World) (hT : Tab w) : Calls Tryz.prog 183 #[vK .u64 u] w (Gives w (vN (Lib.nDigits u))) :=
  (Tryz.internal_strconv_numDigits u h1 h2 w hT).mono fun e w' h => ⟨h.1, h.2 ▸ Below.refl _ _⟩
theorem smallF_ok (i : Nat) (h : i < 100) (w : World) : Calls Tryz.prog 182 #[vN i] w (Gives w (.string (txB (Lib.decDigits i)))) :=
  (Tryz.internal_strconv_small i h w).mono fun e w' h => ⟨h.1, h.2 ▸ Below.refl _ _⟩
section
variable {ops : Array Oper} {rest : List Oper} {Q : Exit → Act → World → Prop} {n : Nat} {F : List (Nat × Value)} {w0 : Base} {L : List As} {t : TypeId} {p : String} {af : Array Edge} {d : Option Tmp} {g : Option (Nat × Bool)} {x : Operand}
theorem OkL.callRow {P : Program} {o : Oper} {f : FuncId} {args : Array Value} {v : Value} (i : Nat) {b : Nat} {T : TypeId} {cs cs' : List Value} (hw : Wt ops n F o)
    (he : ∀ a w, Frm n a F → Own w0 w L → (execOp a.eval o).run P w = .ok (.enter f args) w) (hi : L[i]? = some (blk b T cs))
    (hc : ∀ w, Own w0 w L → Calls P f args w fun e w' => e = .returned v ∧ w.grownBy w' (some b) ∧ ∃ o, w'.heap[b]? = some o ∧ Lies 0 cs' o)
    (hd : ∀ d, o.dst = some d → d < n) (next : OkL P ops rest Q n (match o.dst with | some d => (d, v) :: F | none => F) w0 (L.set i (rowR (some ⟨b, 0, none⟩) cs'))) : OkL P ops (o :: rest) Q n F w0 L := fun a w ha hW => by
  unfold wpList
  rw [if_pos (hw a ha)]
  left
  unfold Oper.wp
  rw [he a w ha hW, Oper.upon_enter]
  refine (hc w hW).mono ?_
  rintro e w' ⟨rfl, hg, o', hcell, hl⟩
  have hW' := hW.turn hi rfl rfl hg ⟨o', hcell, hl⟩ (y := rowR (some ⟨b, 0, none⟩) cs')
  cases hdd : o.dst with
  | none => rw [hdd] at next; exact next _ _ ha.put_none hW'
  | some d => rw [hdd] at next; exact next _ _ (ha.put (hd d hdd)) hW'
theorem ex_slice_array_hi {P : Program} {tx e : TypeId} {b len k m : Nat} {ki : IntKind} {hi : Operand} (hx : evF F x = some (.pointer (some ⟨b, 0, none⟩))) (hh : evF F hi = some (.int ki (m : Nat))) (hu : P.underlying tx = some (.array len e)) (hs : ∀ w, (sizeOf e).run P w = .ok k w) (hm : m ≤ len) (h0 : 0 < len) :
    Ex P n F w0 L ⟨d, .slice tx x none (some hi) none, t, p, af, g⟩ (.slice (some ⟨b, 0, none⟩) m len) := fun A w ha _ => by
  have e1 : ¬ len = 0 := by omega
  simp [execOp, ha.ev hx, ha.ev hh, Instr.sliceAt, run_underlying hu, Instr.sureAddr, Instr.sliceBounds, Instr.sliceBound, asIntOf, hs, e1, hm, Addr.add_lit]
theorem ex_conv_bytes {P : Program} {src dst e : TypeId} {b k : Nat} {cap m : Nat} {l : List UInt8} (hx : evF F x = some (.slice (some ⟨b, 0, none⟩) m cap)) (hm : m = l.length) (hi : L[k]? = some (rowR (some ⟨b, 0, none⟩) (byL l))) (hs : P.underlying src = some (.slice e)) (he : P.underlying e = some (.int .u8)) (hd : P.underlying dst = some .string) :
    Ex P n F w0 L ⟨d, .convert src dst x, t, p, af, g⟩ (.string (txB l)) := fun A w hf hW => by
  subst hm
  have h := run_convert_bytes_back (P := P) w src dst e ⟨b, 0, none⟩ cap l hs he hd (fun j hj => by
    obtain ⟨o, ho, hp⟩ := hW.holds hi b rfl
    rw [Addr.add_lit]
    exact Lies.cell hp ho (by simp [byL, hj]))
  simp only [execOp, hf.ev hx, Sem.run_bind, h, Result.andThen_ok, Sem.run_pure]
  rfl
end
end
section
def stL (ps : List (List UInt8)) : List Value := ps.map fun l => Value.string (txB l)
theorem stL_length (ps : List (List UInt8)) : (stL ps).length = ps.length := by simp [stL]
theorem stL_append (a b : List (List UInt8)) : stL (a ++ b) = stL a ++ stL b := by simp [stL]
theorem revS_ok (p : Option Addr) (k c : Nat) (ps : List (List UInt8)) (T : TypeId) (ho : OwnOk p k c) (hk : k = ps.length) (w : World) (hrow : ∀ b, p.map (·.block) = some b → ∃ o, w.heap[b]? = some o ∧ (rowW p T 1 k c (stL ps)).P o) :
    Calls Tryz.prog 150 #[.slice p k c] w fun e w' => e = .returned (.tuple #[]) ∧ w.grownBy w' (p.map (·.block)) ∧ ∀ b, p.map (·.block) = some b → ∃ o, w'.heap[b]? = some o ∧ (rowW p T 1 k c (stL ps.reverse)).P o := by
  cases hp : p with
  | none =>
    subst hp
    obtain ⟨rfl, rfl⟩ := ho.nil rfl
    refine (Tryz.slices_Reverse_string_empty none 0 w).mono ?_
    rintro e w' ⟨rfl, rfl⟩
    exact ⟨rfl, ⟨rfl, rfl, rfl, Nat.le_refl _, fun _ _ _ => rfl⟩, fun b e => by cases e⟩
  | some a =>
    subst hp
    obtain ⟨o, hob, cur, rfl, hsz, hcur⟩ := hrow a.block rfl
    have hat := ho.at0 a rfl
    have hle := ho.le
    have hmax := ho.max
    have hget : ∀ j, j < k → cur[j]? = some (Value.string (txB (ps.toArray[j]!))) := fun j hj => by
      have h1 : (cur.toList.take (k * 1))[j]? = (stL ps)[j]? := by rw [hcur]
      rw [List.getElem?_take_of_lt (by omega), Array.getElem?_toList] at h1
      rw [h1, stL, List.getElem?_map, List.getElem?_eq_getElem (by omega)]
      simp [show j < ps.length by omega]
    have hH : Go.Sort.Holds encStr w a.block 0 ps.toArray := fun j hj => by
      have hj' : j < k := by rw [hk]; simpa using hj
      refine ⟨?_, by simp [World.frozen?, hob]⟩
      rw [cell_of_row w a.block _ _ T (0, 0) hob, Nat.zero_add, hget j hj']
      rfl
    have h := Tryz.slices_Reverse_string a.block 0 c ps w hH (by simp only [maxLen] at hmax; omega)
    rw [← hk] at h
    rw [hat]
    refine h.mono ?_
    rintro e w' ⟨rfl, n, rfl⟩
    refine ⟨rfl, ⟨rfl, rfl, rfl, by simp [Go.Sort.putRow, Go.Sort.mapBlock, Go.Sort.ahead], fun j _ hne => ?_⟩, fun b e => ?_⟩
    · have : a.block ≠ j := fun e => hne (by rw [e]; rfl)
      simp [Go.Sort.putRow, Go.Sort.mapBlock, Go.Sort.ahead, Array.getElem?_modify, this]
    · injection e with e
      subst e
      refine ⟨.cells (Go.Sort.putCells encStr 0 ps.reverse.toArray cur) T (0, 0), by simp [Go.Sort.putRow, Go.Sort.mapBlock, Go.Sort.ahead, Array.getElem?_modify, hob, Go.Sort.onCells], _, rfl, by simp [Go.Sort.putCells, hsz], ?_⟩
      apply List.ext_getElem?
      intro j
      by_cases hj : j < k
      · rw [List.getElem?_take_of_lt (by omega), Array.getElem?_toList]
        have h1 : j < cur.size := by omega
        simp [Go.Sort.putCells, stL, h1, encStr, txB, show j < ps.length by omega]
      · rw [List.getElem?_take_eq_none (by omega), List.getElem?_eq_none (by rw [stL_length, List.length_reverse]; omega)]
theorem joinS_nil (xs : List (List UInt8)) : Lib.join xs [] = xs.flatten := by
  cases xs with
  | nil => rfl
  | cons x r =>
    rw [Lib.join_cons, Lib.joinTail, List.flatten_cons]
    simp
theorem joinS_ok (p : Option Addr) (k c : Nat) (ps : List (List UInt8)) (T : TypeId) (ho : OwnOk p k c) (hk : k = ps.length) (hkl : k ≤ 140737488355328) (hlen : ps.flatten.length ≤ 140737488355328) (w : World) (hrow : ∀ b, p.map (·.block) = some b → ∃ o, w.heap[b]? = some o ∧ (rowW p T 1 k c (stL ps)).P o) :
    Calls Tryz.prog 151 #[.slice p k c, .string (ByteArray.mk #[])] w (Gives w (.string (txB ps.flatten))) := by
  cases hp : p with
  | none =>
    subst hp
    obtain ⟨rfl, rfl⟩ := ho.nil rfl
    have hps : ps = [] := List.eq_nil_of_length_eq_zero hk.symm
    subst hps
    refine (Tryz.strings_Join_none none 0 (ByteArray.mk #[]) w).mono ?_
    rintro e w' ⟨rfl, rfl⟩
    exact ⟨rfl, Below.refl _ _⟩
  | some a =>
    subst hp
    obtain ⟨o, hob, cur, rfl, hsz, hcur⟩ := hrow a.block rfl
    have hat := ho.at0 a rfl
    have hle := ho.le
    have hfl : (ps.map txB).map (·.data.toList) = ps := by
      rw [List.map_map]
      exact (List.map_congr_left fun l _ => by simp [txB]).trans (List.map_id _)
    have hblt : a.block < w.heap.size := (Array.getElem?_eq_some_iff.1 hob).1
    have h := Tryz.strings_Join a.block 0 c (ps.map txB) (ByteArray.mk #[]) w (fun j x hx => by
      rw [cell_of_row w a.block _ _ T (0, 0) hob, Nat.zero_add]
      have hj : j < k := by
        have := (List.getElem?_eq_some_iff.1 hx).1
        rw [List.length_map] at this; omega
      have h1 : (cur.toList.take (k * 1))[j]? = (stL ps)[j]? := by rw [hcur]
      rw [List.getElem?_take_of_lt (by omega), Array.getElem?_toList] at h1
      rw [h1, stL, List.getElem?_map]
      rw [List.getElem?_map] at hx
      cases hpj : ps[j]? with
      | none => rw [hpj] at hx; cases hx
      | some l => rw [hpj] at hx; injection hx with hx; subst hx; rfl) hblt (by rw [List.length_map, ← hk]; exact hkl) (by rw [List.length_map, ← hk]; exact hle) (by rw [hfl, show (ByteArray.mk #[]).data.toList = [] from rfl, joinS_nil]; exact hlen)
    rw [List.length_map, ← hk, hfl, show (ByteArray.mk #[]).data.toList = [] from rfl, joinS_nil] at h
    rw [hat]
    exact h.mono fun e w' h => ⟨h.1, h.2⟩
theorem itoaF_ok (n : Nat) (hn : n ≤ 9223372036854775807) (w : World) (hT : Tab w) : Calls Tryz.prog 148 #[vN n] w (Gives w (.string (txB (Lib.decDigits n)))) := by
  refine (Tryz.strconv_Itoa (n : Int) (by omega) (by omega) w hT).mono ?_
  rintro e w' ⟨rfl, k, os, rfl⟩
  refine ⟨by rw [Lib.itoa_nonneg]; rfl, rfl, rfl, rfl, by simp, fun j hj => ?_⟩
  rw [Go.Sort.heap_grow_old _ _ (by simpa using hj)]
  rfl
section
variable {P : Program} {ops : Array Oper} {rest : List Oper} {Q : Exit → Act → World → Prop} {n : Nat} {F : List (Nat × Value)} {w0 : Base} {L : List As}
theorem OkL.callW {o : Oper} {f : FuncId} {args : Array Value} {v : Value} (i : Nat) {q : Option Addr} {T : TypeId} {z m c : Nat} {cs cs' : List Value} (hw : Wt ops n F o)
    (he : ∀ a w, Frm n a F → Own w0 w L → (execOp a.eval o).run P w = .ok (.enter f args) w) (hi : L[i]? = some (rowW q T z m c cs))
    (hc : ∀ w, Own w0 w L → Calls P f args w fun e w' => e = .returned v ∧ w.grownBy w' (q.map (·.block)) ∧ ∀ b, q.map (·.block) = some b → ∃ o, w'.heap[b]? = some o ∧ (rowW q T z m c cs').P o)
    (hd : ∀ d, o.dst = some d → d < n) (next : OkL P ops rest Q n (match o.dst with | some d => (d, v) :: F | none => F) w0 (L.set i (rowW q T z m c cs'))) : OkL P ops (o :: rest) Q n F w0 L := fun a w ha hW => by
  unfold wpList
  rw [if_pos (hw a ha)]
  left
  unfold Oper.wp
  rw [he a w ha hW, Oper.upon_enter]
  refine (hc w hW).mono ?_
  rintro e w' ⟨rfl, hg, hr⟩
  have hW' := hW.renew hi rfl hg (y := rowW q T z m c cs') fun b e => ⟨.inl e, hr b e⟩
  cases hdd : o.dst with
  | none => rw [hdd] at next; exact next _ _ ha.put_none hW'
  | some d => rw [hdd] at next; exact next _ _ (ha.put (hd d hdd)) hW'
end
theorem rowN_get : ∀ (N v i : Nat), i < N → (rowN N v).getD i 0 = v / 4294967296 ^ i % 4294967296
  | 0, _, _, h => absurd h (by omega)
  | N + 1, v, 0, _ => by simp [rowN]
  | N + 1, v, i + 1, h => by
    rw [rowN, List.getD_cons_succ, rowN_get N _ i (by omega), Nat.div_div_eq_div_mul, Nat.pow_succ']
theorem cutN_rowN {N v : Nat} : ∀ m, nw v ≤ m → m ≤ N → cutN (rowN N v) m = nw v := fun m => by
  induction m with
  | zero =>
    intro h _
    rw [show nw v = 0 by omega]
    rfl
  | succ m ih =>
    intro h1 h2
    by_cases h : nw v = m + 1
    · rw [h]
      refine cutN_stop fun h3 => ?_
      have h4 : ¬ nw v ≤ m := by omega
      rw [nw_le_iff] at h4
      have h5 := lt_pow_nw v
      rw [h, Nat.pow_succ] at h5
      have h6 := h3.2
      rw [Nat.add_sub_cancel, rowN_get _ _ _ (by omega), Nat.mod_eq_of_lt (Nat.div_lt_of_lt_mul h5)] at h6
      have h7 : 1 ≤ v / 4294967296 ^ m := (Nat.le_div_iff_mul_le (Nat.pow_pos (by omega))).2 (by omega)
      omega
    · have h4 : nw v ≤ m := by omega
      have h5 := nw_le_iff.1 h4
      have h6 : (rowN N v).getD (m + 1 - 1) 0 = 0 := by
        rw [Nat.add_sub_cancel, rowN_get _ _ _ (by omega), Nat.div_eq_of_lt h5]
      rw [cutN_step (by omega) h6]
      exact ih h4 (by omega)
theorem dec_len : ∀ {k x : Nat}, x < 10 ^ (k + 1) → (Lib.decDigits x).length ≤ k + 1
  | 0, x, h => by rw [Lib.decDigits, dif_pos (by omega)]; simp
  | k + 1, x, h => by
    rw [Lib.decDigits]
    split
    · simp
    · have := dec_len (k := k) (x := x / 10) (by rw [Nat.pow_succ] at h; omega)
      rw [List.length_append, List.length_singleton]; omega
theorem dec_lt (x : Nat) : x < 10 ^ (Lib.decDigits x).length := by rw [Lib.decDigits_length]; exact Lib.lt_pow_nDigits x
theorem block_step {n m k : Nat} {ps : List (List UInt8)} (hm : m = n / 10 ^ (9 * k)) (hm0 : m ≠ 0) (hp : ps.reverse.flatten = padD (9 * k) n) (h : m / 1000000000 ≠ 0) :
    (ps ++ [List.replicate (9 - (Lib.decDigits (m % 1000000000)).length) 48 ++ Lib.decDigits (m % 1000000000)]).reverse.flatten = padD (9 * (k + 1)) n := by
  have h1 : m % 1000000000 < 10 ^ (8 + 1) := Nat.mod_lt _ (by decide)
  rw [pad_zeros (dec_len h1) (dec_lt _), show (1000000000 : Nat) = 10 ^ 9 from rfl, padD_mod, hm, List.reverse_append, List.reverse_singleton, List.singleton_append, List.flatten_cons, hp, show 9 * (k + 1) = 9 + 9 * k by omega, padD_add 9 (9 * k) n]
theorem block_last {n m k : Nat} {ps : List (List UInt8)} (hm : m = n / 10 ^ (9 * k)) (hm0 : m ≠ 0) (hp : ps.reverse.flatten = padD (9 * k) n) (h : m / 1000000000 = 0) :
    (ps ++ [Lib.decDigits (m % 1000000000)]).reverse.flatten = Lib.decDigits n := by
  rw [Nat.mod_eq_of_lt (by omega), List.reverse_append, List.reverse_singleton, List.singleton_append, List.flatten_cons, hp, decDigits_cut (k := 9 * k) (x := n) (by rw [← hm]; exact hm0), hm]
theorem parts_lt {n m k : Nat} (hm : m = n / 10 ^ (9 * k)) (h0 : m ≠ 0) : k < 2 * nw n := by
  have h1 : 10 ^ (9 * k) ≤ n := Nat.le_of_not_lt fun h => h0 (by rw [hm, Nat.div_eq_of_lt h])
  have h2 : n < 10 ^ (10 * nw n) := Nat.lt_of_lt_of_le (lt_pow_nw n) (by rw [Nat.pow_mul]; exact Nat.pow_le_pow_left (by decide) _)
  have h3 : 9 * k < 10 * nw n := Nat.lt_of_not_le fun h => by
    have := Nat.pow_le_pow_right (n := 10) (by omega) h
    omega
  omega
theorem dec_nw (n : Nat) : (Lib.decDigits n).length ≤ 10 * nw n + 1 :=
  dec_len (Nat.lt_of_lt_of_le (Nat.lt_of_lt_of_le (lt_pow_nw n) (by rw [Nat.pow_mul]; exact Nat.pow_le_pow_left (by decide) _)) (Nat.pow_le_pow_right (by omega) (Nat.le_succ _)))
def TxJ (n : Nat) (bs : List Nat) (m : Nat) (p : Option Addr) (cq k : Nat) (ps : List (List UInt8)) : Prop :=
  W32 bs ∧ nw m ≤ bs.length ∧ (∀ i, i < nw m → bs.getD i 0 = (wordsOf m).getD i 0) ∧ nw m ≤ nw n ∧ OwnOk p k cq ∧ m = n / 10 ^ (9 * k) ∧ k = ps.length ∧ k ≤ 2 * nw n ∧
    (m ≠ 0 → ps.reverse.flatten = padD (9 * k) n) ∧ (m = 0 → ps.reverse.flatten = Lib.decDigits n)
theorem txJ_next {n : Nat} {bs : List Nat} {m : Nat} {p p' : Option Addr} {cq cq' k : Nat} {ps : List (List UInt8)} {sx : List UInt8} (h : TxJ n bs m p cq k ps) (h0 : 0 < nw m) (ho : OwnOk p' (k + 1) cq')
    (hs1 : m / 1000000000 ≠ 0 → sx = List.replicate (9 - (Lib.decDigits (m % 1000000000)).length) 48 ++ Lib.decDigits (m % 1000000000)) (hs0 : m / 1000000000 = 0 → sx = Lib.decDigits (m % 1000000000)) :
    TxJ n (rowN (nw m) (m / 1000000000)) (m / 1000000000) p' cq' (k + 1) (ps ++ [sx]) := by
  obtain ⟨h1, h2, h3, h4, h5, h6, h7, h8, h9, h10⟩ := h
  have hm0 : m ≠ 0 := fun e => by rw [e, nw_zero] at h0; omega
  have hle : nw (m / 1000000000) ≤ nw m := nw_mono (Nat.div_le_self _ _)
  have hlt := parts_lt h6 hm0
  have hp := h9 hm0
  subst h7
  refine ⟨rowN_w32 _ _, by rw [rowN_length]; exact hle, fun i hi => ?_, by omega, ho, ?_, by simp, by omega, fun e => ?_, fun e => ?_⟩
  · rw [rowN_get _ _ _ (by omega), words_getD]
  · rw [h6, Nat.div_div_eq_div_mul, show (1000000000 : Nat) = 10 ^ 9 from rfl, ← Nat.pow_add, Nat.mul_add]
  · rw [hs1 e]; exact block_step h6 hm0 hp e
  · rw [hs0 e]; exact block_last h6 hm0 hp e
theorem txJ_init {n : Nat} {bs : List Nat} (h0 : n ≠ 0) (h1 : W32 bs) (h2 : nw n ≤ bs.length) (h3 : ∀ i, i < nw n → bs.getD i 0 = (wordsOf n).getD i 0) : TxJ n bs n none 0 0 [] :=
  ⟨h1, h2, h3, Nat.le_refl _, OwnOk.none, by simp, rfl, Nat.zero_le _, fun _ => rfl, fun e => absurd e h0⟩
theorem txJ_end {n : Nat} {bs : List Nat} {m : Nat} {p : Option Addr} {cq k : Nat} {ps : List (List UInt8)} (h : TxJ n bs m p cq k ps) (h0 : ¬ 0 < nw m) (hn : nw n ≤ 1073741824) :
    k ≤ 140737488355328 ∧ ps.reverse.flatten = Lib.decDigits n ∧ (Lib.decDigits n).length ≤ 140737488355328 := by
  obtain ⟨h1, h2, h3, h4, h5, h6, h7, h8, h9, h10⟩ := h
  have h11 := dec_nw n
  exact ⟨by omega, h10 (Classical.byContradiction fun e => by rw [nw_pos e] at h0; omega), by omega⟩
end
theorem dg_len0 (x : Nat) : 0 < (dg x).length ↔ x ≠ 0 := by
  constructor
  · intro h e; rw [e, dg_zero] at h; simp at h
  · intro h; exact (dg_ge (by omega)).2
theorem mkI_lt (neg : Bool) (x : Nat) : decide (mkI neg x < 0) = (neg && decide (0 < (dg x).length)) := by
  have h := dg_len0 x
  cases neg
  · simp [mkI]
  · by_cases h0 : x = 0
    · subst h0; simp [mkI, dg_zero]
    · have : 0 < (dg x).length := h.2 h0
      simp [mkI, this]; omega
def mkZX (neg : Bool) {x : Nat} (n : NX x) : ZX (mkI neg x) := ⟨n.cast (mkI_natAbs neg x).symm⟩
theorem zxL_mk (neg : Bool) {x : Nat} (n : NX x) : zxL (mkZX neg n) = [.bool (neg && decide (0 < (dg x).length)), nxV n] := by
  unfold zxL mkZX nxV
  rw [mkI_lt]
  simp only [mkI_natAbs]
theorem len_zero {x : Nat} (h : (dg x).length = 0) : x = 0 := Classical.byContradiction fun e => by have := (dg_len0 x).2 e; omega
theorem len_not_zero {x : Nat} (h : ¬ (dg x).length = 0) : x ≠ 0 := (dg_len0 x).1 (by omega)
def txI (z : Int) : List UInt8 := if z < 0 then 45 :: Lib.decDigits z.natAbs else Lib.decDigits z.natAbs
end Go.Proofs.YtpkoldfmbebmgaaGreatDoor
