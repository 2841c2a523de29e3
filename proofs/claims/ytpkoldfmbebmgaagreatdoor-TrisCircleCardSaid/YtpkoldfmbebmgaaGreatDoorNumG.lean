/- Walks, printed by gen.py. -/
import Derived.Test.YtpkoldfmbebmgaaGreatDoorNumF
import Derived.Test.YtpkoldfmbebmgaaGreatDoorDiv
namespace Go.Proofs.YtpkoldfmbebmgaaGreatDoor
open Go Go.RowKit
set_option maxRecDepth 100000
set_option linter.unusedVariables false
set_option linter.unusedSimpArgs false

theorem short_ok (a y p c : Nat) (ha : nw a ≤ 1099511627776) (hy : 0 < y) (hy2 : y < 4294967296) (w : World) (hp : w.heap[p]? = some (.cells (u32s (padW a)).toArray 22 (0, 0))) : Calls Tryz.prog 146 #[(Value.slice (some ⟨p, 0, none⟩) (nw a) c), (vK .u32 y)] w (fun e w' => ∃ b, e = .returned (.tuple #[.slice (some ⟨b, 0, none⟩) (nw a) (nw a), .int .u32 ((a % y : Nat) : Int)]) ∧ Below w.heap.size w w' ∧ w.heap.size ≤ b ∧ w'.heap[b]? = some (.cells (u32s (rowN (nw a) (a / y))).toArray 22 (0, 0))) := by
  have hla := nw_le_pad a
  refine calls_of (args := [(Value.slice (some ⟨p, 0, none⟩) (nw a) c), (vK .u32 y)]) Tryz.func146 rfl rfl (leB rfl) ?_
  refine OkC.subF (sC 0 rfl (sC 1 rfl (sN))) ?_
  refine q4 ?_
  refine st (ex_assign rfl) (leB rfl) ?_
  refine st (ex_assign rfl) (leB rfl) ?_
  refine OkL.nil ?_
  refine q2 ?_
  refine st (ex_move rfl) (leB rfl) ?_
  refine st (v := (vN (nw a))) (ex_len_slice rfl Tryz.underlying161) (leB rfl) ?_
  refine OkL.openV (V := fun b1 => (Value.slice (some ⟨b1, 0, none⟩) (nw a) (nw a))) (T := 22) (cs := u32s (List.replicate (nw a) 0)) (wt_none rfl) (op_make_u32 (m := nw a) (c := nw a) rfl rfl (by omega) (by omega)) rfl (leB rfl) ?_; intro b1
  refine st (ex_assign rfl) (leB rfl) ?_
  refine q6 (sC 0 rfl (sC 1 rfl (sC 4 rfl (sC 5 rfl (sN))))) ?_
  refine q4 ?_
  refine st (ex_move rfl) (leB rfl) ?_
  refine st (v := (vN (nw a))) (ex_len_slice rfl Tryz.underlying161) (leB rfl) ?_
  refine st (ex_sub (c := (((nw a : Nat) : Int) - 1)) rfl rfl (wrap_i64 (by omega) (by omega))) (leB rfl) ?_
  refine st (ex_assign rfl) (leB rfl) ?_
  refine OkL.nil ?_
  refine OkQ.subF (sC 0 rfl (sC 1 rfl (sC 4 rfl (sC 5 rfl (sC 6 rfl (sN)))))) ?_
  refine OkQ.then_ ?_
  refine OkC.block ?_
  refine OkC.sub (F' := [(0, (Value.slice (some ⟨p, 0, none⟩) (nw a) c)), (1, (vK .u32 y)), (4, (Value.slice (some ⟨b1, 0, none⟩) (nw a) (nw a))), (6, (vI (((nw a : Nat) : Int) - 1))), (5, (Value.int .u32 (0 : Int)))]) (L' := [blk b1 22 (u32s (List.replicate (nw a) 0))]) (sF rfl) (List.Sublist.refl _) ?_
  refine OkC.loop3 (J := fun (k : Nat) (qs : List Nat) (r : Nat) => k ≤ nw a ∧ qs.length = nw a ∧ W32 qs ∧ r < y ∧ (∀ j, j < k → qs.getD j 0 = 0) ∧ val qs * y + r * 4294967296 ^ k = a / 4294967296 ^ k * 4294967296 ^ k) (FI := fun (k : Nat) (qs : List Nat) (r : Nat) => [(0, (Value.slice (some ⟨p, 0, none⟩) (nw a) c)), (1, (vK .u32 y)), (4, (Value.slice (some ⟨b1, 0, none⟩) (nw a) (nw a))), (6, (vI (((k : Nat) : Int) - 1))), (5, (vK .u32 r))]) (LI := fun (k : Nat) (qs : List Nat) (r : Nat) => [blk b1 22 (u32s qs)]) (m := fun (k : Nat) (qs : List Nat) (r : Nat) => k) (fun k qs r hJ => ?_) (nw a) (List.replicate (nw a) 0) 0 (⟨Nat.le_refl _, by simp, W32.zeros _, hy, fun j _ => by simp [List.getD_eq_getElem?_getD, List.getElem?_replicate]; split <;> rfl, by rw [val_zeros, Nat.div_eq_of_lt (lt_pow_nw a)]; simp⟩)
  replace hJ : k ≤ nw a ∧ qs.length = nw a ∧ W32 qs ∧ r < y ∧ (∀ j, j < k → qs.getD j 0 = 0) ∧ val qs * y + r * 4294967296 ^ k = a / 4294967296 ^ k * 4294967296 ^ k := hJ
  obtain ⟨hk, hl, hw32, hr, hz, hv⟩ := hJ
  refine OkC.sub (F' := [(0, (Value.slice (some ⟨p, 0, none⟩) (nw a) c)), (1, (vK .u32 y)), (4, (Value.slice (some ⟨b1, 0, none⟩) (nw a) (nw a))), (6, (vI (((k : Nat) : Int) - 1))), (5, (vK .u32 r))]) (L' := [blk b1 22 (u32s qs)]) (sF rfl) (List.Sublist.refl _) ?_
  refine OkC.seq ?_
  refine q4 ?_
  refine st (ex_move rfl) (leB rfl) ?_
  refine st (ex_geq (c := (decide ((0 : Int) ≤ (((k : Nat) : Int) - 1)))) rfl rfl rfl) (leB rfl) ?_
  refine OkL.nil ?_
  refine OkQ.subF (sC 0 rfl (sC 1 rfl (sC 4 rfl (sC 6 rfl (sC 5 rfl (sC 14 rfl (sN))))))) ?_
  refine OkQ.then_ ?_
  refine OkC.cond rfl (fun hc0 => ?_) (fun hc0 => ?_)
  · replace hc0 := of_decide_eq_true hc0
    have hk0 : 0 < k := by omega
    refine OkC.retell (k := 6) (u := (vN (k - 1))) rfl (by congr 1; omega) ?_
    refine OkC.skip ?_
    refine q1 ?_
    refine OkC.block ?_
    refine OkC.region ?_
    refine st (ex_move rfl) (leB rfl) ?_
    refine st (ex_move rfl) (leB rfl) ?_
    refine st (ex_move rfl) (leB rfl) ?_
    refine st (ex_move rfl) (leB rfl) ?_
    refine st (ex_move rfl) (leB rfl) ?_
    refine st (v := (pP p (k - 1))) (ex_indexAddr_slice (j := k - 1) rfl rfl Tryz.underlying161 Tryz.sizeOf22 rfl (by omega) (by simp)) (leB rfl) ?_
    have hx1 : (padW a).getD (k - 1) 0 < 4294967296 := W32.getD (padW_w32 a) (k - 1)
    refine st (ex_load_one_at (v := (vK .u32 ((padW a).getD (k - 1) 0))) rfl (fun w' hw => CA.at0 (hw.oldCA (by simp) (ca_blk hp)) (u32s_get (xs := padW a) (j := (k - 1)) (by omega))) Tryz.isAgg22) (leB rfl) ?_
    have hdg : a / 4294967296 ^ (k - 1) % 4294967296 < 4294967296 := Nat.mod_lt _ (by omega)
    have hq9 : (r * 4294967296 + a / 4294967296 ^ (k - 1) % 4294967296) / y < 4294967296 := Nat.div_lt_of_lt_mul (by have h9 : (r + 1) * 4294967296 ≤ y * 4294967296 := Nat.mul_le_mul_right _ hr; omega)
    have hr9 : (r * 4294967296 + a / 4294967296 ^ (k - 1) % 4294967296) % y < y := Nat.mod_lt _ hy
    refine OkL.retell (k := 24) (u := (vK .u32 (a / 4294967296 ^ (k - 1) % 4294967296))) rfl (by rw [pad_getD (by omega), words_getD]) ?_
    refine st (ex_move rfl) (leB rfl) ?_
    refine OkL.call (v := (Value.tuple #[(vK .u32 ((r * 4294967296 + (a / 4294967296 ^ (k - 1) % 4294967296)) / y)), (vK .u32 ((r * 4294967296 + (a / 4294967296 ^ (k - 1) % 4294967296)) % y))])) (wt_none rfl) (op_call0 (args := [(vK .u32 r), (vK .u32 (a / 4294967296 ^ (k - 1) % 4294967296)), (vK .u32 y)]) rfl rfl Tryz.call168) (fun w hw => div32_ok r (a / 4294967296 ^ (k - 1) % 4294967296) y (by omega) (by omega) (by omega) w) rfl (leB rfl) ?_
    refine st (ex_move rfl) (leB rfl) ?_
    refine st (ex_extract (v := (vK .u32 ((r * 4294967296 + (a / 4294967296 ^ (k - 1) % 4294967296)) / y))) rfl rfl) (leB rfl) ?_
    refine st (ex_extract (v := (vK .u32 ((r * 4294967296 + (a / 4294967296 ^ (k - 1) % 4294967296)) % y))) rfl rfl) (leB rfl) ?_
    refine st (v := (pP b1 (k - 1))) (ex_indexAddr_slice (j := k - 1) rfl rfl Tryz.underlying161 Tryz.sizeOf22 rfl (by omega) (by simp)) (leB rfl) ?_
    refine OkL.store' (i := 0) (off := (k - 1)) (vs := [(vK .u32 ((r * 4294967296 + (a / 4294967296 ^ (k - 1) % 4294967296)) / y))]) (cs' := u32s (qs.set (k - 1) ((r * 4294967296 + (a / 4294967296 ^ (k - 1) % 4294967296)) / y))) (L' := [blk b1 22 (u32s (qs.set (k - 1) ((r * 4294967296 + (a / 4294967296 ^ (k - 1) % 4294967296)) / y)))]) (wt_none rfl) rfl rfl rfl rfl rfl Tryz.sizeOf22 rfl (ble_row (u32s_length _) (by omega)) (u32s_set (by omega)) rfl ?_
    refine st (ex_assign rfl) (leB rfl) ?_
    refine OkL.nil ?_
    refine OkQ.subF (sC 0 rfl (sC 1 rfl (sC 4 rfl (sC 6 rfl (sC 5 rfl (sN)))))) ?_
    refine OkQ.in_normal ?_
    refine OkQ.then_ ?_
    refine OkC.region ?_
    refine st (ex_move rfl) (leB rfl) ?_
    refine st (ex_sub (c := (((k - 1 : Nat) : Int) - 1)) rfl rfl (wrap_i64 (by omega) (by omega))) (leB rfl) ?_
    refine st (ex_assign rfl) (leB rfl) ?_
    refine OkL.nil ?_
    refine OkQ.subF (sC 0 rfl (sC 1 rfl (sC 4 rfl (sC 6 rfl (sC 5 rfl (sN)))))) ?_
    have hst := short_step (y := y) (k := k - 1) hl (by omega) (fun j hj => hz j (by omega)) hr (a := a) (by rw [show k - 1 + 1 = k by omega]; exact hv)
    exact OkQ.round3 (k - 1) (qs.set (k - 1) ((r * 4294967296 + a / 4294967296 ^ (k - 1) % 4294967296) / y)) ((r * 4294967296 + a / 4294967296 ^ (k - 1) % 4294967296) % y) (⟨by omega, by rw [List.length_set]; exact hl, W32.set hw32 hq9 _, hr9, fun j hj => by rw [List.getD_eq_getElem?_getD, List.getElem?_set_ne (by omega), ← List.getD_eq_getElem?_getD]; exact hz j (by omega), hst⟩) (by omega) (sS rfl (sS rfl (sS rfl (sS rfl (sS rfl (sN)))))) (List.Sublist.refl _)
  · replace hc0 := of_decide_eq_false hc0
    have hk0 : k = 0 := by omega
    have hv0 := hv
    rw [hk0] at hv0
    have hd := short_done hr hv0
    refine OkC.exit ?_
    refine OkQ.then_exit ?_
    refine OkQ.round3_exit ?_
    refine OkQ.in_exit ?_
    refine q2 ?_
    refine st (ex_move rfl) (leB rfl) ?_
    refine st (ex_move rfl) (leB rfl) ?_
    refine st (ex_assign rfl) (leB rfl) ?_
    refine st (ex_assign rfl) (leB rfl) ?_
    refine OkL.nil ?_
    refine OkQ.subF (sC 0 rfl (sC 1 rfl (sC 4 rfl (sC 6 rfl (sC 5 rfl (sN)))))) ?_
    refine OkQ.then_ ?_
    refine OkC.ret ?_
    have hcells : (some (Obj.cells (u32s qs).toArray 22 (0, 0))) = some (Obj.cells (u32s (rowN (nw a) (a / y))).toArray 22 (0, 0)) := by rw [row_eq hw32 hl hd.1]
    exact ret_two rfl (rd_tmp (v := (Value.slice (some ⟨b1, 0, none⟩) (nw a) (nw a))) rfl) (rd_tmp (v := (vK .u32 r)) rfl) (fun w hw => ⟨b1, by rw [hd.2], hw.out, hw.fresh (i := 0) rfl, (hw.get (i := 0) rfl).trans hcells⟩)

theorem shifted_ok (p m c s : Nat) (bs : List Nat) (hbs : W32 bs) (hm : m ≤ bs.length) (hml : m ≤ 1099511627776) (hs : s < 32) (w : World) (hp : w.heap[p]? = some (.cells (u32s bs).toArray 22 (0, 0))) : Calls Tryz.prog 178 #[(Value.slice (some ⟨p, 0, none⟩) m c), (vN s)] w (fun e w' => ∃ b, e = .returned (.slice (some ⟨b, 0, none⟩) (m + 1) (m + 1)) ∧ Below w.heap.size w w' ∧ w.heap.size ≤ b ∧ w'.heap[b]? = some (.cells (u32s (rowN (m + 1) (val (bs.take m) * 2 ^ s))).toArray 22 (0, 0))) := by
  refine calls_of (args := [(Value.slice (some ⟨p, 0, none⟩) m c), (vN s)]) Tryz.func178 rfl rfl (leB rfl) ?_
  refine OkC.subF (sC 0 rfl (sC 1 rfl (sN))) ?_
  refine q4 ?_
  refine st (ex_assign rfl) (leB rfl) ?_
  refine OkL.nil ?_
  refine q2 ?_
  refine st (ex_move rfl) (leB rfl) ?_
  refine st (v := (vN m)) (ex_len_slice rfl Tryz.underlying161) (leB rfl) ?_
  refine st (ex_add (c := ((m + 1 : Nat) : Int)) rfl rfl (addN_i64 (a := m) (b := 1) (by omega))) (leB rfl) ?_
  refine OkL.openV (V := fun b1 => (Value.slice (some ⟨b1, 0, none⟩) (m + 1) (m + 1))) (T := 22) (cs := u32s (List.replicate (m + 1) 0)) (wt_none rfl) (op_make_u32 (m := m + 1) (c := m + 1) rfl rfl (by omega) (by omega)) rfl (leB rfl) ?_; intro b1
  refine st (ex_assign rfl) (leB rfl) ?_
  refine q3 (sC 0 rfl (sC 1 rfl (sC 4 rfl (sC 5 rfl (sN))))) ?_
  refine st (ex_assign rfl) (leB rfl) ?_
  refine OkL.nil ?_
  refine q1 ?_
  refine q4 ?_
  refine st (ex_move rfl) (leB rfl) ?_
  refine st (v := (vN m)) (ex_len_slice rfl Tryz.underlying161) (leB rfl) ?_
  refine st (ex_move rfl) (leB rfl) ?_
  refine OkL.nil ?_
  refine OkQ.then_ ?_
  refine OkC.block ?_
  refine OkC.sub (F' := [(0, (Value.slice (some ⟨p, 0, none⟩) m c)), (1, (vN s)), (4, (Value.slice none 0 0)), (5, (Value.slice (some ⟨b1, 0, none⟩) (m + 1) (m + 1))), (13, (Value.slice (some ⟨p, 0, none⟩) m c)), (14, (vN m)), (15, (vI 0)), (6, (Value.int .u32 (0 : Int)))]) (L' := [blk b1 22 (u32s (List.replicate (m + 1) 0))]) (sF rfl) (List.Sublist.refl _) ?_
  refine OkC.loop3 (J := fun (i : Nat) (os : List Nat) (c2 : Nat) => i ≤ m ∧ os.length = m + 1 ∧ W32 os ∧ c2 < 2 ^ s ∧ (∀ j, i ≤ j → os.getD j 0 = 0) ∧ val os + c2 * 4294967296 ^ i = val (bs.take i) * 2 ^ s) (FI := fun (i : Nat) (os : List Nat) (c2 : Nat) => [(0, (Value.slice (some ⟨p, 0, none⟩) m c)), (1, (vN s)), (4, (Value.slice none 0 0)), (5, (Value.slice (some ⟨b1, 0, none⟩) (m + 1) (m + 1))), (13, (Value.slice (some ⟨p, 0, none⟩) m c)), (14, (vN m)), (15, (vN i)), (6, (vK .u32 c2))]) (LI := fun (i : Nat) (os : List Nat) (c2 : Nat) => [blk b1 22 (u32s os)]) (m := fun (i : Nat) (os : List Nat) (c2 : Nat) => m - i) (fun i os c2 hJ => ?_) 0 (List.replicate (m + 1) 0) 0 (⟨Nat.zero_le _, by simp, W32.zeros _, Nat.pow_pos (by omega), fun j _ => by simp [List.getD_eq_getElem?_getD, List.getElem?_replicate]; split <;> rfl, by rw [val_zeros]; simp [val]⟩)
  replace hJ : i ≤ m ∧ os.length = m + 1 ∧ W32 os ∧ c2 < 2 ^ s ∧ (∀ j, i ≤ j → os.getD j 0 = 0) ∧ val os + c2 * 4294967296 ^ i = val (bs.take i) * 2 ^ s := hJ
  obtain ⟨hi, hl, hw32, hcb2, h0, hv⟩ := hJ
  refine OkC.sub (F' := [(0, (Value.slice (some ⟨p, 0, none⟩) m c)), (1, (vN s)), (4, (Value.slice none 0 0)), (5, (Value.slice (some ⟨b1, 0, none⟩) (m + 1) (m + 1))), (13, (Value.slice (some ⟨p, 0, none⟩) m c)), (14, (vN m)), (15, (vN i)), (6, (vK .u32 c2))]) (L' := [blk b1 22 (u32s os)]) (sF rfl) (List.Sublist.refl _) ?_
  refine q4 ?_
  refine st (ex_lss (c := (decide (i < m))) rfl rfl (ltN (a := i) (b := m))) (leB rfl) ?_
  refine OkL.nil ?_
  refine q1 ?_
  refine OkC.cond rfl (fun hc0 => ?_) (fun hc0 => ?_)
  · replace hc0 := of_decide_eq_true hc0
    refine OkC.skip ?_
    refine q1 ?_
    refine OkC.block ?_
    refine q4 ?_
    refine st (ex_move rfl) (leB rfl) ?_
    refine st (v := (pP p i)) (ex_indexAddr_slice (j := i) rfl rfl Tryz.underlying161 Tryz.sizeOf22 rfl (by omega) (by simp)) (leB rfl) ?_
    have hx1 : bs.getD i 0 < 4294967296 := W32.getD hbs i
    refine st (ex_load_one_at (v := (vK .u32 (bs.getD i 0))) rfl (fun w' hw => CA.at0 (hw.oldCA (by simp) (ca_blk hp)) (u32s_get (xs := bs) (j := i) (by omega))) Tryz.isAgg22) (leB rfl) ?_
    refine st (ex_assign rfl) (leB rfl) ?_
    refine st (ex_assign rfl) (leB rfl) ?_
    refine q3 (sC 0 rfl (sC 1 rfl (sC 4 rfl (sC 5 rfl (sC 13 rfl (sC 14 rfl (sC 15 rfl (sC 6 rfl (sC 7 rfl (sC 8 rfl (sN))))))))))) ?_
    refine st (ex_move rfl) (leB rfl) ?_
    refine st (ex_move rfl) (leB rfl) ?_
    refine st (ex_move rfl) (leB rfl) ?_
    refine st (ex_move rfl) (leB rfl) ?_
    have hxb := hbs.getD i
    have hsl := shl_lt hxb hs
    have hs32 : (2 : Nat) ^ s ≤ 2 ^ 31 := Nat.pow_le_pow_right (by omega) (by omega)
    have hso := shl_sum_lt (w := bs.getD i 0) hcb2 hs
    refine st (v := (vK .u32 (bs.getD i 0 * 2 ^ s % 4294967296))) (ex_shl (s := s) rfl rfl rfl (show s ≤ 32 by omega) shlN_u32m) (leB rfl) ?_
    refine st (ex_move rfl) (leB rfl) ?_
    refine st (ex_or (c := ((bs.getD i 0 * 2 ^ s % 4294967296 + c2 : Nat) : Int)) rfl rfl (orN_u32 (by omega) (by omega) (shl_or hxb hcb2 hs))) (leB rfl) ?_
    refine st (v := (pP b1 i)) (ex_indexAddr_slice (j := i) rfl rfl Tryz.underlying161 Tryz.sizeOf22 rfl (by omega) (by simp)) (leB rfl) ?_
    refine OkL.store' (i := 0) (off := i) (vs := [(vK .u32 (bs.getD i 0 * 2 ^ s % 4294967296 + c2))]) (cs' := u32s (os.set i (bs.getD i 0 * 2 ^ s % 4294967296 + c2))) (L' := [blk b1 22 (u32s (os.set i (bs.getD i 0 * 2 ^ s % 4294967296 + c2)))]) (wt_none rfl) rfl rfl rfl rfl rfl Tryz.sizeOf22 rfl (ble_row (u32s_length _) (by omega)) (u32s_set (by omega)) rfl ?_
    refine OkL.nil ?_
    refine OkQ.subF (sC 0 rfl (sC 1 rfl (sC 4 rfl (sC 5 rfl (sC 13 rfl (sC 14 rfl (sC 15 rfl (sC 6 rfl (sC 8 rfl (sN)))))))))) ?_
    refine OkQ.then_ ?_
    refine OkC.region ?_
    refine st (ex_move rfl) (leB rfl) ?_
    refine st (ex_conv (c := ((bs.getD i 0 : Nat) : Int)) rfl Tryz.underlying22 Tryz.underlying28 (convN_u64 (by omega))) (leB rfl) ?_
    refine st (ex_move rfl) (leB rfl) ?_
    refine st (v := (vK .u64 (bs.getD i 0 * 2 ^ s))) (ex_shl (s := s) rfl rfl rfl (show s ≤ 64 by omega) (shlN_u64 hsl.1)) (leB rfl) ?_
    refine st (ex_shr (s := 32) (c := (((bs.getD i 0 * 2 ^ s) / 4294967296 : Nat) : Int)) rfl rfl rfl (by decide) (shrN (a := bs.getD i 0 * 2 ^ s) (s := 32))) (leB rfl) ?_
    refine st (ex_conv (c := (((bs.getD i 0 * 2 ^ s) / 4294967296 : Nat) : Int)) rfl Tryz.underlying28 Tryz.underlying22 (convN_u32 (by omega))) (leB rfl) ?_
    refine st (ex_assign rfl) (leB rfl) ?_
    refine OkL.nil ?_
    refine OkQ.subF (sC 0 rfl (sC 1 rfl (sC 4 rfl (sC 5 rfl (sC 13 rfl (sC 14 rfl (sC 15 rfl (sC 6 rfl (sC 8 rfl (sN)))))))))) ?_
    refine OkQ.in_normal ?_
    refine OkQ.then_ ?_
    refine OkC.region ?_
    refine st (ex_add (c := ((i + 1 : Nat) : Int)) rfl rfl (addN_i64 (a := i) (b := 1) (by omega))) (leB rfl) ?_
    refine st (ex_move rfl) (leB rfl) ?_
    refine OkL.nil ?_
    refine OkQ.subF (sC 0 rfl (sC 1 rfl (sC 4 rfl (sC 5 rfl (sC 13 rfl (sC 14 rfl (sC 15 rfl (sC 6 rfl (sC 8 rfl (sN)))))))))) ?_
    exact OkQ.round3 (i + 1) (os.set i (bs.getD i 0 * 2 ^ s % 4294967296 + c2)) (bs.getD i 0 * 2 ^ s / 4294967296) (⟨by omega, by rw [List.length_set]; exact hl, W32.set hw32 hso _, hsl.2, fun j hj => by rw [List.getD_eq_getElem?_getD, List.getElem?_set_ne (by omega), ← List.getD_eq_getElem?_getD]; exact h0 j (by omega), shift_step hl (by omega) h0 hv⟩) (by omega) (sS rfl (sS rfl (sS rfl (sS rfl (sS rfl (sS rfl (sS rfl (sS rfl (sN))))))))) (List.Sublist.refl _)
  · replace hc0 := of_decide_eq_false hc0
    have him : i = m := by omega
    have hs32 : (2 : Nat) ^ s ≤ 2 ^ 31 := Nat.pow_le_pow_right (by omega) (by omega)
    have hcb : c2 < 4294967296 := by omega
    refine OkC.exit ?_
    refine OkQ.then_exit ?_
    refine OkQ.round3_exit ?_
    refine OkQ.in_exit ?_
    refine q2 ?_
    refine st (ex_move rfl) (leB rfl) ?_
    refine st (ex_move rfl) (leB rfl) ?_
    refine st (v := (vN m)) (ex_len_slice rfl Tryz.underlying161) (leB rfl) ?_
    refine st (ex_move rfl) (leB rfl) ?_
    refine st (v := (pP b1 m)) (ex_indexAddr_slice (j := m) rfl rfl Tryz.underlying161 Tryz.sizeOf22 rfl (by omega) (by simp)) (leB rfl) ?_
    refine OkL.store' (i := 0) (off := m) (vs := [(vK .u32 c2)]) (cs' := u32s (os.set m c2)) (L' := [blk b1 22 (u32s (os.set m c2))]) (wt_none rfl) rfl rfl rfl rfl rfl Tryz.sizeOf22 rfl (ble_row (u32s_length _) (by omega)) (u32s_set (by omega)) rfl ?_
    refine q3 (sC 0 rfl (sC 1 rfl (sC 4 rfl (sC 5 rfl (sC 13 rfl (sC 14 rfl (sC 15 rfl (sC 6 rfl (sN))))))))) ?_
    refine st (ex_move rfl) (leB rfl) ?_
    refine st (ex_assign rfl) (leB rfl) ?_
    refine OkL.nil ?_
    refine OkQ.subF (sC 0 rfl (sC 1 rfl (sC 4 rfl (sC 5 rfl (sC 13 rfl (sC 14 rfl (sC 15 rfl (sC 6 rfl (sN))))))))) ?_
    refine OkQ.then_ ?_
    refine OkC.ret ?_
    have hrow : os.set m c2 = rowN (m + 1) (val (bs.take m) * 2 ^ s) := row_eq (W32.set hw32 hcb _) (by rw [List.length_set]; exact hl) (by rw [mul_out hl (by omega) (h0 m (by omega)), ← him]; exact hv)
    have hcells : (some (Obj.cells (u32s (os.set m c2)).toArray 22 (0, 0))) = some (Obj.cells (u32s (rowN (m + 1) (val (bs.take m) * 2 ^ s))).toArray 22 (0, 0)) := by rw [hrow]
    exact ret_one rfl (rd_tmp (v := (Value.slice (some ⟨b1, 0, none⟩) (m + 1) (m + 1))) rfl) (fun w hw => ⟨b1, rfl, hw.out, hw.fresh (i := 0) rfl, (hw.get (i := 0) rfl).trans hcells⟩)


end Go.Proofs.YtpkoldfmbebmgaaGreatDoor
