import Derived.Test.YtnofgcpajmldkaaGreatDoorPart05
import Derived.Test.YtnofgcpajmldkaaGreatDoorPart09
namespace Go.Proofs.YtnofgcpajmldkaaGreatDoor
open Go Go.RowKit
set_option linter.unusedVariables false
set_option linter.unusedSimpArgs false
section
set_option maxRecDepth 100000
theorem of64_ok (n : Nat) (hn : n < 18446744073709551616) (w : World)  : Calls Tryz.prog 73 #[(vK .u64 n)] w (Gives w (aG (natL n))) := by
 refine calls_of (args := [(vK .u64 n)]) Tryz.func73 rfl rfl (leB rfl) (OkC.subF (sL [0] rfl) (q4 (al tZ41 rfl fun b1 => OkL.nil (q2 ?_))))
 refine mv' rfl (st' (v := (aG ([(vK .u64 n), (Value.string (bigB 0))]))) (ex_build_struct (zs := natL 0) (vs := [(vK .u64 n), (Value.string (bigB 0))]) (pv := [(0, (vK .u64 n))]) (places := [(0, 1), (1, 1)]) Tryz.zeroValue41 Tryz.underlying41 (fun w => by simp [Tryz.sizeOf9, Tryz.sizeOf39]) rfl rfl) rfl (OkL.retell (k := 4) (u := (aG (natL n))) rfl (by rw [natL_small hn]; rfl) (stW0' rfl Tryz.sizeOf41 rfl (OkL.nil (OkQ.subF (sL [2] rfl) ?_)))))
 exact OkQ.then_ (OkC.ret (ret_one rfl (rd_agg (i := 0) (cs := natL n) rfl rfl Tryz.isAgg41 Tryz.sizeOf41 rfl) (fun w hw => ⟨rfl, hw.out⟩)))
theorem fill_numb_41_  : Instr.fill ([(0, 1), (1, 1)].toArray[·]?) (natL 0).toArray [] = some (natL 0).toArray := by kernel_rfl
theorem zero_ok (a : Nat) (w : World)  : Calls Tryz.prog 110 #[(aG (natL a))] w (Gives w (Value.bool (decide (a = 0)))) := by
 refine calls_of (args := [(aG (natL a))]) Tryz.func110 rfl rfl (leB rfl) (OkC.subF (sL [0] rfl) (q4 (bx' (cs := natL a) rfl fun b1 => asg' rfl (q3 (sL [1, 2] rfl) ?_))))
 refine ldW' 0 tA41 rfl (st' (v := (aG (natL 0))) (ex_build_struct (zs := natL 0) (vs := natL 0) (pv := []) (places := [(0, 1), (1, 1)]) Tryz.zeroValue41 Tryz.underlying41 (fun w => by simp [Tryz.sizeOf9, Tryz.sizeOf39]) rfl (fill_numb_41_ )) rfl (st' (ex_eql_agg (c := (decide (a = 0))) rfl rfl Tryz.eqGuardType41 (eqB_nat 9998 a 0)) rfl (asg' rfl (OkL.nil (OkQ.subF (sL [2] rfl) ?_)))))
 exact OkQ.then_ (OkC.ret (ret_one rfl (rd_tmp (v := (Value.bool (decide (a = 0)))) rfl) (fun w hw => ⟨rfl, hw.out⟩)))
theorem words_ok (v : Nat) (hv : nw v ≤ 1099511627776) (w : World)  : Calls Tryz.prog 85 #[(aG (natL v))] w (fun e w' => ∃ b, e = .returned (.slice (some ⟨b, 0, none⟩) (nw v) (padW v).length) ∧ Bel w.heap.size w w' ∧ w.heap.size ≤ b ∧ w'.heap[b]? = some (.cells (u32s (padW v)).toArray 27 (0, 0))) := by
 refine calls_of (args := [(aG (natL v))]) Tryz.func85 rfl rfl (leB rfl) (OkC.subF (sL [0] rfl) (q4 (bx' (cs := natL v) rfl fun b1 => asg' rfl (q6 (sL [1, 2] rfl) ?_))))
 refine q4 (st' (v := (pP b1 1)) (ex_fieldAddr rfl Tryz.underlying41 rfl Tryz.sizeOf9 rfl) rfl (ldO' 0 (Value.string (bigB v)) tO9 rfl (st' (ex_eql_string (c := (decide (v < 18446744073709551616))) rfl rfl bigB_empty) rfl (OkL.nil (OkQ.subF (sL [1, 2, 8] rfl) ?_)))))
 refine OkQ.then_ ?_
 refine OkC.cond rfl (fun hc0 => ?_) (fun hc0 => ?_)
 ·replace hc0 := of_decide_eq_true hc0
  refine q4 (st' (v := (pP b1 0)) (ex_fieldAddr rfl Tryz.underlying41 rfl Tryz.sizeOf39 rfl) rfl (ldO' 0 (vK .u64 (lowN v)) tO39 rfl (OkL.retell (k := 10) (u := (vK .u64 v)) rfl (by rw [lowN_small hc0]) (st' (ex_conv (c := ((v % 4294967296 : Nat) : Int)) rfl Tryz.underlying39 Tryz.underlying27 modN_u32) rfl (st' (v := (pP b1 0)) (ex_fieldAddr rfl Tryz.underlying41 rfl Tryz.sizeOf39 rfl) rfl ?_)))))
  refine ldO' 0 (vK .u64 (lowN v)) tO39 rfl (OkL.retell (k := 13) (u := (vK .u64 v)) rfl (by rw [lowN_small hc0]) (st' (ex_shr (s := 32) (c := ((v / 4294967296 : Nat) : Int)) rfl rfl rfl (by decide) (shrN (a := v) (s := 32))) rfl (st' (ex_conv (c := ((v / 4294967296 : Nat) : Int)) rfl Tryz.underlying39 Tryz.underlying27 (convN_u32 (by omega))) rfl (OkL.openV (V := fun b2 => (Value.slice (some ⟨b2, 0, none⟩) 2 2)) (T := 27) (cs := u32s ([v % 4294967296, v / 4294967296])) (wt_none rfl) (op_buildSlice (cs := u32s ([v % 4294967296, v / 4294967296])) (pv := [(0, (vK .u32 (v % 4294967296))), (1, (vK .u32 (v / 4294967296)))]) Tryz.underlying160 Tryz.sizeOf27 Tryz.zeroValue27 (by decide) (by decide) rfl (by kernel_rfl)) rfl (leB rfl) fun b2 => cl' Tryz.call105 (fun w hw => cut_ok _ 2 2 ([v % 4294967296, v / 4294967296]) (W32.cons (by omega) (W32.cons (by omega) (W32.nil))) (by simp) (by simp) (by simp; try omega) w (hw.get (i := 0) rfl)) rfl ?_))))
  refine asg' rfl (OkL.nil (OkQ.subF (sL [1, 2] rfl) (OkQ.then_ (OkC.ret (OkQ.then_ret ?_)))))
  have hpad : padW v = [v % 4294967296, v / 4294967296] := by simp [padW, hc0]
  have hnw : nw v = cutN [v % 4294967296, v / 4294967296] 2 := by rw [← nw_cut (padW_of hc0) (m := 2) (by simp), ← val_pad v, hpad]; simp [val]; congr 1; omega
  have hret : ∀ b : Nat, (Ending.returned (Value.slice (some ⟨b, 0, none⟩) (cutN ([v % 4294967296, v / 4294967296]) 2) 2)) = .returned (Value.slice (some ⟨b, 0, none⟩) (nw v) (padW v).length) := fun b => by rw [hnw, hpad]; rfl
  replace hret := hret b2
  have hcells : (some (Obj.cells (u32s ([v % 4294967296, v / 4294967296])).toArray 27 (0, 0))) = some (Obj.cells (u32s (padW v)).toArray 27 (0, 0)) := by rw [hpad]
  exact ret_one rfl (rd_tmp (v := (Value.slice (some ⟨b2, 0, none⟩) (cutN ([v % 4294967296, v / 4294967296]) 2) 2)) rfl) (fun w hw => ⟨b2, hret, hw.out, hw.fresh (i := 0) rfl, (hw.get (i := 0) rfl).trans hcells⟩)
 ·replace hc0 := of_decide_eq_false hc0
  refine OkC.skip (q2 (st' (v := (pP b1 1)) (ex_fieldAddr rfl Tryz.underlying41 rfl Tryz.sizeOf9 rfl) rfl (ldO' 0 (Value.string (bigB v)) tO9 rfl (st' (v := (vN ((bigB v).size))) (ex_len_string rfl Tryz.underlying9) rfl (OkL.retell (k := 20) (u := (vN (4 * nw v))) rfl (by rw [bigB_big hc0, strOf_size, bytesN_length]; rfl) ?_)))))
  refine st' (ex_quo (c := (((4 * nw v) / 4 : Nat) : Int)) rfl rfl (by omega) (quoN_i64 (a := 4 * nw v) (b := 4) (by omega))) rfl (OkL.retell (k := 21) (u := (vN (nw v))) rfl (by rw [Nat.mul_div_cancel_left _ (by omega)]) (OkL.openV (V := fun b2 => (Value.slice (some ⟨b2, 0, none⟩) (nw v) (nw v))) (T := 27) (cs := u32s (List.replicate (nw v) 0)) (wt_none rfl) (op_make_u32 (m := nw v) (c := nw v) rfl rfl (by omega) (by omega)) rfl (leB rfl) fun b2 => asg' rfl (q6 (sL [1, 2, 3] rfl) (q4 ?_))))
  refine mv' rfl (st' (v := (vN (nw v))) (ex_len_slice rfl Tryz.underlying160) rfl (mv' rfl (OkL.nil (OkQ.subF (sL [1, 2, 3, 24, 25] rfl) (OkQ.then_ ?_)))))
  refine OkC.block ?_
  refine OkC.lp2 (tg fun (i : Nat) (os : List Nat) => i ≤ nw v ∧ os.length = nw v ∧ os.take i = (wordsOf v).take i ∧ ∀ j, i ≤ j → os.getD j 0 = 0) (tg fun (i : Nat) (os : List Nat) => [(1, (pP b1 0)), (2, (Value.slice none 0 0)), (3, (Value.slice (some ⟨b2, 0, none⟩) (nw v) (nw v))), (24, (vN (nw v))), (25, (vN i))]) (tg fun (i : Nat) (os : List Nat) => [blk b2 27 (u32s os), blk b1 41 (natL v)]) (tg fun (i : Nat) (os : List Nat) => nw v - i) 0 (List.replicate (nw v) 0) (⟨Nat.zero_le _, by simp, by simp, fun j _ => by simp [List.getD_eq_getElem?_getD, List.getElem?_replicate]; split <;> rfl⟩) (sF rfl) sr (fun i os hJ => ?_)
  obtain ⟨hin, hl, ht, h0⟩ := hJ
  refine q4 (st' (ex_lss (c := (decide (i < (nw v)))) rfl rfl (ltN (a := i) (b := nw v))) rfl (OkL.nil (q1 ?_)))
  refine OkC.cond rfl (fun hc1 => ?_) (fun hc1 => ?_)
  ·replace hc1 := of_decide_eq_true hc1
   refine OkC.skip (q1 (OkC.block (q4 (mv' rfl (asg' rfl ?_)))))
   refine q3 (sL [1, 2, 3, 24, 25, 4] rfl) (mv' rfl (OkL.nil (OkQ.then_ (OkC.block ?_))))
   refine OkC.lp2 (tg fun (k : Nat) (xs : List Nat) => k ≤ 4 ∧ xs = os.set i ((wordsOf v).getD i 0 % 256 ^ k)) (tg fun (k : Nat) (xs : List Nat) => [(1, (pP b1 0)), (2, (Value.slice none 0 0)), (3, (Value.slice (some ⟨b2, 0, none⟩) (nw v) (nw v))), (24, (vN (nw v))), (25, (vN i)), (4, (vN i)), (28, (vN k))]) (tg fun (k : Nat) (xs : List Nat) => [blk b2 27 (u32s xs), blk b1 41 (natL v)]) (tg fun (k : Nat) (xs : List Nat) => 4 - k) 0 os (⟨by omega, by rw [Nat.pow_zero, Nat.mod_one]; exact set_self (h0 i (Nat.le_refl _))⟩) (sF rfl) sr (fun k xs hJ => ?_)
   obtain ⟨hk, hxs⟩ := hJ
   refine q4 (st' (ex_lss (c := (decide (k < 4))) rfl rfl (ltN (a := k) (b := 4))) rfl (OkL.nil (q1 ?_)))
   refine OkC.cond rfl (fun hc2 => ?_) (fun hc2 => ?_)
   ·replace hc2 := of_decide_eq_true hc2
    refine OkC.skip (q1 (OkC.block (q4 (mv' rfl (asg' rfl ?_)))))
    refine OkL.nil (OkQ.subF (sL [1, 2, 3, 24, 25, 4, 28, 5] rfl) (OkQ.then_ (rG' [(0, true), (1, true), (2, true), (4, true), (5, true), (6, true), (7, true), (8, true), (9, true), (10, true), (11, true), (12, true), (13, true), (14, true), (3, false), (15, true), (16, true), (17, false)] (sl sr) ?_)))
    have hi : i < nw v := hc1
    have hxi : xs.getD i 0 = (wordsOf v).getD i 0 % 256 ^ k := by rw [hxs]; simp [hl, hi]
    have hxl : xs.length = nw v := by rw [hxs]; simp [hl]
    have hby : (wordsOf v).getD i 0 / 256 ^ k % 256 < 256 := Nat.mod_lt _ (by omega)
    have hget : (bigB v)[4 * i + k]? = some (UInt8.ofNat ((wordsOf v).getD i 0 / 256 ^ k % 256)) := by rw [bigB_big hc0, strOf_get (by rw [bytesN_length]; show 4 * i + k < 4 * nw v; omega), bytesN_get _ _ _ hi hc2]
    have hw32 : xs.getD i 0 < 4294967296 := by rw [hxi]; exact Nat.lt_of_le_of_lt (Nat.mod_le _ _) ((words_w32 v).getD i)
    refine pM' rfl (pM' rfl (pE' (v := (pP b2 i)) rfl (ex_indexAddr_slice (j := i) rfl rfl Tryz.underlying160 Tryz.sizeOf27 rfl (by omega) (by simp)) (pE' (v := (pP b1 1)) rfl (ex_fieldAddr rfl Tryz.underlying41 rfl Tryz.sizeOf9 rfl) (pO'' 0 (Value.string (bigB v)) tO9 rfl (pM' rfl ?_)))))
    refine pE' rfl (ex_mul (c := ((4 * i : Nat) : Int)) rfl rfl (mulN_i64 (a := 4) (b := i) (by omega))) (pM' rfl (pE' rfl (ex_add (c := (((4 * i) + k : Nat) : Int)) rfl rfl (addN_i64 (a := 4 * i) (b := k) (by omega))) (pE' (v := (vK .u8 ((wordsOf v).getD i 0 / 256 ^ k % 256))) rfl (ex_index_str (j := 4 * i + k) (m := (wordsOf v).getD i 0 / 256 ^ k % 256) rfl rfl Tryz.underlying9 hget hby) (pE' rfl (ex_conv (c := (((wordsOf v).getD i 0 / 256 ^ k % 256 : Nat) : Int)) rfl Tryz.underlying5 Tryz.underlying27 (convN_u32 (by omega))) (pM' rfl ?_)))))
    refine pE' rfl (ex_mul (c := ((8 * k : Nat) : Int)) rfl rfl (mulN_i64 (a := 8) (b := k) (by omega))) (pE' (v := (vK .u32 ((wordsOf v).getD i 0 / 256 ^ k % 256 * 2 ^ (8 * k)))) rfl (ex_shl (s := 8 * k) rfl rfl rfl (show 8 * k ≤ 32 by omega) (shlN_u32 (byte_lt hc2))) (OkE.imp rfl (st' (ex_load_one (i := 0) (v := (vK .u32 (xs.getD i 0))) rfl rfl Tryz.isAgg27 (u32s_get (xs := xs) (j := i) (by omega))) rfl (OkE.back (sl sr) (pE' rfl (ex_or (c := (((wordsOf v).getD i 0 % 256 ^ (k + 1) : Nat) : Int)) rfl rfl (orN_u32 hw32 (byte_lt hc2) (byte_step hxi))) ?_)))))
    refine pE' (v := (pP b2 i)) rfl (ex_indexAddr_slice (j := i) rfl rfl Tryz.underlying160 Tryz.sizeOf27 rfl (by omega) (by simp)) (OkE.imp rfl (OkL.store' (i := 0) (off := i) (vs := [(vK .u32 ((wordsOf v).getD i 0 % 256 ^ (k + 1)))]) (cs' := u32s (xs.set i ((wordsOf v).getD i 0 % 256 ^ (k + 1)))) (L' := [blk b2 27 (u32s (xs.set i ((wordsOf v).getD i 0 % 256 ^ (k + 1)))), blk b1 41 (natL v)]) (wt_none rfl) rfl rfl rfl rfl rfl Tryz.sizeOf27 rfl (ble_row (u32s_length _) (by omega)) (u32s_set (by omega)) rfl (OkE.back (sl sr) (OkE.nil (OkQ.subF (sL [1, 2, 3, 24, 25, 4, 28] rfl) ?_)))))
    refine OkQ.in_normal (OkQ.then_ (OkC.region (st' (ex_add (c := ((k + 1 : Nat) : Int)) rfl rfl (addN_i64 (a := k) (b := 1) (by omega))) rfl (mv' rfl (OkL.nil ?_)))))
    exact OkQ.subF (sL [1, 2, 3, 24, 25, 4, 28] rfl) (OkQ.round2 (k + 1) (xs.set i ((wordsOf v).getD i 0 % 256 ^ (k + 1))) (⟨by omega, by rw [hxs, List.set_set]⟩) (by omega) (sF rfl) sr)
   ·replace hc2 := of_decide_eq_false hc2
    refine OkC.exit (OkQ.then_exit (OkQ.round2_exit (OkQ.in_exit (OkQ.in_normal (OkQ.then_ ?_)))))
    refine OkC.region (st' (ex_add (c := ((i + 1 : Nat) : Int)) rfl rfl (addN_i64 (a := i) (b := 1) (by omega))) rfl (mv' rfl (OkL.nil (OkQ.subF (sL [1, 2, 3, 24, 25, 4, 28] rfl) ?_))))
    have hst := words_step (ws := wordsOf v) (xs := xs) hl rfl hc1 ht h0 (by rw [hxs, show k = 4 by omega]; congr 1; exact Nat.mod_eq_of_lt ((words_w32 v).getD i))
    exact OkQ.round2 (i + 1) xs (⟨by omega, hst.1, hst.2.1, hst.2.2⟩) (by omega) (sF rfl) sr
  ·replace hc1 := of_decide_eq_false hc1
   refine OkC.exit (OkQ.then_exit (OkQ.round2_exit (OkQ.in_exit (q2 (mv' rfl ?_)))))
   refine asg' rfl (OkL.nil (OkQ.subF (sL [1, 2, 3, 24, 25] rfl) (OkQ.then_ (OkC.ret ?_))))
   have hpad : padW v = wordsOf v := by simp [padW, hc0]
   have hos : os = wordsOf v := row_done hl rfl hc1 ht
   have hret : ∀ b : Nat, (Ending.returned (Value.slice (some ⟨b, 0, none⟩) (nw v) (nw v))) = .returned (Value.slice (some ⟨b, 0, none⟩) (nw v) (padW v).length) := fun b => by rw [hpad]; rfl
   replace hret := hret b2
   have hcells : (some (Obj.cells (u32s os).toArray 27 (0, 0))) = some (Obj.cells (u32s (padW v)).toArray 27 (0, 0)) := by rw [hpad, hos]
   exact ret_one rfl (rd_tmp (v := (Value.slice (some ⟨b2, 0, none⟩) (nw v) (nw v))) rfl) (fun w hw => ⟨b2, hret, hw.out, hw.fresh (i := 0) rfl, (hw.get (i := 0) rfl).trans hcells⟩)
end
section
set_option maxRecDepth 100000
theorem of_ok (b m c : Nat) (bs : List Nat) (hbs : W32 bs) (hm : m ≤ bs.length) (hc : m ≤ c) (hL : c < 4398046511104) (w : World) (hb : w.heap[b]? = some (.cells (u32s bs).toArray 27 (0, 0))) : Calls Tryz.prog 84 #[(Value.slice (some ⟨b, 0, none⟩) m c)] w (Gives w (aG (natL (val (bs.take m))))) := by
 have hle := cutN_le bs m
 have hval := val_cutN bs m
 have hwd := words_cut hbs hm
 have hnw := nw_cut hbs hm
 generalize hK : cutN bs m = K at *
 refine calls_of (args := [(Value.slice (some ⟨b, 0, none⟩) m c)]) Tryz.func84 rfl rfl (leB rfl) (OkC.subF (sL [0] rfl) (q4 (al tZ41 rfl fun b1 => OkL.nil (q2 ?_))))
 refine mv' rfl (cl' Tryz.call105 (fun w hw => cut_ok _ m c bs hbs (by omega) (by omega) (by omega) w (hw.old (by simp) hb)) rfl (OkL.retell (k := 10) (u := (Value.slice (some ⟨b, 0, none⟩) K c)) rfl (by rw [hK]) (asg' rfl (q6 (sL [0, 2] rfl) (q4 ?_)))))
 refine mv' rfl (st' (v := (vN K)) (ex_len_slice rfl Tryz.underlying160) rfl (st' (ex_leq (c := (decide (K ≤ 2))) rfl rfl (leN (a := K) (b := 2))) rfl (OkL.nil (OkQ.subF (sL [0, 2, 13] rfl) (OkQ.then_ ?_)))))
 refine OkC.cond rfl (fun hc0 => ?_) (fun hc0 => ?_)
 ·replace hc0 := of_decide_eq_true hc0
  refine q4 (asg' rfl (OkL.nil (q1 (q4 (mv' rfl ?_)))))
  refine st' (v := (vN K)) (ex_len_slice rfl Tryz.underlying160) rfl (mv' rfl (OkL.nil (OkQ.then_ (OkC.block ?_))))
  refine OkC.lp2 (tg fun (i : Nat) (n : Nat) => i ≤ K ∧ n = val (bs.take i)) (tg fun (i : Nat) (n : Nat) => [(0, (Value.slice (some ⟨b, 0, none⟩) K c)), (2, (pP b1 0)), (14, (Value.slice (some ⟨b, 0, none⟩) K c)), (15, (vN K)), (16, (vN i)), (3, (vK .u64 n))]) (tg fun (i : Nat) (n : Nat) => [blk b1 41 (natL 0)]) (tg fun (i : Nat) (n : Nat) => K - i) 0 0 (⟨Nat.zero_le _, by simp [val]⟩) (sF rfl) sr (fun i n hJ => ?_)
  obtain ⟨hi, hn⟩ := hJ
  refine q4 (st' (ex_lss (c := (decide (i < K))) rfl rfl (ltN (a := i) (b := K))) rfl (OkL.nil (q1 ?_)))
  refine OkC.cond rfl (fun hc1 => ?_) (fun hc1 => ?_)
  ·replace hc1 := of_decide_eq_true hc1
   refine OkC.skip (q1 (OkC.block (q4 (mv' rfl (st' (v := (pP b i)) (ex_indexAddr_slice (j := i) rfl rfl Tryz.underlying160 Tryz.sizeOf27 rfl (by omega) (by simp)) rfl ?_)))))
   have hx1 : bs.getD i 0 < 4294967296 := W32.getD hbs i
   refine st' (ex_load_one_at (v := (vK .u32 (bs.getD i 0))) rfl (fun w' hw => CA.at0 (hw.oldCA (by simp) (ca_blk hb)) (u32s_get (xs := bs) (j := i) (by omega))) Tryz.isAgg27) rfl (asg' rfl (asg' rfl (OkL.nil (OkQ.subF (sL [0, 2, 14, 15, 16, 3, 4, 5] rfl) (OkQ.then_ ?_)))))
   refine OkC.region (mv' rfl (mv' rfl (st' (ex_conv (c := ((bs.getD i 0 : Nat) : Int)) rfl Tryz.underlying27 Tryz.underlying39 (convN_u64 (by omega))) rfl (mv' rfl ?_))))
   have hiK : i < K := hc1
   have hi2 : i < 2 := by omega
   have hn2 : n < 4294967296 ^ i := by rw [hn]; exact Nat.lt_of_lt_of_le (val_lt (hbs.take i)) (Nat.pow_le_pow_right (by omega) (by simp; omega))
   have hsh := shift_lt (i := i) (hbs.getD i) hi2
   have hn3 : n < 18446744073709551616 := small_pow hn2 hi2
   refine st' (ex_mul (c := ((32 * i : Nat) : Int)) rfl rfl (mulN_i64 (a := 32) (b := i) (by omega))) rfl (st' (v := (vK .u64 (bs.getD i 0 * 2 ^ (32 * i)))) (ex_shl (s := 32 * i) rfl rfl rfl (show 32 * i ≤ 64 by omega) (shlN_u64 hsh)) rfl (st' (ex_or (c := ((n + bs.getD i 0 * 2 ^ (32 * i) : Nat) : Int)) rfl rfl (orN_u64 hn3 hsh (or_add (by rw [← pow32]; exact hn2)))) rfl (asg' rfl (OkL.nil (OkQ.subF (sL [0, 2, 14, 15, 16, 3] rfl) ?_)))))
   refine OkQ.in_normal (OkQ.then_ (OkC.region (st' (ex_add (c := ((i + 1 : Nat) : Int)) rfl rfl (addN_i64 (a := i) (b := 1) (by omega))) rfl (mv' rfl (OkL.nil ?_)))))
   exact OkQ.subF (sL [0, 2, 14, 15, 16, 3] rfl) (OkQ.round2 (i + 1) (n + bs.getD i 0 * 2 ^ (32 * i)) (⟨by omega, by rw [val_take_succ, ← hn, pow32]⟩) (by omega) (sF rfl) sr)
  ·replace hc1 := of_decide_eq_false hc1
   refine OkC.exit (OkQ.then_exit (OkQ.round2_exit (OkQ.in_exit (q2 (mv' rfl ?_)))))
   have hnn : n = val (bs.take K) := by rw [hn, show i = K by omega]
   have hv2 : val (bs.take m) < 18446744073709551616 := by rw [← hval]; exact Nat.lt_of_lt_of_le (val_lt (hbs.take K)) (by rw [List.length_take]; exact Nat.le_trans (Nat.pow_le_pow_right (n := 4294967296) (by omega) (show min K bs.length ≤ 2 by omega)) (by decide))
   refine st' (v := (aG ([(vK .u64 n), (Value.string (bigB 0))]))) (ex_build_struct (zs := natL 0) (vs := [(vK .u64 n), (Value.string (bigB 0))]) (pv := [(0, (vK .u64 n))]) (places := [(0, 1), (1, 1)]) Tryz.zeroValue41 Tryz.underlying41 (fun w => by simp [Tryz.sizeOf9, Tryz.sizeOf39]) rfl rfl) rfl (OkL.retell (k := 30) (u := (aG (natL (val (bs.take m))))) rfl (by rw [natL_small hv2, ← hval, ← hnn]; rfl) (stW0' rfl Tryz.sizeOf41 rfl (OkL.nil (OkQ.subF (sL [0, 2, 14, 15, 16, 3] rfl) (OkQ.then_ ?_)))))
   exact OkC.ret (OkQ.then_ret (ret_one rfl (rd_agg (i := 0) (cs := natL (val (bs.take m))) rfl rfl Tryz.isAgg41 Tryz.sizeOf41 rfl) (fun w hw => ⟨rfl, hw.out⟩)))
 ·replace hc0 := of_decide_eq_false hc0
  refine OkC.skip (q2 (mv' rfl (st' (v := (vN K)) (ex_len_slice rfl Tryz.underlying160) rfl (st' (ex_mul (c := ((4 * K : Nat) : Int)) rfl rfl (mulN_i64 (a := 4) (b := K) (by omega))) rfl (OkL.openV (V := fun b2 => (Value.slice (some ⟨b2, 0, none⟩) 0 (4 * K))) (T := 5) (cs := u8s (List.replicate (4 * K) 0)) (wt_none rfl) (op_make_u8 (m := 0) (c := 4 * K) rfl rfl (by omega) (by omega)) rfl (leB rfl) fun b2 => ?_)))))
  refine asg' rfl (q6 (sL [0, 2, 6] rfl) (q4 (mv' rfl (st' (v := (vN K)) (ex_len_slice rfl Tryz.underlying160) rfl (mv' rfl ?_)))))
  refine OkL.nil (OkQ.then_ (OkC.block ?_))
  refine OkC.lp2 (tg fun (i : Nat) (bz : List Nat) => i ≤ K ∧ bz = bytesN (bs.take i) ++ List.replicate (4 * (K - i)) 0) (tg fun (i : Nat) (bz : List Nat) => [(2, (pP b1 0)), (35, (Value.slice (some ⟨b, 0, none⟩) K c)), (36, (vN K)), (37, (vN i)), (6, (Value.slice (some ⟨b2, 0, none⟩) (4 * i) (4 * K)))]) (tg fun (i : Nat) (bz : List Nat) => [blk b2 5 (u8s bz), blk b1 41 (natL 0)]) (tg fun (i : Nat) (bz : List Nat) => K - i) 0 (List.replicate (4 * K) 0) (⟨Nat.zero_le _, by simp [bytesN]⟩) (sF rfl) sr (fun i bz hJ => ?_)
  obtain ⟨hi, hz⟩ := hJ
  refine q4 (st' (ex_lss (c := (decide (i < K))) rfl rfl (ltN (a := i) (b := K))) rfl (OkL.nil (q1 ?_)))
  refine OkC.cond rfl (fun hc2 => ?_) (fun hc2 => ?_)
  ·replace hc2 := of_decide_eq_true hc2
   refine OkC.skip (q1 (OkC.block (q4 (st' (v := (pP b i)) (ex_indexAddr_slice (j := i) rfl rfl Tryz.underlying160 Tryz.sizeOf27 rfl (by omega) (by simp)) rfl ?_))))
   have hx2 : bs.getD i 0 < 4294967296 := W32.getD hbs i
   refine st' (ex_load_one_at (v := (vK .u32 (bs.getD i 0))) rfl (fun w' hw => CA.at0 (hw.oldCA (by simp) (ca_blk hb)) (u32s_get (xs := bs) (j := i) (by omega))) Tryz.isAgg27) rfl (asg' rfl (OkL.nil (OkQ.subF (sL [2, 35, 36, 37, 6, 8] rfl) (OkQ.then_ (OkC.region ?_)))))
   refine mv' rfl (mv' rfl (st' (ex_conv (c := (((bs.getD i 0) % 256 : Nat) : Int)) rfl Tryz.underlying27 Tryz.underlying5 modN_u8) rfl (mv' rfl (st' (ex_shr (s := 8) (c := (((bs.getD i 0) / 256 : Nat) : Int)) rfl rfl rfl (by decide) (shrN (a := bs.getD i 0) (s := 8))) rfl (st' (ex_conv (c := ((((bs.getD i 0) / 256) % 256 : Nat) : Int)) rfl Tryz.underlying27 Tryz.underlying5 modN_u8) rfl ?_)))))
   refine mv' rfl (st' (ex_shr (s := 16) (c := (((bs.getD i 0) / 65536 : Nat) : Int)) rfl rfl rfl (by decide) (shrN (a := bs.getD i 0) (s := 16))) rfl (st' (ex_conv (c := ((((bs.getD i 0) / 65536) % 256 : Nat) : Int)) rfl Tryz.underlying27 Tryz.underlying5 modN_u8) rfl (mv' rfl (st' (ex_shr (s := 24) (c := (((bs.getD i 0) / 16777216 : Nat) : Int)) rfl rfl rfl (by decide) (shrN (a := bs.getD i 0) (s := 24))) rfl (st' (ex_conv (c := ((((bs.getD i 0) / 16777216) % 256 : Nat) : Int)) rfl Tryz.underlying27 Tryz.underlying5 modN_u8) rfl ?_)))))
   refine OkL.openV (V := fun b3 => (Value.slice (some ⟨b3, 0, none⟩) 4 4)) (T := 5) (cs := u8s ([(bs.getD i 0) % 256, ((bs.getD i 0) / 256) % 256, ((bs.getD i 0) / 65536) % 256, ((bs.getD i 0) / 16777216) % 256])) (wt_none rfl) (op_buildSlice (cs := u8s ([(bs.getD i 0) % 256, ((bs.getD i 0) / 256) % 256, ((bs.getD i 0) / 65536) % 256, ((bs.getD i 0) / 16777216) % 256])) (pv := [(0, (vK .u8 ((bs.getD i 0) % 256))), (1, (vK .u8 (((bs.getD i 0) / 256) % 256))), (2, (vK .u8 (((bs.getD i 0) / 65536) % 256))), (3, (vK .u8 (((bs.getD i 0) / 16777216) % 256)))]) Tryz.underlying22 Tryz.sizeOf5 Tryz.zeroValue5 (by decide) (by decide) rfl (by kernel_rfl)) rfl (leB rfl) fun b3 => ?_
   obtain ⟨bz2, hz2, hlay⟩ : ∃ bz2, bz2 = bytesN (bs.take (i + 1)) ++ List.replicate (4 * (K - (i + 1))) 0 ∧ lay (u8s bz) (4 * i) (u8s ([(bs.getD i 0) % 256, ((bs.getD i 0) / 256) % 256, ((bs.getD i 0) / 65536) % 256, ((bs.getD i 0) / 16777216) % 256])) = u8s bz2 := ⟨_, rfl, by rw [hz]; exact bytes_step hc2 (by omega)⟩
   refine OkL.append_u8 (i := 1) (j := 0) (m := 4 * i) (c := 4 * K) (k := 4) (cs' := u8s bz2) (L' := [blk b3 5 (u8s ([(bs.getD i 0) % 256, ((bs.getD i 0) / 256) % 256, ((bs.getD i 0) / 65536) % 256, ((bs.getD i 0) / 16777216) % 256])), blk b2 5 (u8s bz2), blk b1 41 (natL 0)]) rfl (wt_none rfl) rfl rfl rfl rfl rfl rfl (by omega) (by rw [u8s_length, hz]; simp [bytesN_length]; omega) hlay rfl (leB rfl) (asg' rfl (OkL.nil (OkQ.subF (sL [2, 35, 36, 37, 6] rfl) (OkQ.in_normal (OkQ.then_ ?_)))))
   exact OkC.region (st' (ex_add (c := ((i + 1 : Nat) : Int)) rfl rfl (addN_i64 (a := i) (b := 1) (by omega))) rfl (mv' rfl (OkL.nil (OkQ.subF (sL [2, 35, 36, 37, 6] rfl) (OkQ.round2 (i + 1) bz2 (⟨by omega, hz2⟩) (by omega) (sF rfl) (sl sr))))))
  ·replace hc2 := of_decide_eq_false hc2
   refine OkC.exit (OkQ.then_exit (OkQ.round2_exit (OkQ.in_exit (q2 (mv' rfl ?_)))))
   have hbl : bz.length = 4 * i := by rw [hz, List.length_append, bytesN_length, List.length_take, List.length_replicate]; omega
   have htk : (u8s bz).take (4 * i) = u8s bz := List.take_of_length_le (by rw [u8s_length]; omega)
   refine st' (v := (Value.string (strOf bz))) (ex_bytes_string (i := 0) (m := 4 * i) (ns := bz) rfl rfl htk hbl) rfl ?_
   have hv3 : ¬ val (bs.take m) < 18446744073709551616 := fun h => by have := nw_small h; omega
   have hbz : bz = bytesN (bs.take K) := by rw [hz, show i = K by omega]; simp
   refine st' (v := (aG ([(vK .u64 (lowN 0)), (Value.string (strOf bz))]))) (ex_build_struct (zs := natL 0) (vs := [(vK .u64 (lowN 0)), (Value.string (strOf bz))]) (pv := [(1, (Value.string (strOf bz)))]) (places := [(0, 1), (1, 1)]) Tryz.zeroValue41 Tryz.underlying41 (fun w => by simp [Tryz.sizeOf9, Tryz.sizeOf39]) rfl rfl) rfl (OkL.retell (k := 58) (u := (aG (natL (val (bs.take m))))) rfl (by rw [natL_big hv3, hwd, ← hbz]; rfl) (stW1' rfl Tryz.sizeOf41 rfl (OkL.nil (OkQ.subF (sL [2, 35, 36, 37, 6] rfl) (OkQ.then_ ?_)))))
   exact OkC.ret (ret_one rfl (rd_agg (i := 1) (cs := natL (val (bs.take m))) rfl rfl Tryz.isAgg41 Tryz.sizeOf41 rfl) (fun w hw => ⟨rfl, hw.out⟩))
end
section
def cmpZ (a b : Nat) : Int := if a < b then -1 else if a = b then 0 else 1
theorem cmpZ_lt {a b : Nat} : cmpZ a b < 0 ↔ a < b := by
  unfold cmpZ; split
  · omega
  · split <;> omega
theorem cmpZ_eq {a b : Nat} : cmpZ a b = 0 ↔ a = b := by
  unfold cmpZ; split
  · omega
  · split <;> omega
theorem cmp_len {a b : Nat} (h : nw a ≠ nw b) : ((nw a : Int) - (nw b : Int)).sign = cmpZ a b := by
  unfold cmpZ
  by_cases h1 : nw a < nw b
  · have h2 : a < b := by
      rcases Nat.lt_or_ge a b with h2 | h2
      · exact h2
      · have := nw_mono h2; omega
    rw [if_pos h2, Int.sign_eq_neg_one_of_neg (by omega)]
  · have h2 : b < a := by
      rcases Nat.lt_or_ge b a with h2 | h2
      · exact h2
      · have := nw_mono h2; omega
    rw [if_neg (by omega), if_neg (by omega), Int.sign_eq_one_of_pos (by omega)]
theorem cmp_at {xs ys : List Nat} {k : Nat} (hx : W32 xs) (hl : xs.length = ys.length) (h0 : 0 < k) (hk : k ≤ xs.length) (hd : xs.drop k = ys.drop k) (h : xs.getD (k - 1) 0 < ys.getD (k - 1) 0) : val xs < val ys := by
  have e1 := val_split xs k hk
  have e2 := val_split ys k (by omega)
  have s1 := val_take_succ xs (k - 1)
  have s2 := val_take_succ ys (k - 1)
  rw [show k - 1 + 1 = k by omega] at s1 s2
  have h1 : val (xs.take (k - 1)) < 4294967296 ^ (k - 1) := Nat.lt_of_lt_of_le (val_lt (hx.take (k - 1))) (Nat.pow_le_pow_right (by omega) (by simp; omega))
  have h2 : (xs.getD (k - 1) 0 + 1) * 4294967296 ^ (k - 1) ≤ ys.getD (k - 1) 0 * 4294967296 ^ (k - 1) := Nat.mul_le_mul_right _ h
  rw [Nat.add_mul] at h2
  rw [hd] at e1
  omega
theorem drop_step {xs ys : List Nat} {k : Nat} (hl : xs.length = ys.length) (h0 : 0 < k) (hk : k ≤ xs.length) (hd : xs.drop k = ys.drop k) (h : xs.getD (k - 1) 0 = ys.getD (k - 1) 0) : xs.drop (k - 1) = ys.drop (k - 1) := by
  have h1 : k - 1 < xs.length := by omega
  have h2 : k - 1 < ys.length := by omega
  rw [List.drop_eq_getElem_cons h1, List.drop_eq_getElem_cons h2, show k - 1 + 1 = k by omega, hd]
  simp [h1, h2] at h
  rw [h]
theorem cmp_words {a b k : Nat} (hl : nw a = nw b) (h0 : 0 < k) (hk : k ≤ nw a) (hd : (wordsOf a).drop k = (wordsOf b).drop k) (hne : (wordsOf a).getD (k - 1) 0 ≠ (wordsOf b).getD (k - 1) 0) :
    cmpZ a b = if (wordsOf a).getD (k - 1) 0 < (wordsOf b).getD (k - 1) 0 then -1 else 1 := by
  unfold cmpZ
  split
  · rename_i h
    rw [if_pos]
    rcases Nat.lt_or_ge ((wordsOf a).getD (k - 1) 0) ((wordsOf b).getD (k - 1) 0) with h1 | h1
    · exact h1
    · have := cmp_at (words_w32 b) hl.symm h0 (by unfold nw at *; omega) hd.symm (show (wordsOf b).getD (k - 1) 0 < (wordsOf a).getD (k - 1) 0 by omega)
      rw [val_words, val_words] at this; omega
  · rename_i h
    have h2 : ¬ (wordsOf a).getD (k - 1) 0 < (wordsOf b).getD (k - 1) 0 := fun h1 => by
      have := cmp_at (words_w32 a) hl h0 hk hd h1
      rw [val_words, val_words] at this; omega
    rw [if_neg h2, if_neg]
    intro e; subst e; exact hne rfl
theorem cmp_same {a b : Nat} (hd : (wordsOf a).drop 0 = (wordsOf b).drop 0) : cmpZ a b = 0 := by
  rw [cmpZ_eq]
  rw [List.drop_zero, List.drop_zero] at hd
  rw [← val_words a, ← val_words b, hd]
theorem pad_getD {v i : Nat} (h : i < nw v) : (padW v).getD i 0 = (wordsOf v).getD i 0 := by
  rw [← pad_take v]
  simp [List.getD_eq_getElem?_getD, List.getElem?_take, h]
theorem words_getD_zero {v i : Nat} (h : ¬ i < nw v) : (wordsOf v).getD i 0 = 0 := by
  unfold nw at h; simp [List.getD_eq_getElem?_getD, Nat.not_lt.1 h]
theorem val_words_take {v i : Nat} (h : nw v ≤ i) : val ((wordsOf v).take i) = v := by
  rw [List.take_of_length_le h, val_words]
theorem pad_len (v : Nat) : (padW v).length ≤ nw v + 2 := by
  unfold padW; split
  · simp
  · unfold nw; omega
theorem take_pad_val (v : Nat) : val ((padW v).take (nw v)) = v := by rw [pad_take, val_words]
theorem add_step {os ys : List Nat} {X i n c : Nat} (hl : os.length = n) (hi : i < n) (hv : val os + c * 4294967296 ^ i = X + val (ys.take i)) :
    val (os.set i ((os.getD i 0 + ys.getD i 0 + c) % 4294967296)) + (os.getD i 0 + ys.getD i 0 + c) / 4294967296 * 4294967296 ^ (i + 1) = X + val (ys.take (i + 1)) := by
  have e := val_set (xs := os) (i := i) (by omega) ((os.getD i 0 + ys.getD i 0 + c) % 4294967296)
  have t := val_take_succ ys i
  have hm := Nat.div_add_mod (os.getD i 0 + ys.getD i 0 + c) 4294967296
  rw [Nat.pow_succ]
  generalize os.getD i 0 = o at *
  generalize ys.getD i 0 = y at *
  generalize (o + y + c) / 4294967296 = q at *
  generalize (o + y + c) % 4294967296 = r at *
  generalize 4294967296 ^ i = p at *
  have hm2 : (4294967296 * q + r) * p = (o + y + c) * p := by rw [hm]
  grind
theorem add_done {os : List Nat} {X Y n c i : Nat} (hl : os.length = n) (hw : W32 os) (hi : n ≤ i) (hX : X + Y < 4294967296 ^ n) (hv : val os + c * 4294967296 ^ i = X + Y) : val os = X + Y := by
  have h1 : 4294967296 ^ n ≤ 4294967296 ^ i := Nat.pow_le_pow_right (by omega) hi
  rcases Nat.eq_zero_or_pos c with h | h
  · subst h; omega
  · have : 1 * 4294967296 ^ i ≤ c * 4294967296 ^ i := Nat.mul_le_mul_right _ h
    omega
theorem sub_step {os ys : List Nat} {X i n c : Nat} (hl : os.length = n) (hi : i < n) (hw : W32 os) (hy : W32 ys) (hc : c ≤ 1) (hv : val os + val (ys.take i) = X + c * 4294967296 ^ i) :
    val (os.set i ((os.getD i 0 + (4294967296 - ys.getD i 0) + (4294967296 - c)) % 4294967296)) + val (ys.take (i + 1)) = X + bor (os.getD i 0) (ys.getD i 0 + c) * 4294967296 ^ (i + 1) := by
  have e := val_set (xs := os) (i := i) (by omega) ((os.getD i 0 + (4294967296 - ys.getD i 0) + (4294967296 - c)) % 4294967296)
  have t := val_take_succ ys i
  have ho := hw.getD i
  have hy' := hy.getD i
  rw [Nat.pow_succ]
  have hm : (os.getD i 0 + (4294967296 - ys.getD i 0) + (4294967296 - c)) % 4294967296 + ys.getD i 0 + c = os.getD i 0 + bor (os.getD i 0) (ys.getD i 0 + c) * 4294967296 := by
    unfold bor; split <;> omega
  generalize (os.getD i 0 + (4294967296 - ys.getD i 0) + (4294967296 - c)) % 4294967296 = r at *
  generalize bor (os.getD i 0) (ys.getD i 0 + c) = q at *
  generalize os.getD i 0 = o at *
  generalize ys.getD i 0 = y at *
  generalize 4294967296 ^ i = p at *
  have hm2 : (r + y + c) * p = (o + q * 4294967296) * p := by rw [hm]
  grind
theorem sub_done {os : List Nat} {X Y n c i : Nat} (hl : os.length = n) (hw : W32 os) (hi : i = n) (hX : Y ≤ X) (hv : val os + Y = X + c * 4294967296 ^ i) (hX2 : X < 4294967296 ^ n) : val os = X - Y := by
  have h1 := val_lt hw
  rw [hl] at h1
  subst hi
  rcases Nat.eq_zero_or_pos c with h | h
  · subst h; omega
  · have : 1 * 4294967296 ^ i ≤ c * 4294967296 ^ i := Nat.mul_le_mul_right _ h
    omega
theorem bor_le (x y : Nat) : bor x y ≤ 1 := by unfold bor; split <;> omega
theorem mul_step {os ys : List Nat} {S W i k n c : Nat} (hl : os.length = n) (hi : i + k < n) (hv : val os + c * 4294967296 ^ (i + k) = S + W * val (ys.take k) * 4294967296 ^ i) :
    val (os.set (i + k) ((c + (W * ys.getD k 0 + os.getD (i + k) 0)) % 4294967296)) + (c + (W * ys.getD k 0 + os.getD (i + k) 0)) / 4294967296 * 4294967296 ^ (i + (k + 1)) = S + W * val (ys.take (k + 1)) * 4294967296 ^ i := by
  have e := val_set (xs := os) (i := i + k) (by omega) ((c + (W * ys.getD k 0 + os.getD (i + k) 0)) % 4294967296)
  have t := val_take_succ ys k
  have hm := Nat.div_add_mod (c + (W * ys.getD k 0 + os.getD (i + k) 0)) 4294967296
  rw [t, show i + (k + 1) = i + k + 1 by omega, Nat.pow_succ]
  rw [Nat.pow_add] at *
  generalize os.getD (i + k) 0 = o at *
  generalize ys.getD k 0 = y at *
  generalize (c + (W * y + o)) / 4294967296 = q at *
  generalize (c + (W * y + o)) % 4294967296 = r at *
  generalize 4294967296 ^ i = p at *
  generalize 4294967296 ^ k = p' at *
  generalize val (ys.take k) = vy at *
  have hm2 : (4294967296 * q + r) * (p * p') = (c + (W * y + o)) * (p * p') := by rw [hm]
  grind
section
variable {n : Nat} {F : List (Nat × Value)} {w0 : Base} {L : List As} {v : Value} {x y : Operand} {d : Option Tmp} {t : TypeId} {p : String} {af : Array Edge} {g : Option (Nat × Bool)}
theorem OkL.copy_u32 {ops : Array Oper} {rest : List Oper} {Q : Exit → Act → World → Prop} {L' : List As} {i j b b' m c k c' dd : Nat} {cs ds ns cs' : List Value} {o : Oper} (ho : o = ⟨some dd, .call { callee := .builtin .copy, args := #[x, y], argTypes := #[160, 160] }, t, p, af, g⟩) (hw : Wt ops n F o)
    (hx : evF F x = some (.slice (some ⟨b, 0, none⟩) m c)) (hy : evF F y = some (.slice (some ⟨b', 0, none⟩) k c')) (hi : L[i]? = some (blk b 27 cs)) (hj : L[j]? = some (blk b' 27 ds)) (hns : ds.take k = ns) (hnl : ns.length = k) (h1 : (ns.all fun u => u.oneCell') = true) (hkm : k ≤ m) (hfit : k ≤ cs.length)
    (hcs : lay cs 0 ns = cs') (hL : L.set i (blk b 27 cs') = L') (hd : dd < n) (next : OkL Tryz.prog ops rest Q n ((dd, .int .i64 k) :: F) w0 L') : OkL Tryz.prog ops (o :: rest) Q n F w0 L := fun a w ha hW => by
  subst ho; subst hcs; subst hL
  unfold wpList
  rw [if_pos (hw a ha)]
  left
  have hca := ca_of_row (off := 0) (k := k) (hW.get hj)
  rw [List.drop_zero, hns] at hca
  have hr := run_copy_row (P := Tryz.prog) w 160 160 t 27 b 0 m c ⟨b', 0, none⟩ k c' cs.toArray 27 ns Tryz.underlying160 (by kernel_rfl) (hW.get hi) (by rw [hnl]; exact (Nat.min_eq_left hkm).symm) (fun q u hu => by rw [Addr.add_lit]; exact hca q u hu) (by simp; omega) (fun u hu => List.all_eq_true.1 h1 u hu)
  unfold Oper.wp
  have he : (execOp a.eval ⟨some dd, .call { callee := .builtin .copy, args := #[x, y], argTypes := #[160, 160] }, t, p, af, g⟩).run Tryz.prog w = .ok (.value (.int .i64 k)) (w.setRow b (lay cs 0 ns).toArray) := by
    simp only [execOp, resolve, invoke, builtin, Sem.run_bind, Sem.run_pure, Result.andThen_ok, List.map_toArray, List.map_cons, List.map_nil, ha.ev hx, ha.ev hy, hr, lay, hnl, goInt]
  rw [he, Oper.upon_value]
  have hg := hW.get hi
  exact next _ _ (ha.put hd) (hW.turn hi rfl rfl ⟨⟨rfl, rfl, rfl, by simp, fun q _ hq => setRow_other w b q _ (fun e => hq (by simp [e]))⟩, Nat.le_refl _⟩ ⟨_, setRow_heap w b cs.toArray _ 27 _ hg, rfl⟩)
end
theorem sum_lt {a b : Nat} (h : nw b ≤ nw a) : a + b < 4294967296 ^ (nw a + 1) := by
  have h1 := lt_pow_nw a
  have h2 : b < 4294967296 ^ nw a := nw_le_iff.1 h
  rw [Nat.pow_succ]; omega
theorem copy_row (v k : Nat) : (wordsOf v ++ (List.replicate (nw v + k) 0).drop (wordsOf v).length).length = nw v + k ∧ W32 (wordsOf v ++ (List.replicate (nw v + k) 0).drop (wordsOf v).length) ∧ val (wordsOf v ++ (List.replicate (nw v + k) 0).drop (wordsOf v).length) = v := by
  have e : (List.replicate (nw v + k) 0).drop (wordsOf v).length = List.replicate k 0 := by rw [List.drop_replicate]; congr 1; unfold nw; omega
  rw [e]
  refine ⟨by simp [nw], (words_w32 v).append (W32.zeros k), ?_⟩
  rw [val_append, val_words, val_zeros]; omega
theorem mul_out {os : List Nat} {p c n : Nat} (hl : os.length = n) (hp : p < n) (h0 : os.getD p 0 = 0) : val (os.set p c) = val os + c * 4294967296 ^ p := by
  have e := val_set (xs := os) (i := p) (by omega) c
  rw [h0] at e; omega
theorem zero_above {os : List Nat} {a b i : Nat} (hv : val os = val ((wordsOf a).take i) * b) : ∀ j, i + nw b ≤ j → os.getD j 0 = 0 := fun j hj => by
  refine getD_zero_of_lt (m := i + nw b) ?_ hj
  rw [hv, Nat.pow_add]
  refine Nat.mul_lt_mul'' (Nat.lt_of_lt_of_le (val_lt ((words_w32 a).take i)) (Nat.pow_le_pow_right (by omega) (by simp; omega))) (lt_pow_nw b)
theorem set_above {os : List Nat} {p q v : Nat} (h : ∀ j, p ≤ j → os.getD j 0 = 0) (hq : q < p) : ∀ j, p ≤ j → (os.set q v).getD j 0 = 0 := fun j hj => by
  rw [List.getD_eq_getElem?_getD, List.getElem?_set_ne (by omega), ← List.getD_eq_getElem?_getD]
  exact h j hj
theorem mul_row {a b i : Nat} : val ((wordsOf a).take i) * b + (wordsOf a).getD i 0 * b * 4294967296 ^ i = val ((wordsOf a).take (i + 1)) * b := by
  rw [val_take_succ]; grind
theorem words4 {x y : Nat} (hx : x < 18446744073709551616) (hy : y < 18446744073709551616) : val [x % 4294967296, x / 4294967296, y % 4294967296, y / 4294967296] = x + y * 18446744073709551616 := by
  simp only [val]; omega
theorem u32s_all (xs : List Nat) : ((u32s xs).all fun u => u.oneCell') = true := List.all_eq_true.2 (u32s_one xs)
theorem u32s_take (xs : List Nat) (k : Nat) : (u32s xs).take k = u32s (xs.take k) := by simp [u32s, List.map_take]
theorem u32s_lay (xs ns : List Nat) : lay (u32s xs) 0 (u32s ns) = u32s (ns ++ xs.drop ns.length) := by simp [lay, u32s, List.map_drop]
end
end Go.Proofs.YtnofgcpajmldkaaGreatDoor
