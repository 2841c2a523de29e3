import Derived.Test.YtmjbiebmgffleaaGreatDoorPart05
import Derived.Test.YtmjbiebmgffleaaGreatDoorPart09
namespace Go.Proofs.YtmjbiebmgffleaaGreatDoor
open Go Go.RowKit
set_option linter.unusedVariables false
set_option linter.unusedSimpArgs false
section
set_option maxRecDepth 100000
theorem of64_ok (n : Nat) (hn : n < 18446744073709551616) (w : World)  : Calls Tryz.prog 86 #[(vK .u64 n)] w (Gives w (aG (natL n))) := by
 refine calls_of (args := [(vK .u64 n)]) Tryz.func86 rfl rfl (leB rfl) (OkC.subF (sC 0 rfl (sN)) (q4 (al tZ37 rfl fun b1 => OkL.nil (q2 ?_))))
 refine mv rfl rfl (st (v := (aG ([(vK .u64 n), (Value.string (bigB 0))]))) (ex_build_struct (zs := natL 0) (vs := [(vK .u64 n), (Value.string (bigB 0))]) (pv := [(0, (vK .u64 n))]) (places := [(0, 1), (1, 1)]) Tryz.zeroValue37 Tryz.underlying37 (fun w => by simp [Tryz.sizeOf9, Tryz.sizeOf35]) rfl rfl) (leB rfl) (OkL.retell (k := 4) (u := (aG (natL n))) rfl (by rw [natL_small hn]; rfl) (stW0 rfl rfl rfl Tryz.sizeOf37 rfl rfl (OkL.nil (OkQ.subF (sC 2 rfl (sN)) ?_)))))
 exact OkQ.then_ (OkC.ret (ret_one rfl (rd_agg (i := 0) (cs := natL n) rfl rfl Tryz.isAgg37 Tryz.sizeOf37 rfl) (fun w hw => ⟨rfl, hw.out⟩)))
theorem fill_numb_37_  : Instr.fill ([(0, 1), (1, 1)].toArray[·]?) (natL 0).toArray [] = some (natL 0).toArray := by kernel_rfl
theorem zero_ok (a : Nat) (w : World)  : Calls Tryz.prog 115 #[(aG (natL a))] w (Gives w (Value.bool (decide (a = 0)))) := by
 refine calls_of (args := [(aG (natL a))]) Tryz.func115 rfl rfl (leB rfl) (OkC.subF (sC 0 rfl (sN)) (q4 (bx (cs := natL a) rfl rfl rfl fun b1 => asg rfl rfl (q3 (sC 1 rfl (sC 2 rfl (sN))) ?_))))
 refine ldW 0 tA37 rfl rfl rfl rfl (st (v := (aG (natL 0))) (ex_build_struct (zs := natL 0) (vs := natL 0) (pv := []) (places := [(0, 1), (1, 1)]) Tryz.zeroValue37 Tryz.underlying37 (fun w => by simp [Tryz.sizeOf9, Tryz.sizeOf35]) rfl (fill_numb_37_ )) (leB rfl) (st (ex_eql_agg (c := (decide (a = 0))) rfl rfl Tryz.eqGuardType37 (eqB_nat 9998 a 0)) (leB rfl) (asg rfl rfl (OkL.nil (OkQ.subF (sC 2 rfl (sN)) ?_)))))
 exact OkQ.then_ (OkC.ret (ret_one rfl (rd_tmp (v := (Value.bool (decide (a = 0)))) rfl) (fun w hw => ⟨rfl, hw.out⟩)))
theorem words_ok (v : Nat) (hv : nw v ≤ 1099511627776) (w : World)  : Calls Tryz.prog 93 #[(aG (natL v))] w (fun e w' => ∃ b, e = .returned (.slice (some ⟨b, 0, none⟩) (nw v) (padW v).length) ∧ Bel w.heap.size w w' ∧ w.heap.size ≤ b ∧ w'.heap[b]? = some (.cells (u32s (padW v)).toArray 67 (0, 0))) := by
 refine calls_of (args := [(aG (natL v))]) Tryz.func93 rfl rfl (leB rfl) (OkC.subF (sC 0 rfl (sN)) (q4 (bx (cs := natL v) rfl rfl rfl fun b1 => asg rfl rfl (q6 (sC 1 rfl (sC 2 rfl (sN))) ?_))))
 refine q4 (st (v := (pP b1 1)) (ex_fieldAddr rfl Tryz.underlying37 rfl Tryz.sizeOf9 rfl) (leB rfl) (ldO 0 (Value.string (bigB v)) tO9 rfl rfl rfl rfl (st (ex_eql_string (c := (decide (v < 18446744073709551616))) rfl rfl bigB_empty) (leB rfl) (OkL.nil (OkQ.subF (sC 1 rfl (sC 2 rfl (sC 8 rfl (sN)))) ?_)))))
 refine OkQ.then_ ?_
 refine OkC.cond rfl (fun hc0 => ?_) (fun hc0 => ?_)
 ·replace hc0 := of_decide_eq_true hc0
  refine q4 (st (v := (pP b1 0)) (ex_fieldAddr rfl Tryz.underlying37 rfl Tryz.sizeOf35 rfl) (leB rfl) (ldO 0 (vK .u64 (lowN v)) tO35 rfl rfl rfl rfl (OkL.retell (k := 10) (u := (vK .u64 v)) rfl (by rw [lowN_small hc0]) (st (ex_conv (c := ((v % 4294967296 : Nat) : Int)) rfl Tryz.underlying35 Tryz.underlying67 modN_u32) (leB rfl) (st (v := (pP b1 0)) (ex_fieldAddr rfl Tryz.underlying37 rfl Tryz.sizeOf35 rfl) (leB rfl) ?_)))))
  refine ldO 0 (vK .u64 (lowN v)) tO35 rfl rfl rfl rfl (OkL.retell (k := 13) (u := (vK .u64 v)) rfl (by rw [lowN_small hc0]) (st (ex_shr (s := 32) (c := ((v / 4294967296 : Nat) : Int)) rfl rfl rfl (by decide) (shrN (a := v) (s := 32))) (leB rfl) (st (ex_conv (c := ((v / 4294967296 : Nat) : Int)) rfl Tryz.underlying35 Tryz.underlying67 (convN_u32 (by omega))) (leB rfl) (OkL.openV (V := fun b2 => (Value.slice (some ⟨b2, 0, none⟩) 2 2)) (T := 67) (cs := u32s ([v % 4294967296, v / 4294967296])) (wt_none rfl) (op_buildSlice (cs := u32s ([v % 4294967296, v / 4294967296])) (pv := [(0, (vK .u32 (v % 4294967296))), (1, (vK .u32 (v / 4294967296)))]) Tryz.underlying162 Tryz.sizeOf67 Tryz.zeroValue67 (by decide) (by decide) rfl (by kernel_rfl)) rfl (leB rfl) fun b2 => cl Tryz.call95 (fun w hw => cut_ok _ 2 2 ([v % 4294967296, v / 4294967296]) (W32.cons (by omega) (W32.cons (by omega) (W32.nil))) (by simp) (by simp) (by simp; try omega) w (hw.get (i := 0) rfl)) rfl rfl rfl ?_))))
  refine asg rfl rfl (OkL.nil (OkQ.subF (sC 1 rfl (sC 2 rfl (sN))) (OkQ.then_ (OkC.ret (OkQ.then_ret ?_)))))
  have hpad : padW v = [v % 4294967296, v / 4294967296] := by simp [padW, hc0]
  have hnw : nw v = cutN [v % 4294967296, v / 4294967296] 2 := by rw [← nw_cut (padW_of hc0) (m := 2) (by simp), ← val_pad v, hpad]; simp [val]; congr 1; omega
  have hret : ∀ b : Nat, (Ending.returned (Value.slice (some ⟨b, 0, none⟩) (cutN ([v % 4294967296, v / 4294967296]) 2) 2)) = .returned (Value.slice (some ⟨b, 0, none⟩) (nw v) (padW v).length) := fun b => by rw [hnw, hpad]; rfl
  replace hret := hret b2
  have hcells : (some (Obj.cells (u32s ([v % 4294967296, v / 4294967296])).toArray 67 (0, 0))) = some (Obj.cells (u32s (padW v)).toArray 67 (0, 0)) := by rw [hpad]
  exact ret_one rfl (rd_tmp (v := (Value.slice (some ⟨b2, 0, none⟩) (cutN ([v % 4294967296, v / 4294967296]) 2) 2)) rfl) (fun w hw => ⟨b2, hret, hw.out, hw.fresh (i := 0) rfl, (hw.get (i := 0) rfl).trans hcells⟩)
 ·replace hc0 := of_decide_eq_false hc0
  refine OkC.skip (q2 (st (v := (pP b1 1)) (ex_fieldAddr rfl Tryz.underlying37 rfl Tryz.sizeOf9 rfl) (leB rfl) (ldO 0 (Value.string (bigB v)) tO9 rfl rfl rfl rfl (st (v := (vN ((bigB v).size))) (ex_len_string rfl Tryz.underlying9) (leB rfl) (OkL.retell (k := 20) (u := (vN (4 * nw v))) rfl (by rw [bigB_big hc0, strOf_size, bytesN_length]; rfl) ?_)))))
  refine st (ex_quo (c := (((4 * nw v) / 4 : Nat) : Int)) rfl rfl (by omega) (quoN_i64 (a := 4 * nw v) (b := 4) (by omega))) (leB rfl) (OkL.retell (k := 21) (u := (vN (nw v))) rfl (by rw [Nat.mul_div_cancel_left _ (by omega)]) (OkL.openV (V := fun b2 => (Value.slice (some ⟨b2, 0, none⟩) (nw v) (nw v))) (T := 67) (cs := u32s (List.replicate (nw v) 0)) (wt_none rfl) (op_make_u32 (m := nw v) (c := nw v) rfl rfl (by omega) (by omega)) rfl (leB rfl) fun b2 => asg rfl rfl (q6 (sC 1 rfl (sC 2 rfl (sC 3 rfl (sN)))) (q4 ?_))))
  refine mv rfl rfl (st (v := (vN (nw v))) (ex_len_slice rfl Tryz.underlying162) (leB rfl) (mv rfl rfl (OkL.nil (OkQ.subF (sC 1 rfl (sC 2 rfl (sC 3 rfl (sC 24 rfl (sC 25 rfl (sN)))))) (OkQ.then_ ?_)))))
  refine OkC.block (OkC.sub (F' := [(1, (pP b1 0)), (2, (Value.slice none 0 0)), (3, (Value.slice (some ⟨b2, 0, none⟩) (nw v) (nw v))), (24, (vN (nw v))), (25, (vI 0))]) (L' := [blk b2 67 (u32s (List.replicate (nw v) 0)), blk b1 37 (natL v)]) (sF rfl) (List.Sublist.refl _) ?_)
  refine OkC.loop2 (J := fun (i : Nat) (os : List Nat) => i ≤ nw v ∧ os.length = nw v ∧ os.take i = (wordsOf v).take i ∧ ∀ j, i ≤ j → os.getD j 0 = 0) (FI := fun (i : Nat) (os : List Nat) => [(1, (pP b1 0)), (2, (Value.slice none 0 0)), (3, (Value.slice (some ⟨b2, 0, none⟩) (nw v) (nw v))), (24, (vN (nw v))), (25, (vN i))]) (LI := fun (i : Nat) (os : List Nat) => [blk b2 67 (u32s os), blk b1 37 (natL v)]) (m := fun (i : Nat) (os : List Nat) => nw v - i) (fun i os hJ => ?_) 0 (List.replicate (nw v) 0) (⟨Nat.zero_le _, by simp, by simp, fun j _ => by simp [List.getD_eq_getElem?_getD, List.getElem?_replicate]; split <;> rfl⟩)
  replace hJ : i ≤ nw v ∧ os.length = nw v ∧ os.take i = (wordsOf v).take i ∧ ∀ j, i ≤ j → os.getD j 0 = 0 := hJ
  obtain ⟨hin, hl, ht, h0⟩ := hJ
  refine OkC.sub (F' := [(1, (pP b1 0)), (2, (Value.slice none 0 0)), (3, (Value.slice (some ⟨b2, 0, none⟩) (nw v) (nw v))), (24, (vN (nw v))), (25, (vN i))]) (L' := [blk b2 67 (u32s os), blk b1 37 (natL v)]) (sF rfl) (List.Sublist.refl _) (q4 (st (ex_lss (c := (decide (i < (nw v)))) rfl rfl (ltN (a := i) (b := nw v))) (leB rfl) (OkL.nil (q1 ?_))))
  refine OkC.cond rfl (fun hc1 => ?_) (fun hc1 => ?_)
  ·replace hc1 := of_decide_eq_true hc1
   refine OkC.skip (q1 (OkC.block (q4 (mv rfl rfl (asg rfl rfl ?_)))))
   refine q3 (sC 1 rfl (sC 2 rfl (sC 3 rfl (sC 24 rfl (sC 25 rfl (sC 4 rfl (sN))))))) (mv rfl rfl (OkL.nil (OkQ.then_ (OkC.block (OkC.sub (F' := [(1, (pP b1 0)), (2, (Value.slice none 0 0)), (3, (Value.slice (some ⟨b2, 0, none⟩) (nw v) (nw v))), (24, (vN (nw v))), (25, (vN i)), (4, (vN i)), (28, (vI 0))]) (L' := [blk b2 67 (u32s os), blk b1 37 (natL v)]) (sF rfl) (List.Sublist.refl _) ?_)))))
   refine OkC.loop2 (J := fun (k : Nat) (xs : List Nat) => k ≤ 4 ∧ xs = os.set i ((wordsOf v).getD i 0 % 256 ^ k)) (FI := fun (k : Nat) (xs : List Nat) => [(1, (pP b1 0)), (2, (Value.slice none 0 0)), (3, (Value.slice (some ⟨b2, 0, none⟩) (nw v) (nw v))), (24, (vN (nw v))), (25, (vN i)), (4, (vN i)), (28, (vN k))]) (LI := fun (k : Nat) (xs : List Nat) => [blk b2 67 (u32s xs), blk b1 37 (natL v)]) (m := fun (k : Nat) (xs : List Nat) => 4 - k) (fun k xs hJ => ?_) 0 os (⟨by omega, by rw [Nat.pow_zero, Nat.mod_one]; exact set_self (h0 i (Nat.le_refl _))⟩)
   replace hJ : k ≤ 4 ∧ xs = os.set i ((wordsOf v).getD i 0 % 256 ^ k) := hJ
   obtain ⟨hk, hxs⟩ := hJ
   refine OkC.sub (F' := [(1, (pP b1 0)), (2, (Value.slice none 0 0)), (3, (Value.slice (some ⟨b2, 0, none⟩) (nw v) (nw v))), (24, (vN (nw v))), (25, (vN i)), (4, (vN i)), (28, (vN k))]) (L' := [blk b2 67 (u32s xs), blk b1 37 (natL v)]) (sF rfl) (List.Sublist.refl _) (q4 (st (ex_lss (c := (decide (k < 4))) rfl rfl (ltN (a := k) (b := 4))) (leB rfl) (OkL.nil (q1 ?_))))
   refine OkC.cond rfl (fun hc2 => ?_) (fun hc2 => ?_)
   ·replace hc2 := of_decide_eq_true hc2
    refine OkC.skip (q1 (OkC.block (q4 (mv rfl rfl (asg rfl rfl ?_)))))
    refine OkL.nil (OkQ.subF (sC 1 rfl (sC 2 rfl (sC 3 rfl (sC 24 rfl (sC 25 rfl (sC 4 rfl (sC 28 rfl (sC 5 rfl (sN))))))))) (OkQ.then_ (rG [(0, true), (1, true), (2, true), (4, true), (5, true), (6, true), (7, true), (8, true), (9, true), (10, true), (11, true), (12, true), (13, true), (14, true), (3, false), (15, true), (16, true), (17, false)] (sl sr) (by kernel_rfl) (fun _ _ d _ _ h => by cases d <;> exact h) ?_)))
    have hi : i < nw v := hc1
    have hxi : xs.getD i 0 = (wordsOf v).getD i 0 % 256 ^ k := by rw [hxs]; simp [hl, hi]
    have hxl : xs.length = nw v := by rw [hxs]; simp [hl]
    have hby : (wordsOf v).getD i 0 / 256 ^ k % 256 < 256 := Nat.mod_lt _ (by omega)
    have hget : (bigB v)[4 * i + k]? = some (UInt8.ofNat ((wordsOf v).getD i 0 / 256 ^ k % 256)) := by rw [bigB_big hc0, strOf_get (by rw [bytesN_length]; show 4 * i + k < 4 * nw v; omega), bytesN_get _ _ _ hi hc2]
    have hw32 : xs.getD i 0 < 4294967296 := by rw [hxi]; exact Nat.lt_of_le_of_lt (Nat.mod_le _ _) ((words_w32 v).getD i)
    refine pM rfl rfl rfl (pM rfl rfl rfl (pE (v := (pP b2 i)) rfl (ex_indexAddr_slice (j := i) rfl rfl Tryz.underlying162 Tryz.sizeOf67 rfl (by omega) (by simp)) rfl (pE (v := (pP b1 1)) rfl (ex_fieldAddr rfl Tryz.underlying37 rfl Tryz.sizeOf9 rfl) rfl (pO' 0 (Value.string (bigB v)) tO9 rfl rfl rfl rfl rfl (pM rfl rfl rfl ?_)))))
    refine pE rfl (ex_mul (c := ((4 * i : Nat) : Int)) rfl rfl (mulN_i64 (a := 4) (b := i) (by omega))) rfl (pM rfl rfl rfl (pE rfl (ex_add (c := (((4 * i) + k : Nat) : Int)) rfl rfl (addN_i64 (a := 4 * i) (b := k) (by omega))) rfl (pE (v := (vK .u8 ((wordsOf v).getD i 0 / 256 ^ k % 256))) rfl (ex_index_str (j := 4 * i + k) (m := (wordsOf v).getD i 0 / 256 ^ k % 256) rfl rfl Tryz.underlying9 hget hby) rfl (pE rfl (ex_conv (c := (((wordsOf v).getD i 0 / 256 ^ k % 256 : Nat) : Int)) rfl Tryz.underlying5 Tryz.underlying67 (convN_u32 (by omega))) rfl (pM rfl rfl rfl ?_)))))
    refine pE rfl (ex_mul (c := ((8 * k : Nat) : Int)) rfl rfl (mulN_i64 (a := 8) (b := k) (by omega))) rfl (pE (v := (vK .u32 ((wordsOf v).getD i 0 / 256 ^ k % 256 * 2 ^ (8 * k)))) rfl (ex_shl (s := 8 * k) rfl rfl rfl (show 8 * k ≤ 32 by omega) (shlN_u32 (byte_lt hc2))) rfl (OkE.imp rfl (st (ex_load_one (i := 0) (v := (vK .u32 (xs.getD i 0))) rfl rfl Tryz.isAgg67 (u32s_get (xs := xs) (j := i) (by omega))) (leB rfl) (OkE.back (sl sr) (pE rfl (ex_or (c := (((wordsOf v).getD i 0 % 256 ^ (k + 1) : Nat) : Int)) rfl rfl (orN_u32 hw32 (byte_lt hc2) (byte_step hxi))) rfl ?_)))))
    refine pE (v := (pP b2 i)) rfl (ex_indexAddr_slice (j := i) rfl rfl Tryz.underlying162 Tryz.sizeOf67 rfl (by omega) (by simp)) rfl (OkE.imp rfl (OkL.store' (i := 0) (off := i) (vs := [(vK .u32 ((wordsOf v).getD i 0 % 256 ^ (k + 1)))]) (cs' := u32s (xs.set i ((wordsOf v).getD i 0 % 256 ^ (k + 1)))) (L' := [blk b2 67 (u32s (xs.set i ((wordsOf v).getD i 0 % 256 ^ (k + 1)))), blk b1 37 (natL v)]) (wt_none rfl) rfl rfl rfl rfl rfl Tryz.sizeOf67 rfl (ble_row (u32s_length _) (by omega)) (u32s_set (by omega)) rfl (OkE.back (sl sr) (OkE.nil (OkQ.subF (sC 1 rfl (sC 2 rfl (sC 3 rfl (sC 24 rfl (sC 25 rfl (sC 4 rfl (sC 28 rfl (sN)))))))) ?_)))))
    refine OkQ.in_normal (OkQ.then_ (OkC.region (st (ex_add (c := ((k + 1 : Nat) : Int)) rfl rfl (addN_i64 (a := k) (b := 1) (by omega))) (leB rfl) (mv rfl rfl (OkL.nil ?_)))))
    exact OkQ.subF (sC 1 rfl (sC 2 rfl (sC 3 rfl (sC 24 rfl (sC 25 rfl (sC 4 rfl (sC 28 rfl (sN)))))))) (OkQ.round2 (k + 1) (xs.set i ((wordsOf v).getD i 0 % 256 ^ (k + 1))) (⟨by omega, by rw [hxs, List.set_set]⟩) (by omega) (sS rfl (sS rfl (sS rfl (sS rfl (sS rfl (sS rfl (sS rfl (sN)))))))) sr)
   ·replace hc2 := of_decide_eq_false hc2
    refine OkC.exit (OkQ.then_exit (OkQ.round2_exit (OkQ.in_exit (OkQ.in_normal (OkQ.then_ ?_)))))
    refine OkC.region (st (ex_add (c := ((i + 1 : Nat) : Int)) rfl rfl (addN_i64 (a := i) (b := 1) (by omega))) (leB rfl) (mv rfl rfl (OkL.nil (OkQ.subF (sC 1 rfl (sC 2 rfl (sC 3 rfl (sC 24 rfl (sC 25 rfl (sC 4 rfl (sC 28 rfl (sN)))))))) ?_))))
    have hst := words_step (ws := wordsOf v) (xs := xs) hl rfl hc1 ht h0 (by rw [hxs, show k = 4 by omega]; congr 1; exact Nat.mod_eq_of_lt ((words_w32 v).getD i))
    exact OkQ.round2 (i + 1) xs (⟨by omega, hst.1, hst.2.1, hst.2.2⟩) (by omega) (sS rfl (sS rfl (sS rfl (sS rfl (sS rfl (sN)))))) sr
  ·replace hc1 := of_decide_eq_false hc1
   refine OkC.exit (OkQ.then_exit (OkQ.round2_exit (OkQ.in_exit (q2 (mv rfl rfl ?_)))))
   refine asg rfl rfl (OkL.nil (OkQ.subF (sC 1 rfl (sC 2 rfl (sC 3 rfl (sC 24 rfl (sC 25 rfl (sN)))))) (OkQ.then_ (OkC.ret ?_))))
   have hpad : padW v = wordsOf v := by simp [padW, hc0]
   have hos : os = wordsOf v := row_done hl rfl hc1 ht
   have hret : ∀ b : Nat, (Ending.returned (Value.slice (some ⟨b, 0, none⟩) (nw v) (nw v))) = .returned (Value.slice (some ⟨b, 0, none⟩) (nw v) (padW v).length) := fun b => by rw [hpad]; rfl
   replace hret := hret b2
   have hcells : (some (Obj.cells (u32s os).toArray 67 (0, 0))) = some (Obj.cells (u32s (padW v)).toArray 67 (0, 0)) := by rw [hpad, hos]
   exact ret_one rfl (rd_tmp (v := (Value.slice (some ⟨b2, 0, none⟩) (nw v) (nw v))) rfl) (fun w hw => ⟨b2, hret, hw.out, hw.fresh (i := 0) rfl, (hw.get (i := 0) rfl).trans hcells⟩)
end
section
set_option maxRecDepth 100000
theorem of_ok (b m c : Nat) (bs : List Nat) (hbs : W32 bs) (hm : m ≤ bs.length) (hc : m ≤ c) (hL : c < 4398046511104) (w : World) (hb : w.heap[b]? = some (.cells (u32s bs).toArray 67 (0, 0))) : Calls Tryz.prog 114 #[(Value.slice (some ⟨b, 0, none⟩) m c)] w (Gives w (aG (natL (val (bs.take m))))) := by
 have hle := cutN_le bs m
 have hval := val_cutN bs m
 have hwd := words_cut hbs hm
 have hnw := nw_cut hbs hm
 generalize hK : cutN bs m = K at *
 refine calls_of (args := [(Value.slice (some ⟨b, 0, none⟩) m c)]) Tryz.func114 rfl rfl (leB rfl) (OkC.subF (sC 0 rfl (sN)) (q4 (al tZ37 rfl fun b1 => OkL.nil (q2 ?_))))
 refine mv rfl rfl (cl Tryz.call95 (fun w hw => cut_ok _ m c bs hbs (by omega) (by omega) (by omega) w (hw.old (by simp) hb)) rfl rfl rfl (OkL.retell (k := 10) (u := (Value.slice (some ⟨b, 0, none⟩) K c)) rfl (by rw [hK]) (asg rfl rfl (q6 (sC 0 rfl (sC 2 rfl (sN))) (q4 ?_)))))
 refine mv rfl rfl (st (v := (vN K)) (ex_len_slice rfl Tryz.underlying162) (leB rfl) (st (ex_leq (c := (decide (K ≤ 2))) rfl rfl (leN (a := K) (b := 2))) (leB rfl) (OkL.nil (OkQ.subF (sC 0 rfl (sC 2 rfl (sC 13 rfl (sN)))) (OkQ.then_ ?_)))))
 refine OkC.cond rfl (fun hc0 => ?_) (fun hc0 => ?_)
 ·replace hc0 := of_decide_eq_true hc0
  refine q4 (asg rfl rfl (OkL.nil (q1 (q4 (mv rfl rfl ?_)))))
  refine st (v := (vN K)) (ex_len_slice rfl Tryz.underlying162) (leB rfl) (mv rfl rfl (OkL.nil (OkQ.then_ (OkC.block (OkC.sub (F' := [(0, (Value.slice (some ⟨b, 0, none⟩) K c)), (2, (pP b1 0)), (14, (Value.slice (some ⟨b, 0, none⟩) K c)), (15, (vN K)), (16, (vI 0)), (3, (Value.int .u64 (0 : Int)))]) (L' := [blk b1 37 (natL 0)]) (sF rfl) (List.Sublist.refl _) ?_)))))
  refine OkC.loop2 (J := fun (i : Nat) (n : Nat) => i ≤ K ∧ n = val (bs.take i)) (FI := fun (i : Nat) (n : Nat) => [(0, (Value.slice (some ⟨b, 0, none⟩) K c)), (2, (pP b1 0)), (14, (Value.slice (some ⟨b, 0, none⟩) K c)), (15, (vN K)), (16, (vN i)), (3, (vK .u64 n))]) (LI := fun (i : Nat) (n : Nat) => [blk b1 37 (natL 0)]) (m := fun (i : Nat) (n : Nat) => K - i) (fun i n hJ => ?_) 0 0 (⟨Nat.zero_le _, by simp [val]⟩)
  replace hJ : i ≤ K ∧ n = val (bs.take i) := hJ
  obtain ⟨hi, hn⟩ := hJ
  refine OkC.sub (F' := [(0, (Value.slice (some ⟨b, 0, none⟩) K c)), (2, (pP b1 0)), (14, (Value.slice (some ⟨b, 0, none⟩) K c)), (15, (vN K)), (16, (vN i)), (3, (vK .u64 n))]) (L' := [blk b1 37 (natL 0)]) (sF rfl) (List.Sublist.refl _) (q4 (st (ex_lss (c := (decide (i < K))) rfl rfl (ltN (a := i) (b := K))) (leB rfl) (OkL.nil (q1 ?_))))
  refine OkC.cond rfl (fun hc1 => ?_) (fun hc1 => ?_)
  ·replace hc1 := of_decide_eq_true hc1
   refine OkC.skip (q1 (OkC.block (q4 (mv rfl rfl (st (v := (pP b i)) (ex_indexAddr_slice (j := i) rfl rfl Tryz.underlying162 Tryz.sizeOf67 rfl (by omega) (by simp)) (leB rfl) ?_)))))
   have hx1 : bs.getD i 0 < 4294967296 := W32.getD hbs i
   refine st (ex_load_one_at (v := (vK .u32 (bs.getD i 0))) rfl (fun w' hw => CA.at0 (hw.oldCA (by simp) (ca_blk hb)) (u32s_get (xs := bs) (j := i) (by omega))) Tryz.isAgg67) (leB rfl) (asg rfl rfl (asg rfl rfl (OkL.nil (OkQ.subF (sC 0 rfl (sC 2 rfl (sC 14 rfl (sC 15 rfl (sC 16 rfl (sC 3 rfl (sC 4 rfl (sC 5 rfl (sN))))))))) (OkQ.then_ ?_)))))
   refine OkC.region (mv rfl rfl (mv rfl rfl (st (ex_conv (c := ((bs.getD i 0 : Nat) : Int)) rfl Tryz.underlying67 Tryz.underlying35 (convN_u64 (by omega))) (leB rfl) (mv rfl rfl ?_))))
   have hiK : i < K := hc1
   have hi2 : i < 2 := by omega
   have hn2 : n < 4294967296 ^ i := by rw [hn]; exact Nat.lt_of_lt_of_le (val_lt (hbs.take i)) (Nat.pow_le_pow_right (by omega) (by simp; omega))
   have hsh := shift_lt (i := i) (hbs.getD i) hi2
   have hn3 : n < 18446744073709551616 := small_pow hn2 hi2
   refine st (ex_mul (c := ((32 * i : Nat) : Int)) rfl rfl (mulN_i64 (a := 32) (b := i) (by omega))) (leB rfl) (st (v := (vK .u64 (bs.getD i 0 * 2 ^ (32 * i)))) (ex_shl (s := 32 * i) rfl rfl rfl (show 32 * i ≤ 64 by omega) (shlN_u64 hsh)) (leB rfl) (st (ex_or (c := ((n + bs.getD i 0 * 2 ^ (32 * i) : Nat) : Int)) rfl rfl (orN_u64 hn3 hsh (or_add (by rw [← pow32]; exact hn2)))) (leB rfl) (asg rfl rfl (OkL.nil (OkQ.subF (sC 0 rfl (sC 2 rfl (sC 14 rfl (sC 15 rfl (sC 16 rfl (sC 3 rfl (sN))))))) ?_)))))
   refine OkQ.in_normal (OkQ.then_ (OkC.region (st (ex_add (c := ((i + 1 : Nat) : Int)) rfl rfl (addN_i64 (a := i) (b := 1) (by omega))) (leB rfl) (mv rfl rfl (OkL.nil ?_)))))
   exact OkQ.subF (sC 0 rfl (sC 2 rfl (sC 14 rfl (sC 15 rfl (sC 16 rfl (sC 3 rfl (sN))))))) (OkQ.round2 (i + 1) (n + bs.getD i 0 * 2 ^ (32 * i)) (⟨by omega, by rw [val_take_succ, ← hn, pow32]⟩) (by omega) (sS rfl (sS rfl (sS rfl (sS rfl (sS rfl (sS rfl (sN))))))) sr)
  ·replace hc1 := of_decide_eq_false hc1
   refine OkC.exit (OkQ.then_exit (OkQ.round2_exit (OkQ.in_exit (q2 (mv rfl rfl ?_)))))
   have hnn : n = val (bs.take K) := by rw [hn, show i = K by omega]
   have hv2 : val (bs.take m) < 18446744073709551616 := by rw [← hval]; exact Nat.lt_of_lt_of_le (val_lt (hbs.take K)) (by rw [List.length_take]; exact Nat.le_trans (Nat.pow_le_pow_right (n := 4294967296) (by omega) (show min K bs.length ≤ 2 by omega)) (by decide))
   refine st (v := (aG ([(vK .u64 n), (Value.string (bigB 0))]))) (ex_build_struct (zs := natL 0) (vs := [(vK .u64 n), (Value.string (bigB 0))]) (pv := [(0, (vK .u64 n))]) (places := [(0, 1), (1, 1)]) Tryz.zeroValue37 Tryz.underlying37 (fun w => by simp [Tryz.sizeOf9, Tryz.sizeOf35]) rfl rfl) (leB rfl) (OkL.retell (k := 30) (u := (aG (natL (val (bs.take m))))) rfl (by rw [natL_small hv2, ← hval, ← hnn]; rfl) (stW0 rfl rfl rfl Tryz.sizeOf37 rfl rfl (OkL.nil (OkQ.subF (sC 0 rfl (sC 2 rfl (sC 14 rfl (sC 15 rfl (sC 16 rfl (sC 3 rfl (sN))))))) (OkQ.then_ ?_)))))
   exact OkC.ret (OkQ.then_ret (ret_one rfl (rd_agg (i := 0) (cs := natL (val (bs.take m))) rfl rfl Tryz.isAgg37 Tryz.sizeOf37 rfl) (fun w hw => ⟨rfl, hw.out⟩)))
 ·replace hc0 := of_decide_eq_false hc0
  refine OkC.skip (q2 (mv rfl rfl (st (v := (vN K)) (ex_len_slice rfl Tryz.underlying162) (leB rfl) (st (ex_mul (c := ((4 * K : Nat) : Int)) rfl rfl (mulN_i64 (a := 4) (b := K) (by omega))) (leB rfl) (OkL.openV (V := fun b2 => (Value.slice (some ⟨b2, 0, none⟩) 0 (4 * K))) (T := 5) (cs := u8s (List.replicate (4 * K) 0)) (wt_none rfl) (op_make_u8 (m := 0) (c := 4 * K) rfl rfl (by omega) (by omega)) rfl (leB rfl) fun b2 => ?_)))))
  refine asg rfl rfl (q6 (sC 0 rfl (sC 2 rfl (sC 6 rfl (sN)))) (q4 (mv rfl rfl (st (v := (vN K)) (ex_len_slice rfl Tryz.underlying162) (leB rfl) (mv rfl rfl ?_)))))
  refine OkL.nil (OkQ.then_ (OkC.block (OkC.sub (F' := [(2, (pP b1 0)), (35, (Value.slice (some ⟨b, 0, none⟩) K c)), (36, (vN K)), (37, (vI 0)), (6, (Value.slice (some ⟨b2, 0, none⟩) (4 * 0) (4 * K)))]) (L' := [blk b2 5 (u8s (List.replicate (4 * K) 0)), blk b1 37 (natL 0)]) (sF rfl) (List.Sublist.refl _) ?_)))
  refine OkC.loop2 (J := fun (i : Nat) (bz : List Nat) => i ≤ K ∧ bz = bytesN (bs.take i) ++ List.replicate (4 * (K - i)) 0) (FI := fun (i : Nat) (bz : List Nat) => [(2, (pP b1 0)), (35, (Value.slice (some ⟨b, 0, none⟩) K c)), (36, (vN K)), (37, (vN i)), (6, (Value.slice (some ⟨b2, 0, none⟩) (4 * i) (4 * K)))]) (LI := fun (i : Nat) (bz : List Nat) => [blk b2 5 (u8s bz), blk b1 37 (natL 0)]) (m := fun (i : Nat) (bz : List Nat) => K - i) (fun i bz hJ => ?_) 0 (List.replicate (4 * K) 0) (⟨Nat.zero_le _, by simp [bytesN]⟩)
  replace hJ : i ≤ K ∧ bz = bytesN (bs.take i) ++ List.replicate (4 * (K - i)) 0 := hJ
  obtain ⟨hi, hz⟩ := hJ
  refine OkC.sub (F' := [(2, (pP b1 0)), (35, (Value.slice (some ⟨b, 0, none⟩) K c)), (36, (vN K)), (37, (vN i)), (6, (Value.slice (some ⟨b2, 0, none⟩) (4 * i) (4 * K)))]) (L' := [blk b2 5 (u8s bz), blk b1 37 (natL 0)]) (sF rfl) (List.Sublist.refl _) (q4 (st (ex_lss (c := (decide (i < K))) rfl rfl (ltN (a := i) (b := K))) (leB rfl) (OkL.nil (q1 ?_))))
  refine OkC.cond rfl (fun hc2 => ?_) (fun hc2 => ?_)
  ·replace hc2 := of_decide_eq_true hc2
   refine OkC.skip (q1 (OkC.block (q4 (st (v := (pP b i)) (ex_indexAddr_slice (j := i) rfl rfl Tryz.underlying162 Tryz.sizeOf67 rfl (by omega) (by simp)) (leB rfl) ?_))))
   have hx2 : bs.getD i 0 < 4294967296 := W32.getD hbs i
   refine st (ex_load_one_at (v := (vK .u32 (bs.getD i 0))) rfl (fun w' hw => CA.at0 (hw.oldCA (by simp) (ca_blk hb)) (u32s_get (xs := bs) (j := i) (by omega))) Tryz.isAgg67) (leB rfl) (asg rfl rfl (OkL.nil (OkQ.subF (sC 2 rfl (sC 35 rfl (sC 36 rfl (sC 37 rfl (sC 6 rfl (sC 8 rfl (sN))))))) (OkQ.then_ (OkC.region ?_)))))
   refine mv rfl rfl (mv rfl rfl (st (ex_conv (c := (((bs.getD i 0) % 256 : Nat) : Int)) rfl Tryz.underlying67 Tryz.underlying5 modN_u8) (leB rfl) (mv rfl rfl (st (ex_shr (s := 8) (c := (((bs.getD i 0) / 256 : Nat) : Int)) rfl rfl rfl (by decide) (shrN (a := bs.getD i 0) (s := 8))) (leB rfl) (st (ex_conv (c := ((((bs.getD i 0) / 256) % 256 : Nat) : Int)) rfl Tryz.underlying67 Tryz.underlying5 modN_u8) (leB rfl) ?_)))))
   refine mv rfl rfl (st (ex_shr (s := 16) (c := (((bs.getD i 0) / 65536 : Nat) : Int)) rfl rfl rfl (by decide) (shrN (a := bs.getD i 0) (s := 16))) (leB rfl) (st (ex_conv (c := ((((bs.getD i 0) / 65536) % 256 : Nat) : Int)) rfl Tryz.underlying67 Tryz.underlying5 modN_u8) (leB rfl) (mv rfl rfl (st (ex_shr (s := 24) (c := (((bs.getD i 0) / 16777216 : Nat) : Int)) rfl rfl rfl (by decide) (shrN (a := bs.getD i 0) (s := 24))) (leB rfl) (st (ex_conv (c := ((((bs.getD i 0) / 16777216) % 256 : Nat) : Int)) rfl Tryz.underlying67 Tryz.underlying5 modN_u8) (leB rfl) ?_)))))
   refine OkL.openV (V := fun b3 => (Value.slice (some ⟨b3, 0, none⟩) 4 4)) (T := 5) (cs := u8s ([(bs.getD i 0) % 256, ((bs.getD i 0) / 256) % 256, ((bs.getD i 0) / 65536) % 256, ((bs.getD i 0) / 16777216) % 256])) (wt_none rfl) (op_buildSlice (cs := u8s ([(bs.getD i 0) % 256, ((bs.getD i 0) / 256) % 256, ((bs.getD i 0) / 65536) % 256, ((bs.getD i 0) / 16777216) % 256])) (pv := [(0, (vK .u8 ((bs.getD i 0) % 256))), (1, (vK .u8 (((bs.getD i 0) / 256) % 256))), (2, (vK .u8 (((bs.getD i 0) / 65536) % 256))), (3, (vK .u8 (((bs.getD i 0) / 16777216) % 256)))]) Tryz.underlying22 Tryz.sizeOf5 Tryz.zeroValue5 (by decide) (by decide) rfl (by kernel_rfl)) rfl (leB rfl) fun b3 => ?_
   obtain ⟨bz2, hz2, hlay⟩ : ∃ bz2, bz2 = bytesN (bs.take (i + 1)) ++ List.replicate (4 * (K - (i + 1))) 0 ∧ lay (u8s bz) (4 * i) (u8s ([(bs.getD i 0) % 256, ((bs.getD i 0) / 256) % 256, ((bs.getD i 0) / 65536) % 256, ((bs.getD i 0) / 16777216) % 256])) = u8s bz2 := ⟨_, rfl, by rw [hz]; exact bytes_step hc2 (by omega)⟩
   refine OkL.append_u8 (i := 1) (j := 0) (m := 4 * i) (c := 4 * K) (k := 4) (cs' := u8s bz2) (L' := [blk b3 5 (u8s ([(bs.getD i 0) % 256, ((bs.getD i 0) / 256) % 256, ((bs.getD i 0) / 65536) % 256, ((bs.getD i 0) / 16777216) % 256])), blk b2 5 (u8s bz2), blk b1 37 (natL 0)]) rfl (wt_none rfl) rfl rfl rfl rfl rfl rfl (by omega) (by rw [u8s_length, hz]; simp [bytesN_length]; omega) hlay rfl (leB rfl) (asg rfl rfl (OkL.nil (OkQ.subF (sC 2 rfl (sC 35 rfl (sC 36 rfl (sC 37 rfl (sC 6 rfl (sN)))))) (OkQ.in_normal (OkQ.then_ ?_)))))
   exact OkC.region (st (ex_add (c := ((i + 1 : Nat) : Int)) rfl rfl (addN_i64 (a := i) (b := 1) (by omega))) (leB rfl) (mv rfl rfl (OkL.nil (OkQ.subF (sC 2 rfl (sC 35 rfl (sC 36 rfl (sC 37 rfl (sC 6 rfl (sN)))))) (OkQ.round2 (i + 1) bz2 (⟨by omega, hz2⟩) (by omega) (sS rfl (sS rfl (sS rfl (sS rfl (sS rfl (sN)))))) (sl sr))))))
  ·replace hc2 := of_decide_eq_false hc2
   refine OkC.exit (OkQ.then_exit (OkQ.round2_exit (OkQ.in_exit (q2 (mv rfl rfl ?_)))))
   have hbl : bz.length = 4 * i := by rw [hz, List.length_append, bytesN_length, List.length_take, List.length_replicate]; omega
   have htk : (u8s bz).take (4 * i) = u8s bz := List.take_of_length_le (by rw [u8s_length]; omega)
   refine st (v := (Value.string (strOf bz))) (ex_bytes_string (i := 0) (m := 4 * i) (ns := bz) rfl rfl htk hbl) (leB rfl) ?_
   have hv3 : ¬ val (bs.take m) < 18446744073709551616 := fun h => by have := nw_small h; omega
   have hbz : bz = bytesN (bs.take K) := by rw [hz, show i = K by omega]; simp
   refine st (v := (aG ([(vK .u64 (lowN 0)), (Value.string (strOf bz))]))) (ex_build_struct (zs := natL 0) (vs := [(vK .u64 (lowN 0)), (Value.string (strOf bz))]) (pv := [(1, (Value.string (strOf bz)))]) (places := [(0, 1), (1, 1)]) Tryz.zeroValue37 Tryz.underlying37 (fun w => by simp [Tryz.sizeOf9, Tryz.sizeOf35]) rfl rfl) (leB rfl) (OkL.retell (k := 58) (u := (aG (natL (val (bs.take m))))) rfl (by rw [natL_big hv3, hwd, ← hbz]; rfl) (stW1 rfl rfl rfl Tryz.sizeOf37 rfl rfl (OkL.nil (OkQ.subF (sC 2 rfl (sC 35 rfl (sC 36 rfl (sC 37 rfl (sC 6 rfl (sN)))))) (OkQ.then_ ?_)))))
   exact OkC.ret (ret_one rfl (rd_agg (i := 1) (cs := natL (val (bs.take m))) rfl rfl Tryz.isAgg37 Tryz.sizeOf37 rfl) (fun w hw => ⟨rfl, hw.out⟩))
end
end Go.Proofs.YtmjbiebmgffleaaGreatDoor
