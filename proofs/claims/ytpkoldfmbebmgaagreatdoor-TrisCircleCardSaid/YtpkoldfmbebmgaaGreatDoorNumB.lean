/- Walks, printed by gen.py. -/
import Derived.Test.YtpkoldfmbebmgaaGreatDoorNumA
import Derived.Test.YtpkoldfmbebmgaaGreatDoorEq
namespace Go.Proofs.YtpkoldfmbebmgaaGreatDoor
open Go Go.RowKit
set_option maxRecDepth 100000
set_option linter.unusedVariables false
set_option linter.unusedSimpArgs false

theorem of64_ok (n : Nat) (hn : n < 18446744073709551616) (w : World)  : Calls Tryz.prog 118 #[(vK .u64 n)] w (Gives w (aG (natL n))) := by
  refine calls_of (args := [(vK .u64 n)]) Tryz.func118 rfl rfl (leB rfl) ?_
  refine OkC.subF (sC 0 rfl (sN)) ?_
  refine q4 ?_
  refine OkL.open_ (T := 30) (cs := natL 0) (wt_none rfl) (op_alloc (cs := natL 0) Tryz.zeroValue30 rfl) rfl (leB rfl) ?_; intro b1
  refine OkL.nil ?_
  refine q2 ?_
  refine st (ex_move rfl) (leB rfl) ?_
  refine st (v := (aG ([(vK .u64 n), (Value.string (bigB 0))]))) (ex_build_struct (zs := natL 0) (vs := [(vK .u64 n), (Value.string (bigB 0))]) (pv := [(0, (vK .u64 n))]) (places := [(0, 1), (1, 1)]) Tryz.zeroValue30 Tryz.underlying30 (fun w => by simp [Tryz.sizeOf9, Tryz.sizeOf28]) rfl rfl) (leB rfl) ?_
  refine OkL.retell (k := 4) (u := (aG (natL n))) rfl (by rw [natL_small hn]; rfl) ?_
  refine OkL.store' (i := 0) (off := 0) (vs := natL n) (cs' := natL n) (L' := [blk b1 30 (natL n)]) (wt_none rfl) rfl rfl rfl rfl rfl Tryz.sizeOf30 rfl rfl rfl rfl ?_
  refine OkL.nil ?_
  refine OkQ.subF (sC 2 rfl (sN)) ?_
  refine OkQ.then_ ?_
  refine OkC.ret ?_
  exact ret_one rfl (rd_agg (i := 0) (cs := natL n) rfl rfl Tryz.isAgg30 Tryz.sizeOf30 rfl) (fun w hw => ⟨rfl, hw.out⟩)

theorem fill_numb_30_  : Instr.fill ([(0, 1), (1, 1)].toArray[·]?) (natL 0).toArray [] = some (natL 0).toArray := by kernel_rfl
theorem zero_ok (a : Nat) (w : World)  : Calls Tryz.prog 154 #[(aG (natL a))] w (Gives w (Value.bool (decide (a = 0)))) := by
  refine calls_of (args := [(aG (natL a))]) Tryz.func154 rfl rfl (leB rfl) ?_
  refine OkC.subF (sC 0 rfl (sN)) ?_
  refine q4 ?_
  refine OkL.open_ (T := 30) (cs := natL a) (wt_none rfl) (op_box (cs := natL a) rfl rfl) rfl (leB rfl) ?_; intro b1
  refine st (ex_assign rfl) (leB rfl) ?_
  refine q3 (sC 1 rfl (sC 2 rfl (sN))) ?_
  refine st (ex_load_agg (i := 0) (vs := natL a) rfl rfl Tryz.isAgg30 Tryz.sizeOf30 rfl rfl) (leB rfl) ?_
  refine st (v := (aG (natL 0))) (ex_build_struct (zs := natL 0) (vs := natL 0) (pv := []) (places := [(0, 1), (1, 1)]) Tryz.zeroValue30 Tryz.underlying30 (fun w => by simp [Tryz.sizeOf9, Tryz.sizeOf28]) rfl (fill_numb_30_ )) (leB rfl) ?_
  refine st (ex_eql_agg (c := (decide (a = 0))) rfl rfl Tryz.eqGuardType30 (eqB_nat 9998 a 0)) (leB rfl) ?_
  refine st (ex_assign rfl) (leB rfl) ?_
  refine OkL.nil ?_
  refine OkQ.subF (sC 2 rfl (sN)) ?_
  refine OkQ.then_ ?_
  refine OkC.ret ?_
  exact ret_one rfl (rd_tmp (v := (Value.bool (decide (a = 0)))) rfl) (fun w hw => ⟨rfl, hw.out⟩)

theorem words_ok (v : Nat) (hv : nw v ≤ 1099511627776) (w : World)  : Calls Tryz.prog 121 #[(aG (natL v))] w (fun e w' => ∃ b, e = .returned (.slice (some ⟨b, 0, none⟩) (nw v) (padW v).length) ∧ Below w.heap.size w w' ∧ w.heap.size ≤ b ∧ w'.heap[b]? = some (.cells (u32s (padW v)).toArray 22 (0, 0))) := by
  refine calls_of (args := [(aG (natL v))]) Tryz.func121 rfl rfl (leB rfl) ?_
  refine OkC.subF (sC 0 rfl (sN)) ?_
  refine q4 ?_
  refine OkL.open_ (T := 30) (cs := natL v) (wt_none rfl) (op_box (cs := natL v) rfl rfl) rfl (leB rfl) ?_; intro b1
  refine st (ex_assign rfl) (leB rfl) ?_
  refine q6 (sC 1 rfl (sC 2 rfl (sN))) ?_
  refine q4 ?_
  refine st (v := (pP b1 1)) (ex_fieldAddr rfl Tryz.underlying30 rfl Tryz.sizeOf9 rfl) (leB rfl) ?_
  refine st (ex_load_one (i := 0) (v := (Value.string (bigB v))) rfl rfl Tryz.isAgg9 rfl) (leB rfl) ?_
  refine st (ex_eql_string (c := (decide (v < 18446744073709551616))) rfl rfl bigB_empty) (leB rfl) ?_
  refine OkL.nil ?_
  refine OkQ.subF (sC 1 rfl (sC 2 rfl (sC 8 rfl (sN)))) ?_
  refine OkQ.then_ ?_
  refine OkC.cond rfl (fun hc0 => ?_) (fun hc0 => ?_)
  · replace hc0 := of_decide_eq_true hc0
    refine q4 ?_
    refine st (v := (pP b1 0)) (ex_fieldAddr rfl Tryz.underlying30 rfl Tryz.sizeOf28 rfl) (leB rfl) ?_
    refine st (ex_load_one (i := 0) (v := (vK .u64 (lowN v))) rfl rfl Tryz.isAgg28 rfl) (leB rfl) ?_
    refine OkL.retell (k := 10) (u := (vK .u64 v)) rfl (by rw [lowN_small hc0]) ?_
    refine st (ex_conv (c := ((v % 4294967296 : Nat) : Int)) rfl Tryz.underlying28 Tryz.underlying22 modN_u32) (leB rfl) ?_
    refine st (v := (pP b1 0)) (ex_fieldAddr rfl Tryz.underlying30 rfl Tryz.sizeOf28 rfl) (leB rfl) ?_
    refine st (ex_load_one (i := 0) (v := (vK .u64 (lowN v))) rfl rfl Tryz.isAgg28 rfl) (leB rfl) ?_
    refine OkL.retell (k := 13) (u := (vK .u64 v)) rfl (by rw [lowN_small hc0]) ?_
    refine st (ex_shr (s := 32) (c := ((v / 4294967296 : Nat) : Int)) rfl rfl rfl (by decide) (shrN (a := v) (s := 32))) (leB rfl) ?_
    refine st (ex_conv (c := ((v / 4294967296 : Nat) : Int)) rfl Tryz.underlying28 Tryz.underlying22 (convN_u32 (by omega))) (leB rfl) ?_
    refine OkL.openV (V := fun b2 => (Value.slice (some ⟨b2, 0, none⟩) 2 2)) (T := 22) (cs := u32s ([v % 4294967296, v / 4294967296])) (wt_none rfl) (op_buildSlice (cs := u32s ([v % 4294967296, v / 4294967296])) (pv := [(0, (vK .u32 (v % 4294967296))), (1, (vK .u32 (v / 4294967296)))]) Tryz.underlying161 Tryz.sizeOf22 Tryz.zeroValue22 (by decide) (by decide) rfl (by kernel_rfl)) rfl (leB rfl) ?_; intro b2
    refine OkL.call (v := (Value.slice (some ⟨b2, 0, none⟩) (cutN ([v % 4294967296, v / 4294967296]) 2) 2)) (wt_none rfl) (op_call0 (args := [(Value.slice (some ⟨b2, 0, none⟩) 2 2)]) rfl rfl Tryz.call147) (fun w hw => cut_ok _ 2 2 ([v % 4294967296, v / 4294967296]) (W32.cons (by omega) (W32.cons (by omega) (W32.nil))) (by simp) (by simp) (by simp; try omega) w (hw.get (i := 0) rfl)) rfl (leB rfl) ?_
    refine st (ex_assign rfl) (leB rfl) ?_
    refine OkL.nil ?_
    refine OkQ.subF (sC 1 rfl (sC 2 rfl (sN))) ?_
    refine OkQ.then_ ?_
    refine OkC.ret ?_
    refine OkQ.then_ret ?_
    have hpad : padW v = [v % 4294967296, v / 4294967296] := by simp [padW, hc0]
    have hnw : nw v = cutN [v % 4294967296, v / 4294967296] 2 := by rw [← nw_cut (padW_of hc0) (m := 2) (by simp), ← val_pad v, hpad]; simp [val]; congr 1; omega
    have hret : ∀ b : Nat, (Ending.returned (Value.slice (some ⟨b, 0, none⟩) (cutN ([v % 4294967296, v / 4294967296]) 2) 2)) = .returned (Value.slice (some ⟨b, 0, none⟩) (nw v) (padW v).length) := fun b => by rw [hnw, hpad]; rfl
    replace hret := hret b2
    have hcells : (some (Obj.cells (u32s ([v % 4294967296, v / 4294967296])).toArray 22 (0, 0))) = some (Obj.cells (u32s (padW v)).toArray 22 (0, 0)) := by rw [hpad]
    exact ret_one rfl (rd_tmp (v := (Value.slice (some ⟨b2, 0, none⟩) (cutN ([v % 4294967296, v / 4294967296]) 2) 2)) rfl) (fun w hw => ⟨b2, hret, hw.out, hw.fresh (i := 0) rfl, (hw.get (i := 0) rfl).trans hcells⟩)
  · replace hc0 := of_decide_eq_false hc0
    refine OkC.skip ?_
    refine q2 ?_
    refine st (v := (pP b1 1)) (ex_fieldAddr rfl Tryz.underlying30 rfl Tryz.sizeOf9 rfl) (leB rfl) ?_
    refine st (ex_load_one (i := 0) (v := (Value.string (bigB v))) rfl rfl Tryz.isAgg9 rfl) (leB rfl) ?_
    refine st (v := (vN ((bigB v).size))) (ex_len_string rfl Tryz.underlying9) (leB rfl) ?_
    refine OkL.retell (k := 20) (u := (vN (4 * nw v))) rfl (by rw [bigB_big hc0, strOf_size, bytesN_length]; rfl) ?_
    refine st (ex_quo (c := (((4 * nw v) / 4 : Nat) : Int)) rfl rfl (by omega) (quoN_i64 (a := 4 * nw v) (b := 4) (by omega))) (leB rfl) ?_
    refine OkL.retell (k := 21) (u := (vN (nw v))) rfl (by rw [Nat.mul_div_cancel_left _ (by omega)]) ?_
    refine OkL.openV (V := fun b2 => (Value.slice (some ⟨b2, 0, none⟩) (nw v) (nw v))) (T := 22) (cs := u32s (List.replicate (nw v) 0)) (wt_none rfl) (op_make_u32 (m := nw v) (c := nw v) rfl rfl (by omega) (by omega)) rfl (leB rfl) ?_; intro b2
    refine st (ex_assign rfl) (leB rfl) ?_
    refine q6 (sC 1 rfl (sC 2 rfl (sC 3 rfl (sN)))) ?_
    refine q4 ?_
    refine st (ex_move rfl) (leB rfl) ?_
    refine st (v := (vN (nw v))) (ex_len_slice rfl Tryz.underlying161) (leB rfl) ?_
    refine st (ex_move rfl) (leB rfl) ?_
    refine OkL.nil ?_
    refine OkQ.subF (sC 1 rfl (sC 2 rfl (sC 3 rfl (sC 24 rfl (sC 25 rfl (sN)))))) ?_
    refine OkQ.then_ ?_
    refine OkC.block ?_
    refine OkC.sub (F' := [(1, (pP b1 0)), (2, (Value.slice none 0 0)), (3, (Value.slice (some ⟨b2, 0, none⟩) (nw v) (nw v))), (24, (vN (nw v))), (25, (vI 0))]) (L' := [blk b2 22 (u32s (List.replicate (nw v) 0)), blk b1 30 (natL v)]) (sF rfl) (List.Sublist.refl _) ?_
    refine OkC.loop2 (J := fun (i : Nat) (os : List Nat) => i ≤ nw v ∧ os.length = nw v ∧ os.take i = (wordsOf v).take i ∧ ∀ j, i ≤ j → os.getD j 0 = 0) (FI := fun (i : Nat) (os : List Nat) => [(1, (pP b1 0)), (2, (Value.slice none 0 0)), (3, (Value.slice (some ⟨b2, 0, none⟩) (nw v) (nw v))), (24, (vN (nw v))), (25, (vN i))]) (LI := fun (i : Nat) (os : List Nat) => [blk b2 22 (u32s os), blk b1 30 (natL v)]) (m := fun (i : Nat) (os : List Nat) => nw v - i) (fun i os hJ => ?_) 0 (List.replicate (nw v) 0) (⟨Nat.zero_le _, by simp, by simp, fun j _ => by simp [List.getD_eq_getElem?_getD, List.getElem?_replicate]; split <;> rfl⟩)
    replace hJ : i ≤ nw v ∧ os.length = nw v ∧ os.take i = (wordsOf v).take i ∧ ∀ j, i ≤ j → os.getD j 0 = 0 := hJ
    obtain ⟨hin, hl, ht, h0⟩ := hJ
    refine OkC.sub (F' := [(1, (pP b1 0)), (2, (Value.slice none 0 0)), (3, (Value.slice (some ⟨b2, 0, none⟩) (nw v) (nw v))), (24, (vN (nw v))), (25, (vN i))]) (L' := [blk b2 22 (u32s os), blk b1 30 (natL v)]) (sF rfl) (List.Sublist.refl _) ?_
    refine q4 ?_
    refine st (ex_lss (c := (decide (i < (nw v)))) rfl rfl (ltN (a := i) (b := nw v))) (leB rfl) ?_
    refine OkL.nil ?_
    refine q1 ?_
    refine OkC.cond rfl (fun hc1 => ?_) (fun hc1 => ?_)
    · replace hc1 := of_decide_eq_true hc1
      refine OkC.skip ?_
      refine q1 ?_
      refine OkC.block ?_
      refine q4 ?_
      refine st (ex_move rfl) (leB rfl) ?_
      refine st (ex_assign rfl) (leB rfl) ?_
      refine q3 (sC 1 rfl (sC 2 rfl (sC 3 rfl (sC 24 rfl (sC 25 rfl (sC 4 rfl (sN))))))) ?_
      refine st (ex_move rfl) (leB rfl) ?_
      refine OkL.nil ?_
      refine OkQ.then_ ?_
      refine OkC.block ?_
      refine OkC.sub (F' := [(1, (pP b1 0)), (2, (Value.slice none 0 0)), (3, (Value.slice (some ⟨b2, 0, none⟩) (nw v) (nw v))), (24, (vN (nw v))), (25, (vN i)), (4, (vN i)), (28, (vI 0))]) (L' := [blk b2 22 (u32s os), blk b1 30 (natL v)]) (sF rfl) (List.Sublist.refl _) ?_
      refine OkC.loop2 (J := fun (k : Nat) (xs : List Nat) => k ≤ 4 ∧ xs = os.set i ((wordsOf v).getD i 0 % 256 ^ k)) (FI := fun (k : Nat) (xs : List Nat) => [(1, (pP b1 0)), (2, (Value.slice none 0 0)), (3, (Value.slice (some ⟨b2, 0, none⟩) (nw v) (nw v))), (24, (vN (nw v))), (25, (vN i)), (4, (vN i)), (28, (vN k))]) (LI := fun (k : Nat) (xs : List Nat) => [blk b2 22 (u32s xs), blk b1 30 (natL v)]) (m := fun (k : Nat) (xs : List Nat) => 4 - k) (fun k xs hJ => ?_) 0 os (⟨by omega, by rw [Nat.pow_zero, Nat.mod_one]; exact set_self (h0 i (Nat.le_refl _))⟩)
      replace hJ : k ≤ 4 ∧ xs = os.set i ((wordsOf v).getD i 0 % 256 ^ k) := hJ
      obtain ⟨hk, hxs⟩ := hJ
      refine OkC.sub (F' := [(1, (pP b1 0)), (2, (Value.slice none 0 0)), (3, (Value.slice (some ⟨b2, 0, none⟩) (nw v) (nw v))), (24, (vN (nw v))), (25, (vN i)), (4, (vN i)), (28, (vN k))]) (L' := [blk b2 22 (u32s xs), blk b1 30 (natL v)]) (sF rfl) (List.Sublist.refl _) ?_
      refine q4 ?_
      refine st (ex_lss (c := (decide (k < 4))) rfl rfl (ltN (a := k) (b := 4))) (leB rfl) ?_
      refine OkL.nil ?_
      refine q1 ?_
      refine OkC.cond rfl (fun hc2 => ?_) (fun hc2 => ?_)
      · replace hc2 := of_decide_eq_true hc2
        refine OkC.skip ?_
        refine q1 ?_
        refine OkC.block ?_
        refine q4 ?_
        refine st (ex_move rfl) (leB rfl) ?_
        refine st (ex_assign rfl) (leB rfl) ?_
        refine OkL.nil ?_
        refine OkQ.subF (sC 1 rfl (sC 2 rfl (sC 3 rfl (sC 24 rfl (sC 25 rfl (sC 4 rfl (sC 28 rfl (sC 5 rfl (sN))))))))) ?_
        refine OkQ.then_ ?_
        have hi : i < nw v := hc1
        have hxi : xs.getD i 0 = (wordsOf v).getD i 0 % 256 ^ k := by rw [hxs]; simp [hl, hi]
        have hxl : xs.length = nw v := by rw [hxs]; simp [hl]
        have hby : (wordsOf v).getD i 0 / 256 ^ k % 256 < 256 := Nat.mod_lt _ (by omega)
        have hget : (bigB v)[4 * i + k]? = some (UInt8.ofNat ((wordsOf v).getD i 0 / 256 ^ k % 256)) := by rw [bigB_big hc0, strOf_get (by rw [bytesN_length]; show 4 * i + k < 4 * nw v; omega), bytesN_get _ _ _ hi hc2]
        have hw32 : xs.getD i 0 < 4294967296 := by rw [hxi]; exact Nat.lt_of_le_of_lt (Nat.mod_le _ _) ((words_w32 v).getD i)
        refine dR (specs := [⟨.pure, fun _ => (Value.slice (some ⟨b2, 0, none⟩) (nw v) (nw v)), [], 0, []⟩, ⟨.pure, fun _ => (vN i), [], 0, []⟩, ⟨.pure, fun _ => (pP b2 i), [], 0, []⟩, ⟨.look, fun _ => (vK .u32 (xs.getD i 0)), [], 0, []⟩, ⟨.pure, fun _ => (pP b1 1), [], 0, []⟩, ⟨.held, fun _ => (Value.string (bigB v)), [], 0, []⟩, ⟨.pure, fun _ => (vN i), [], 0, []⟩, ⟨.pure, fun _ => (vN (4 * i)), [], 0, []⟩, ⟨.pure, fun _ => (vN k), [], 0, []⟩, ⟨.pure, fun _ => (vN ((4 * i) + k)), [], 0, []⟩, ⟨.look, fun _ => (vK .u8 ((wordsOf v).getD i 0 / 256 ^ k % 256)), [], 0, []⟩, ⟨.pure, fun _ => (vK .u32 ((wordsOf v).getD i 0 / 256 ^ k % 256)), [], 0, []⟩, ⟨.pure, fun _ => (vN k), [], 0, []⟩, ⟨.pure, fun _ => (vN (8 * k)), [], 0, []⟩, ⟨.look, fun _ => (vK .u32 ((wordsOf v).getD i 0 / 256 ^ k % 256 * 2 ^ (8 * k))), [], 0, []⟩, ⟨.pure, fun _ => (vK .u32 ((wordsOf v).getD i 0 % 256 ^ (k + 1))), [], 0, []⟩, ⟨.pure, fun _ => (pP b2 i), [], 0, []⟩]) (Lro := [blk b1 30 (natL v)]) (List.Sublist.cons _ (List.Sublist.refl _)) (dC (dC (dC (dC (dC (dC (dC (dC (dC (dC (dC (dC (dC (dC (dC (dC (dC (dN)))))))))))))))))) (by kernel_rfl) (by kernel_rfl) (fun _ _ d _ _ h => by cases d <;> exact h) (vC (vc_pure0 (G := fun β => [(3, (Value.slice (some ⟨b2, 0, none⟩) (nw v) (nw v)))]) (fun β => sF (by kernel_rfl)) (fun β _ => ex_move rfl)) (vC (vc_pure0 (G := fun β => [(4, (vN i))]) (fun β => sF (by kernel_rfl)) (fun β _ => ex_move rfl)) (vC (vc_pure0 (G := fun β => [(31, (Value.slice (some ⟨b2, 0, none⟩) (nw v) (nw v))), (32, (vN i))]) (fun β => sF (by kernel_rfl)) (fun β _ => ex_indexAddr_slice (j := i) rfl rfl Tryz.underlying161 Tryz.sizeOf22 rfl (by omega) (by simp))) (vC (vc_look0 (G := fun β => [(33, (pP b2 i))]) (fun β => sF (by kernel_rfl)) (fun β => ex_load_one (i := 0) (v := (vK .u32 (xs.getD i 0))) rfl rfl Tryz.isAgg22 (u32s_get (xs := xs) (j := i) (by omega)))) (vC (vc_pure0 (G := fun β => [(1, (pP b1 0))]) (fun β => sF (by kernel_rfl)) (fun β _ => ex_fieldAddr rfl Tryz.underlying30 rfl Tryz.sizeOf9 rfl)) (vC (vc_held0 (G := fun β => [(35, (pP b1 1))]) (fun β => sF (by kernel_rfl)) (fun β => ex_load_one (i := 0) (v := (Value.string (bigB v))) rfl rfl Tryz.isAgg9 rfl)) (vC (vc_pure0 (G := fun β => [(4, (vN i))]) (fun β => sF (by kernel_rfl)) (fun β _ => ex_move rfl)) (vC (vc_pure0 (G := fun β => [(37, (vN i))]) (fun β => sF (by kernel_rfl)) (fun β _ => ex_mul (c := ((4 * i : Nat) : Int)) rfl rfl (mulN_i64 (a := 4) (b := i) (by omega)))) (vC (vc_pure0 (G := fun β => [(5, (vN k))]) (fun β => sF (by kernel_rfl)) (fun β _ => ex_move rfl)) (vC (vc_pure0 (G := fun β => [(38, (vN (4 * i))), (39, (vN k))]) (fun β => sF (by kernel_rfl)) (fun β _ => ex_add (c := (((4 * i) + k : Nat) : Int)) rfl rfl (addN_i64 (a := 4 * i) (b := k) (by omega)))) (vC (vc_look0 (G := fun β => [(36, (Value.string (bigB v))), (40, (vN ((4 * i) + k)))]) (fun β => sF (by kernel_rfl)) (fun β => ex_index_str (j := 4 * i + k) (m := (wordsOf v).getD i 0 / 256 ^ k % 256) rfl rfl Tryz.underlying9 hget hby)) (vC (vc_pure0 (G := fun β => [(41, (vK .u8 ((wordsOf v).getD i 0 / 256 ^ k % 256)))]) (fun β => sF (by kernel_rfl)) (fun β _ => ex_conv (c := (((wordsOf v).getD i 0 / 256 ^ k % 256 : Nat) : Int)) rfl Tryz.underlying5 Tryz.underlying22 (convN_u32 (by omega)))) (vC (vc_pure0 (G := fun β => [(5, (vN k))]) (fun β => sF (by kernel_rfl)) (fun β _ => ex_move rfl)) (vC (vc_pure0 (G := fun β => [(43, (vN k))]) (fun β => sF (by kernel_rfl)) (fun β _ => ex_mul (c := ((8 * k : Nat) : Int)) rfl rfl (mulN_i64 (a := 8) (b := k) (by omega)))) (vC (vc_look0 (G := fun β => [(42, (vK .u32 ((wordsOf v).getD i 0 / 256 ^ k % 256))), (44, (vN (8 * k)))]) (fun β => sF (by kernel_rfl)) (fun β => ex_shl (s := 8 * k) rfl rfl rfl (show 8 * k ≤ 32 by omega) (shlN_u32 (byte_lt hc2)))) (vC (vc_pure0 (G := fun β => [(34, (vK .u32 (xs.getD i 0))), (45, (vK .u32 ((wordsOf v).getD i 0 / 256 ^ k % 256 * 2 ^ (8 * k))))]) (fun β => sF (by kernel_rfl)) (fun β _ => ex_or (c := (((wordsOf v).getD i 0 % 256 ^ (k + 1) : Nat) : Int)) rfl rfl (orN_u32 hw32 (byte_lt hc2) (byte_step hxi)))) (vC (vc_pure0 (G := fun β => [(31, (Value.slice (some ⟨b2, 0, none⟩) (nw v) (nw v))), (32, (vN i))]) (fun β => sF (by kernel_rfl)) (fun β _ => ex_indexAddr_slice (j := i) rfl rfl Tryz.underlying161 Tryz.sizeOf22 rfl (by omega) (by simp))) (VcAll.nil)))))))))))))))))) (fun β => ?_)
        refine OkLH.sub (F' := [(1, (pP b1 0)), (2, (Value.slice none 0 0)), (3, (Value.slice (some ⟨b2, 0, none⟩) (nw v) (nw v))), (24, (vN (nw v))), (25, (vN i)), (4, (vN i)), (28, (vN k)), (46, (vK .u32 ((wordsOf v).getD i 0 % 256 ^ (k + 1)))), (47, (pP b2 i))]) (L' := [blk b2 22 (u32s xs), blk b1 30 (natL v)]) (sF rfl) (List.Sublist.refl _) ?_
        refine OkLH.store' (i := 0) (off := i) (vs := [(vK .u32 ((wordsOf v).getD i 0 % 256 ^ (k + 1)))]) (cs' := u32s (xs.set i ((wordsOf v).getD i 0 % 256 ^ (k + 1)))) (L' := [blk b2 22 (u32s (xs.set i ((wordsOf v).getD i 0 % 256 ^ (k + 1)))), blk b1 30 (natL v)]) (List.Sublist.cons _ (List.Sublist.refl _)) (wt_none rfl) rfl rfl rfl rfl rfl Tryz.sizeOf22 rfl (ble_row (u32s_length _) (by omega)) (u32s_set (by omega)) rfl ?_
        refine OkLH.nil ?_
        refine OkQ.subF (sC 1 rfl (sC 2 rfl (sC 3 rfl (sC 24 rfl (sC 25 rfl (sC 4 rfl (sC 28 rfl (sN)))))))) ?_
        refine OkQ.in_normal ?_
        refine OkQ.then_ ?_
        refine OkC.region ?_
        refine st (ex_add (c := ((k + 1 : Nat) : Int)) rfl rfl (addN_i64 (a := k) (b := 1) (by omega))) (leB rfl) ?_
        refine st (ex_move rfl) (leB rfl) ?_
        refine OkL.nil ?_
        refine OkQ.subF (sC 1 rfl (sC 2 rfl (sC 3 rfl (sC 24 rfl (sC 25 rfl (sC 4 rfl (sC 28 rfl (sN)))))))) ?_
        exact OkQ.round2 (k + 1) (xs.set i ((wordsOf v).getD i 0 % 256 ^ (k + 1))) (⟨by omega, by rw [hxs, List.set_set]⟩) (by omega) (sS rfl (sS rfl (sS rfl (sS rfl (sS rfl (sS rfl (sS rfl (sN)))))))) (List.Sublist.refl _)
      · replace hc2 := of_decide_eq_false hc2
        refine OkC.exit ?_
        refine OkQ.then_exit ?_
        refine OkQ.round2_exit ?_
        refine OkQ.in_exit ?_
        refine OkQ.in_normal ?_
        refine OkQ.then_ ?_
        refine OkC.region ?_
        refine st (ex_add (c := ((i + 1 : Nat) : Int)) rfl rfl (addN_i64 (a := i) (b := 1) (by omega))) (leB rfl) ?_
        refine st (ex_move rfl) (leB rfl) ?_
        refine OkL.nil ?_
        refine OkQ.subF (sC 1 rfl (sC 2 rfl (sC 3 rfl (sC 24 rfl (sC 25 rfl (sC 4 rfl (sC 28 rfl (sN)))))))) ?_
        have hst := words_step (ws := wordsOf v) (xs := xs) hl rfl hc1 ht h0 (by rw [hxs, show k = 4 by omega]; congr 1; exact Nat.mod_eq_of_lt ((words_w32 v).getD i))
        exact OkQ.round2 (i + 1) xs (⟨by omega, hst.1, hst.2.1, hst.2.2⟩) (by omega) (sS rfl (sS rfl (sS rfl (sS rfl (sS rfl (sN)))))) (List.Sublist.refl _)
    · replace hc1 := of_decide_eq_false hc1
      refine OkC.exit ?_
      refine OkQ.then_exit ?_
      refine OkQ.round2_exit ?_
      refine OkQ.in_exit ?_
      refine q2 ?_
      refine st (ex_move rfl) (leB rfl) ?_
      refine st (ex_assign rfl) (leB rfl) ?_
      refine OkL.nil ?_
      refine OkQ.subF (sC 1 rfl (sC 2 rfl (sC 3 rfl (sC 24 rfl (sC 25 rfl (sN)))))) ?_
      refine OkQ.then_ ?_
      refine OkC.ret ?_
      have hpad : padW v = wordsOf v := by simp [padW, hc0]
      have hos : os = wordsOf v := row_done hl rfl hc1 ht
      have hret : ∀ b : Nat, (Ending.returned (Value.slice (some ⟨b, 0, none⟩) (nw v) (nw v))) = .returned (Value.slice (some ⟨b, 0, none⟩) (nw v) (padW v).length) := fun b => by rw [hpad]; rfl
      replace hret := hret b2
      have hcells : (some (Obj.cells (u32s os).toArray 22 (0, 0))) = some (Obj.cells (u32s (padW v)).toArray 22 (0, 0)) := by rw [hpad, hos]
      exact ret_one rfl (rd_tmp (v := (Value.slice (some ⟨b2, 0, none⟩) (nw v) (nw v))) rfl) (fun w hw => ⟨b2, hret, hw.out, hw.fresh (i := 0) rfl, (hw.get (i := 0) rfl).trans hcells⟩)


end Go.Proofs.YtpkoldfmbebmgaaGreatDoor
