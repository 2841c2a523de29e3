/- Walks, printed by gen.py. -/
import Derived.Test.YtpkoldfmbebmgaaGreatDoorNumY
import Derived.Test.YtpkoldfmbebmgaaGreatDoorText
namespace Go.Proofs.YtpkoldfmbebmgaaGreatDoor
open Go Go.RowKit
set_option maxRecDepth 100000
set_option linter.unusedVariables false
set_option linter.unusedSimpArgs false

theorem small_ok (n : Nat) (hn : n < 10) (w : World)  : Calls Tryz.prog 182 #[(vN n)] w (Gives w (Value.string (dig n))) := by
  refine calls_of (args := [(vN n)]) Tryz.func182 rfl rfl (leB rfl) ?_
  refine OkC.subF (sC 0 rfl (sN)) ?_
  refine q4 ?_
  refine st (ex_assign rfl) (leB rfl) ?_
  refine OkL.nil ?_
  refine q1 ?_
  refine q4 ?_
  refine st (ex_move rfl) (leB rfl) ?_
  refine st (ex_lss (c := (decide (n < 10))) rfl rfl (ltN (a := n) (b := 10))) (leB rfl) ?_
  refine OkL.nil ?_
  refine OkQ.subF (sC 0 rfl (sC 2 rfl (sC 4 rfl (sN)))) ?_
  refine OkQ.then_ ?_
  refine OkC.cond rfl (fun hc0 => ?_) (fun hc0 => ?_)
  · replace hc0 := of_decide_eq_true hc0
    refine q4 ?_
    refine st (ex_move rfl) (leB rfl) ?_
    refine st (ex_move rfl) (leB rfl) ?_
    refine st (ex_add (c := ((n + 1 : Nat) : Int)) rfl rfl (addN_i64 (a := n) (b := 1) (by omega))) (leB rfl) ?_
    refine st (v := (Value.string (dig n))) (ex_slice_string (i := n) (j := n + 1) rfl rfl rfl Tryz.underlying9 (by omega) (Nat.le_trans (show n + 1 ≤ 10 by omega) (by decide)) (dig_of (by kernel_rfl) hn)) (leB rfl) ?_
    refine st (ex_assign rfl) (leB rfl) ?_
    refine OkL.nil ?_
    refine OkQ.subF (sC 0 rfl (sC 2 rfl (sN))) ?_
    refine OkQ.then_ ?_
    refine OkC.ret ?_
    refine OkQ.then_ret ?_
    exact ret_one rfl (rd_tmp (v := (Value.string (dig n))) rfl) (fun w hw => ⟨rfl, hw.out⟩)
  · replace hc0 := of_decide_eq_false hc0
    exfalso; omega

theorem iformat_ok (n : Nat) (hn : n < 10) (w : World)  : Calls Tryz.prog 167 #[(vK .u64 n), (vI 10)] w (Gives w (Value.string (dig n))) := by
  refine calls_of (args := [(vK .u64 n), (vI 10)]) Tryz.func167 rfl rfl (leB rfl) ?_
  refine OkC.subF (sC 0 rfl (sC 1 rfl (sN))) ?_
  refine q4 ?_
  refine st (ex_assign rfl) (leB rfl) ?_
  refine OkL.nil ?_
  refine q1 ?_
  refine q4 ?_
  refine st (ex_move rfl) (leB rfl) ?_
  refine st (ex_eql (c := true) rfl rfl (by decide)) (leB rfl) ?_
  refine OkL.nil ?_
  refine OkQ.subF (sC 0 rfl (sC 1 rfl (sC 4 rfl (sC 10 rfl (sN))))) ?_
  refine OkQ.then_ ?_
  refine OkC.cond_true rfl ?_
  refine OkC.seq ?_
  refine q4 ?_
  refine st (ex_move rfl) (leB rfl) ?_
  refine st (ex_lss (c := (decide (n < 100))) rfl rfl (ltN (a := n) (b := 100))) (leB rfl) ?_
  refine OkL.nil ?_
  refine OkQ.subF (sC 0 rfl (sC 1 rfl (sC 4 rfl (sC 10 rfl (sC 12 rfl (sN)))))) ?_
  refine OkQ.then_ ?_
  refine OkC.cond rfl (fun hc1 => ?_) (fun hc1 => ?_)
  · replace hc1 := of_decide_eq_true hc1
    refine q4 ?_
    refine st (ex_move rfl) (leB rfl) ?_
    refine st (ex_conv (c := ((n : Nat) : Int)) rfl Tryz.underlying28 Tryz.underlying3 (convN_i64 (by omega))) (leB rfl) ?_
    refine OkL.call (v := (Value.string (dig n))) (wt_none rfl) (op_call0 (args := [(vN n)]) rfl rfl Tryz.call182) (fun w hw => small_ok n (by omega) w) rfl (leB rfl) ?_
    refine st (ex_assign rfl) (leB rfl) ?_
    refine OkL.nil ?_
    refine OkQ.subF (sC 0 rfl (sC 1 rfl (sC 4 rfl (sC 10 rfl (sN))))) ?_
    refine OkQ.then_ ?_
    refine OkC.ret ?_
    refine OkQ.then_ret ?_
    refine OkQ.then_ret ?_
    exact ret_one rfl (rd_tmp (v := (Value.string (dig n))) rfl) (fun w hw => ⟨rfl, hw.out⟩)
  · replace hc1 := of_decide_eq_false hc1
    exfalso; omega

theorem format_ok (n : Nat) (hn : n < 10) (w : World)  : Calls Tryz.prog 145 #[(vK .u64 n), (vI 10)] w (Gives w (Value.string (dig n))) := by
  refine calls_of (args := [(vK .u64 n), (vI 10)]) Tryz.func145 rfl rfl (leB rfl) ?_
  refine OkC.subF (sC 0 rfl (sC 1 rfl (sN))) ?_
  refine q4 ?_
  refine st (ex_assign rfl) (leB rfl) ?_
  refine OkL.nil ?_
  refine q2 ?_
  refine st (ex_move rfl) (leB rfl) ?_
  refine st (ex_move rfl) (leB rfl) ?_
  refine OkL.call (v := (Value.string (dig n))) (wt_none rfl) (op_call0 (args := [(vK .u64 n), (vI 10)]) rfl rfl Tryz.call167) (fun w hw => iformat_ok n (by omega) w) rfl (leB rfl) ?_
  refine st (ex_assign rfl) (leB rfl) ?_
  refine OkL.nil ?_
  refine OkQ.subF (sC 4 rfl (sN)) ?_
  refine OkQ.then_ ?_
  refine OkC.ret ?_
  exact ret_one rfl (rd_tmp (v := (Value.string (dig n))) rfl) (fun w hw => ⟨rfl, hw.out⟩)

theorem nText_ok (n : Nat) (hn : n < 10) (w : World)  : Calls Tryz.prog 107 #[(aG (natL n))] w (Gives w (Value.string (dig n))) := by
  refine calls_of (args := [(aG (natL n))]) Tryz.func107 rfl rfl (leB rfl) ?_
  refine OkC.subF (sC 0 rfl (sN)) ?_
  refine q4 ?_
  refine OkL.open_ (T := 30) (cs := natL n) (wt_none rfl) (op_box (cs := natL n) rfl rfl) rfl (leB rfl) ?_; intro b1
  refine st (ex_assign rfl) (leB rfl) ?_
  refine q6 (sC 1 rfl (sC 2 rfl (sN))) ?_
  refine q4 ?_
  refine st (v := (pP b1 1)) (ex_fieldAddr rfl Tryz.underlying30 rfl Tryz.sizeOf9 rfl) (leB rfl) ?_
  refine st (ex_load_one (i := 0) (v := (Value.string (bigB n))) rfl rfl Tryz.isAgg9 rfl) (leB rfl) ?_
  refine st (ex_eql_string (c := (decide (n < 18446744073709551616))) rfl rfl bigB_empty) (leB rfl) ?_
  refine OkL.nil ?_
  refine OkQ.subF (sC 1 rfl (sC 2 rfl (sC 10 rfl (sN)))) ?_
  refine OkQ.then_ ?_
  refine OkC.cond rfl (fun hc0 => ?_) (fun hc0 => ?_)
  · replace hc0 := of_decide_eq_true hc0
    refine q4 ?_
    refine st (v := (pP b1 0)) (ex_fieldAddr rfl Tryz.underlying30 rfl Tryz.sizeOf28 rfl) (leB rfl) ?_
    refine st (ex_load_one (i := 0) (v := (vK .u64 (lowN n))) rfl rfl Tryz.isAgg28 rfl) (leB rfl) ?_
    refine OkL.retell (k := 12) (u := (vK .u64 n)) rfl (by rw [lowN_small (by omega)]) ?_
    refine OkL.call (v := (Value.string (dig n))) (wt_none rfl) (op_call0 (args := [(vK .u64 n), (vI 10)]) rfl rfl Tryz.call145) (fun w hw => format_ok n (by omega) w) rfl (leB rfl) ?_
    refine st (ex_assign rfl) (leB rfl) ?_
    refine OkL.nil ?_
    refine OkQ.subF (sC 1 rfl (sC 2 rfl (sN))) ?_
    refine OkQ.then_ ?_
    refine OkC.ret ?_
    refine OkQ.then_ret ?_
    exact ret_one rfl (rd_tmp (v := (Value.string (dig n))) rfl) (fun w hw => ⟨rfl, hw.out⟩)
  · replace hc0 := of_decide_eq_false hc0
    exfalso; omega

theorem iText_ok (z : Int) (hz : z.natAbs < 10) (w : World)  : Calls Tryz.prog 106 #[(aG (intL z))] w (Gives w (Value.string (textI z))) := by
  refine calls_of (args := [(aG (intL z))]) Tryz.func106 rfl rfl (leB rfl) ?_
  refine OkC.subF (sC 0 rfl (sN)) ?_
  refine q4 ?_
  refine OkL.open_ (T := 34) (cs := intL z) (wt_none rfl) (op_box (cs := intL z) rfl rfl) rfl (leB rfl) ?_; intro b1
  refine st (ex_assign rfl) (leB rfl) ?_
  refine q6 (sC 1 rfl (sC 2 rfl (sN))) ?_
  refine q4 ?_
  refine st (v := (pP b1 2)) (ex_fieldAddr rfl Tryz.underlying34 rfl Tryz.sizeOf4 rfl) (leB rfl) ?_
  refine st (ex_load_one (i := 0) (v := (Value.bool (decide (z < 0)))) rfl rfl Tryz.isAgg4 rfl) (leB rfl) ?_
  refine OkL.nil ?_
  refine OkQ.subF (sC 1 rfl (sC 2 rfl (sC 4 rfl (sN)))) ?_
  refine OkQ.then_ ?_
  refine OkC.cond rfl (fun hc0 => ?_) (fun hc0 => ?_)
  · replace hc0 := of_decide_eq_true hc0
    have he : textI z = ⟨#[45]⟩ ++ dig z.natAbs := if_pos hc0
    refine q4 ?_
    refine st (v := (pP b1 0)) (ex_fieldAddr rfl Tryz.underlying34 rfl Tryz.sizeOf32 rfl) (leB rfl) ?_
    refine st (v := (pP b1 0)) (ex_fieldAddr rfl Tryz.underlying32 rfl Tryz.sizeOf30 rfl) (leB rfl) ?_
    refine st (ex_load_agg (i := 0) (vs := natL z.natAbs) rfl rfl Tryz.isAgg30 Tryz.sizeOf30 rfl rfl) (leB rfl) ?_
    refine OkL.call (v := (Value.string (dig z.natAbs))) (wt_none rfl) (op_call0 (args := [(aG (natL z.natAbs))]) rfl rfl Tryz.call107) (fun w hw => nText_ok z.natAbs (by omega) w) rfl (leB rfl) ?_
    refine st (v := (Value.string (ByteArray.mk #[45] ++ dig z.natAbs))) (ex_add_string (r := (ByteArray.mk #[45] ++ dig z.natAbs)) rfl rfl (by rw [dig_size]; decide) rfl) (leB rfl) ?_
    refine st (ex_assign rfl) (leB rfl) ?_
    refine OkL.nil ?_
    refine OkQ.subF (sC 1 rfl (sC 2 rfl (sN))) ?_
    refine OkQ.then_ ?_
    refine OkC.ret ?_
    refine OkQ.then_ret ?_
    exact ret_one rfl (rd_tmp (v := (Value.string (ByteArray.mk #[45] ++ dig z.natAbs))) rfl) (fun w hw => ⟨by rw [he], hw.out⟩)
  · replace hc0 := of_decide_eq_false hc0
    have he : textI z = dig z.natAbs := if_neg hc0
    refine OkC.skip ?_
    refine q2 ?_
    refine st (v := (pP b1 0)) (ex_fieldAddr rfl Tryz.underlying34 rfl Tryz.sizeOf32 rfl) (leB rfl) ?_
    refine st (v := (pP b1 0)) (ex_fieldAddr rfl Tryz.underlying32 rfl Tryz.sizeOf30 rfl) (leB rfl) ?_
    refine st (ex_load_agg (i := 0) (vs := natL z.natAbs) rfl rfl Tryz.isAgg30 Tryz.sizeOf30 rfl rfl) (leB rfl) ?_
    refine OkL.call (v := (Value.string (dig z.natAbs))) (wt_none rfl) (op_call0 (args := [(aG (natL z.natAbs))]) rfl rfl Tryz.call107) (fun w hw => nText_ok z.natAbs (by omega) w) rfl (leB rfl) ?_
    refine st (ex_assign rfl) (leB rfl) ?_
    refine OkL.nil ?_
    refine OkQ.subF (sC 1 rfl (sC 2 rfl (sN))) ?_
    refine OkQ.then_ ?_
    refine OkC.ret ?_
    exact ret_one rfl (rd_tmp (v := (Value.string (dig z.natAbs))) rfl) (fun w hw => ⟨by rw [he], hw.out⟩)

theorem fText_ok (q : Rat) (hn : q.num.natAbs < 10) (hd : q.den < 10) (w : World)  : Calls Tryz.prog 66 #[(aG (fracL q))] w (Gives w (Value.string (textQ q))) := by
  have hs := textI_size q.num
  have hdn : nw q.den ≤ 1099511627776 := Nat.le_trans (nw_small (by omega)) (by omega)
  refine calls_of (args := [(aG (fracL q))]) Tryz.func66 rfl rfl (leB rfl) ?_
  refine OkC.subF (sC 0 rfl (sN)) ?_
  refine q4 ?_
  refine OkL.open_ (T := 36) (cs := fracL q) (wt_none rfl) (op_box (cs := fracL q) rfl rfl) rfl (leB rfl) ?_; intro b1
  refine st (ex_assign rfl) (leB rfl) ?_
  refine q6 (sC 1 rfl (sC 2 rfl (sN))) ?_
  refine q4 ?_
  refine st (ex_load_agg (i := 0) (vs := fracL q) rfl rfl Tryz.isAgg36 Tryz.sizeOf36 rfl rfl) (leB rfl) ?_
  refine OkL.call (v := (Value.bool (decide (q.den - 1 = 0)))) (wt_none rfl) (op_call0 (args := [(aG (fracL q))]) rfl rfl Tryz.call80) (fun w hw => Whole_ok q w) rfl (leB rfl) ?_
  refine OkL.nil ?_
  refine OkQ.subF (sC 1 rfl (sC 2 rfl (sC 4 rfl (sN)))) ?_
  refine OkQ.then_ ?_
  refine OkC.cond rfl (fun hc0 => ?_) (fun hc0 => ?_)
  · replace hc0 := of_decide_eq_true hc0
    have he : textQ q = textI q.num := if_pos hc0
    refine q4 ?_
    refine st (v := (pP b1 0)) (ex_fieldAddr rfl Tryz.underlying36 rfl Tryz.sizeOf34 rfl) (leB rfl) ?_
    refine st (ex_load_agg (i := 0) (vs := intL q.num) rfl rfl Tryz.isAgg34 Tryz.sizeOf34 rfl rfl) (leB rfl) ?_
    refine OkL.call (v := (Value.string (textI q.num))) (wt_none rfl) (op_call0 (args := [(aG (intL q.num))]) rfl rfl Tryz.call106) (fun w hw => iText_ok q.num (by omega) w) rfl (leB rfl) ?_
    refine st (ex_assign rfl) (leB rfl) ?_
    refine OkL.nil ?_
    refine OkQ.subF (sC 1 rfl (sC 2 rfl (sN))) ?_
    refine OkQ.then_ ?_
    refine OkC.ret ?_
    refine OkQ.then_ret ?_
    exact ret_one rfl (rd_tmp (v := (Value.string (textI q.num))) rfl) (fun w hw => ⟨by rw [he], hw.out⟩)
  · replace hc0 := of_decide_eq_false hc0
    have he : textQ q = textI q.num ++ ⟨#[47]⟩ ++ dig q.den := if_neg hc0
    refine OkC.skip ?_
    refine q1 ?_
    refine dR (specs := [⟨.pure, fun _ => (pP b1 0), [], 0, []⟩, ⟨.held, fun _ => (aG (intL q.num)), [], 0, []⟩, ⟨.call, fun _ => (Value.string (textI q.num)), [], 0, []⟩, ⟨.pure, fun _ => (Value.string (textI q.num ++ ByteArray.mk #[47])), [], 0, []⟩, ⟨.held, fun _ => (aG (fracL q)), [], 0, []⟩, ⟨.call, fun _ => (aG (natL q.den)), [], 0, []⟩, ⟨.call, fun _ => (Value.string (dig q.den)), [], 0, []⟩, ⟨.pure, fun _ => (Value.string (textI q.num ++ ByteArray.mk #[47] ++ dig q.den)), [], 0, []⟩]) (Lro := [blk b1 36 (fracL q)]) (List.Sublist.refl _) (dC (dC (dC (dC (dC (dC (dC (dC (dN))))))))) (by kernel_rfl) (by kernel_rfl) (fun _ _ d _ _ h => by cases d <;> exact h) (vC (vc_pure0 (G := fun β => [(1, (pP b1 0))]) (fun β => sF (by kernel_rfl)) (fun β _ => ex_fieldAddr rfl Tryz.underlying36 rfl Tryz.sizeOf34 rfl)) (vC (vc_held0 (G := fun β => [(8, (pP b1 0))]) (fun β => sF (by kernel_rfl)) (fun β => ex_load_agg (i := 0) (vs := intL q.num) rfl rfl Tryz.isAgg34 Tryz.sizeOf34 rfl rfl)) (vC (vc_call0 (G := fun β => [(9, (aG (intL q.num)))]) (fun β => sF (by kernel_rfl)) (fun β => op_call0 (args := [(aG (intL q.num))]) rfl rfl Tryz.call106) (fun β w hw => iText_ok q.num (by omega) w)) (vC (vc_pure0 (G := fun β => [(10, (Value.string (textI q.num)))]) (fun β => sF (by kernel_rfl)) (fun β _ => ex_add_string (r := (textI q.num ++ ByteArray.mk #[47])) rfl rfl (Nat.le_trans (Nat.add_le_add_right hs 1) (by decide)) rfl)) (vC (vc_held0 (G := fun β => [(1, (pP b1 0))]) (fun β => sF (by kernel_rfl)) (fun β => ex_load_agg (i := 0) (vs := fracL q) rfl rfl Tryz.isAgg36 Tryz.sizeOf36 rfl rfl)) (vC (vc_call0 (G := fun β => [(12, (aG (fracL q)))]) (fun β => sF (by kernel_rfl)) (fun β => op_call0 (args := [(aG (fracL q))]) rfl rfl Tryz.call85) (fun β w hw => den_ok q (by omega) w)) (vC (vc_call0 (G := fun β => [(13, (aG (natL q.den)))]) (fun β => sF (by kernel_rfl)) (fun β => op_call0 (args := [(aG (natL q.den))]) rfl rfl Tryz.call107) (fun β w hw => nText_ok q.den (by omega) w)) (vC (vc_pure0 (G := fun β => [(11, (Value.string (textI q.num ++ ByteArray.mk #[47]))), (14, (Value.string (dig q.den)))]) (fun β => sF (by kernel_rfl)) (fun β _ => ex_add_string (r := (textI q.num ++ ByteArray.mk #[47] ++ dig q.den)) rfl rfl (by rw [ByteArray.size_append, dig_size]; exact Nat.le_trans (Nat.add_le_add_right (Nat.add_le_add_right hs 1) 1) (by decide)) rfl)) (VcAll.nil))))))))) (fun β => ?_)
    refine OkLH.sub (F' := [(1, (pP b1 0)), (2, (Value.string (ByteArray.mk #[]))), (15, (Value.string (textI q.num ++ ByteArray.mk #[47] ++ dig q.den)))]) (L' := [blk b1 36 (fracL q)]) (sF rfl) (List.Sublist.refl _) ?_
    refine OkLH.step (v := (Value.string (textI q.num ++ ByteArray.mk #[47] ++ dig q.den))) (List.Sublist.refl _) (wt_none rfl) (ex_assign rfl) rfl (leB rfl) ?_
    refine OkLH.nil ?_
    refine OkQ.subF (sC 1 rfl (sC 2 rfl (sN))) ?_
    refine OkQ.then_ ?_
    refine OkC.ret ?_
    exact ret_one rfl (rd_tmp (v := (Value.string (textI q.num ++ ByteArray.mk #[47] ++ dig q.den))) rfl) (fun w hw => ⟨by rw [he], hw.out⟩)


end Go.Proofs.YtpkoldfmbebmgaaGreatDoor
