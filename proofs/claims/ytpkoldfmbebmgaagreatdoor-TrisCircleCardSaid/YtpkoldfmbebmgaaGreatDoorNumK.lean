/- Walks, printed by gen.py. -/
import Derived.Test.YtpkoldfmbebmgaaGreatDoorNumJ
import Derived.Test.YtpkoldfmbebmgaaGreatDoorInt
namespace Go.Proofs.YtpkoldfmbebmgaaGreatDoor
open Go Go.RowKit
set_option maxRecDepth 100000
set_option linter.unusedVariables false
set_option linter.unusedSimpArgs false

theorem fill_numk_32_  : Instr.fill ([(0, 2)].toArray[·]?) (natL 0).toArray [] = some (natL 0).toArray := by kernel_rfl
theorem size_zero_ok (n : Nat) (w : World)  : Calls Tryz.prog 105 #[(aG (natL n))] w (Gives w (Value.bool (decide (n = 0)))) := by
  refine calls_of (args := [(aG (natL n))]) Tryz.func105 rfl rfl (leB rfl) ?_
  refine OkC.subF (sC 0 rfl (sN)) ?_
  refine q4 ?_
  refine OkL.open_ (T := 32) (cs := natL n) (wt_none rfl) (op_box (cs := natL n) rfl rfl) rfl (leB rfl) ?_; intro b1
  refine st (ex_assign rfl) (leB rfl) ?_
  refine q3 (sC 1 rfl (sC 2 rfl (sN))) ?_
  refine st (ex_load_agg (i := 0) (vs := natL n) rfl rfl Tryz.isAgg32 Tryz.sizeOf32 rfl rfl) (leB rfl) ?_
  refine st (v := (aG (natL 0))) (ex_build_struct (zs := natL 0) (vs := natL 0) (pv := []) (places := [(0, 2)]) Tryz.zeroValue32 Tryz.underlying32 (fun w => by simp [Tryz.sizeOf30]) rfl (fill_numk_32_ )) (leB rfl) ?_
  refine st (ex_eql_agg (c := (decide (n = 0))) rfl rfl Tryz.eqGuardType32 (eqB_size 9997 n 0)) (leB rfl) ?_
  refine st (ex_assign rfl) (leB rfl) ?_
  refine OkL.nil ?_
  refine OkQ.subF (sC 2 rfl (sN)) ?_
  refine OkQ.then_ ?_
  refine OkC.ret ?_
  exact ret_one rfl (rd_tmp (v := (Value.bool (decide (n = 0)))) rfl) (fun w hw => ⟨rfl, hw.out⟩)

theorem fill_numk_32_0natL (x0 : Nat) : Instr.fill ([(0, 2)].toArray[·]?) (natL 0).toArray [(0, .agg (natL x0).toArray)] = some (natL x0).toArray := by kernel_rfl
theorem From_true (n : Nat) (w : World)  : Calls Tryz.prog 91 #[(Value.bool true), (aG (natL n))] w (Gives w (aG (intL (mkI true n)))) := by
  refine calls_of (args := [(Value.bool true), (aG (natL n))]) Tryz.func91 rfl rfl (leB rfl) ?_
  refine OkC.subF (sC 0 rfl (sC 1 rfl (sN))) ?_
  refine q4 ?_
  refine OkL.open_ (T := 30) (cs := natL n) (wt_none rfl) (op_box (cs := natL n) rfl rfl) rfl (leB rfl) ?_; intro b1
  refine OkL.open_ (T := 34) (cs := intL 0) (wt_none rfl) (op_alloc (cs := intL 0) Tryz.zeroValue34 rfl) rfl (leB rfl) ?_; intro b2
  refine q3 (sC 0 rfl (sC 3 rfl (sC 4 rfl (sN)))) ?_
  refine st (ex_load_agg (i := 1) (vs := natL n) rfl rfl Tryz.isAgg30 Tryz.sizeOf30 rfl rfl) (leB rfl) ?_
  refine st (v := (aG (natL n))) (ex_build_struct (zs := natL 0) (vs := natL n) (pv := [(0, (aG (natL n)))]) (places := [(0, 2)]) Tryz.zeroValue32 Tryz.underlying32 (fun w => by simp [Tryz.sizeOf30]) rfl (fill_numk_32_0natL n)) (leB rfl) ?_
  refine OkL.open_ (T := 32) (cs := natL 0) (wt_none rfl) (op_alloc (cs := natL 0) Tryz.zeroValue32 rfl) rfl (leB rfl) ?_; intro b3
  refine OkL.store' (i := 0) (off := 0) (vs := natL n) (cs' := natL n) (L' := [blk b3 32 (natL n), blk b2 34 (intL 0), blk b1 30 (natL n)]) (wt_none rfl) rfl rfl rfl rfl rfl Tryz.sizeOf32 rfl rfl rfl rfl ?_
  refine q6 (sC 0 rfl (sC 4 rfl (sC 5 rfl (sN)))) ?_
  refine dR (specs := [⟨.held, fun _ => (aG (natL n)), [], 0, []⟩, ⟨.pure, fun _ => (Value.bool true), [], 0, []⟩, ⟨.pure, fun _ => (Value.bool true), [], 0, []⟩, ⟨.held, fun _ => (aG (natL n)), [], 0, []⟩, ⟨.call, fun _ => (Value.bool (decide (n = 0))), [], 0, []⟩, ⟨.pure, fun _ => (Value.bool (!(decide (n = 0)))), [], 0, []⟩, ⟨.pure, fun _ => (Value.bool (!(decide (n = 0)))), [], 0, []⟩, ⟨.pure, fun _ => (aG (natL n ++ [(Value.bool (!(decide (n = 0))))])), [], 0, []⟩]) (Lro := [blk b3 32 (natL n), blk b1 30 (natL n)]) (List.Sublist.cons_cons _ (List.Sublist.cons _ (List.Sublist.refl _))) (dC (dC (dC (dC (dC (dC (dC (dC (dN))))))))) (by kernel_rfl) (by kernel_rfl) (fun _ _ d _ _ h => by cases d <;> exact h) (vC (vc_held0 (G := fun β => [(5, (pP b3 0))]) (fun β => sF (by kernel_rfl)) (fun β => ex_load_agg (i := 0) (vs := natL n) rfl rfl Tryz.isAgg32 Tryz.sizeOf32 rfl rfl)) (vC (vc_pure0 (G := fun β => [(0, (Value.bool true))]) (fun β => sF (by kernel_rfl)) (fun β _ => ex_move rfl)) (vC (vc_pure0 (G := fun β => [(9, (Value.bool true))]) (fun β => sF (by kernel_rfl)) (fun β _ => ex_move rfl)) (vC (vc_held (G := fun β => [(5, (pP b3 0)), (10, (Value.bool true))]) (fun β => sF (by kernel_rfl)) (fun β => wt_some rfl rfl rfl) (fun β => ex_load_agg (i := 0) (vs := natL n) rfl rfl Tryz.isAgg32 Tryz.sizeOf32 rfl rfl)) (vC (vc_call (G := fun β => [(10, (Value.bool true)), (11, (aG (natL n)))]) (fun β => sF (by kernel_rfl)) (fun β => wt_some rfl rfl rfl) (fun β => op_call0 (args := [(aG (natL n))]) rfl rfl Tryz.call105) (fun β w hw => size_zero_ok n w)) (vC (vc_pure (G := fun β => [(10, (Value.bool true)), (12, (Value.bool (decide (n = 0))))]) (fun β => sF (by kernel_rfl)) (fun β => wt_some rfl rfl rfl) (fun β _ => ex_not (c := (!(decide (n = 0)))) rfl rfl)) (vC (vc_pure0 (G := fun β => [(10, (Value.bool true)), (13, (Value.bool (!(decide (n = 0)))))]) (fun β => sF (by kernel_rfl)) (fun β _ => ex_pick_true rfl rfl)) (vC (vc_pure0 (G := fun β => [(8, (aG (natL n))), (14, (Value.bool (!(decide (n = 0)))))]) (fun β => sF (by kernel_rfl)) (fun β _ => ex_build_struct (zs := intL 0) (vs := natL n ++ [(Value.bool (!(decide (n = 0))))]) (pv := [(0, (aG (natL n))), (1, (Value.bool (!(decide (n = 0)))))]) (places := [(0, 2), (2, 1)]) Tryz.zeroValue34 Tryz.underlying34 (fun w => by simp [Tryz.sizeOf4, Tryz.sizeOf32]) rfl rfl)) (VcAll.nil))))))))) (fun β => ?_)
  refine OkLH.sub (F' := [(4, (pP b2 0)), (5, (pP b3 0)), (15, (aG (natL n ++ [(Value.bool (!(decide (n = 0))))])))]) (L' := [blk b3 32 (natL n), blk b2 34 (intL 0), blk b1 30 (natL n)]) (sF rfl) (List.Sublist.refl _) ?_
  refine OkLH.store' (i := 1) (off := 0) (vs := natL n ++ [(Value.bool (!(decide (n = 0))))]) (cs' := natL n ++ [(Value.bool (!(decide (n = 0))))]) (L' := [blk b3 32 (natL n), blk b2 34 (natL n ++ [(Value.bool (!(decide (n = 0))))]), blk b1 30 (natL n)]) (List.Sublist.cons_cons _ (List.Sublist.cons _ (List.Sublist.refl _))) (wt_none rfl) rfl rfl rfl rfl rfl Tryz.sizeOf34 rfl rfl rfl rfl ?_
  refine OkLH.nil ?_
  refine OkQ.subF (sC 4 rfl (sC 5 rfl (sN))) ?_
  refine OkQ.then_ ?_
  refine OkC.ret ?_
  exact ret_one rfl (rd_agg (i := 1) (cs := natL n ++ [(Value.bool (!(decide (n = 0))))]) rfl rfl Tryz.isAgg34 Tryz.sizeOf34 rfl) (fun w hw => ⟨by rw [intL_neg], hw.out⟩)

theorem From_false (n : Nat) (w : World)  : Calls Tryz.prog 91 #[(Value.bool false), (aG (natL n))] w (Gives w (aG (intL (mkI false n)))) := by
  refine calls_of (args := [(Value.bool false), (aG (natL n))]) Tryz.func91 rfl rfl (leB rfl) ?_
  refine OkC.subF (sC 0 rfl (sC 1 rfl (sN))) ?_
  refine q4 ?_
  refine OkL.open_ (T := 30) (cs := natL n) (wt_none rfl) (op_box (cs := natL n) rfl rfl) rfl (leB rfl) ?_; intro b1
  refine OkL.open_ (T := 34) (cs := intL 0) (wt_none rfl) (op_alloc (cs := intL 0) Tryz.zeroValue34 rfl) rfl (leB rfl) ?_; intro b2
  refine q3 (sC 0 rfl (sC 3 rfl (sC 4 rfl (sN)))) ?_
  refine st (ex_load_agg (i := 1) (vs := natL n) rfl rfl Tryz.isAgg30 Tryz.sizeOf30 rfl rfl) (leB rfl) ?_
  refine st (v := (aG (natL n))) (ex_build_struct (zs := natL 0) (vs := natL n) (pv := [(0, (aG (natL n)))]) (places := [(0, 2)]) Tryz.zeroValue32 Tryz.underlying32 (fun w => by simp [Tryz.sizeOf30]) rfl (fill_numk_32_0natL n)) (leB rfl) ?_
  refine OkL.open_ (T := 32) (cs := natL 0) (wt_none rfl) (op_alloc (cs := natL 0) Tryz.zeroValue32 rfl) rfl (leB rfl) ?_; intro b3
  refine OkL.store' (i := 0) (off := 0) (vs := natL n) (cs' := natL n) (L' := [blk b3 32 (natL n), blk b2 34 (intL 0), blk b1 30 (natL n)]) (wt_none rfl) rfl rfl rfl rfl rfl Tryz.sizeOf32 rfl rfl rfl rfl ?_
  refine q6 (sC 0 rfl (sC 4 rfl (sC 5 rfl (sN)))) ?_
  refine dR (specs := [⟨.held, fun _ => (aG (natL n)), [], 0, []⟩, ⟨.pure, fun _ => (Value.bool false), [], 0, []⟩, ⟨.pure, fun _ => (Value.bool false), [], 0, []⟩, ⟨.pure, fun _ => undef, [], 0, []⟩, ⟨.pure, fun _ => undef, [], 0, []⟩, ⟨.pure, fun _ => undef, [], 0, []⟩, ⟨.pure, fun _ => (Value.bool false), [], 0, []⟩, ⟨.pure, fun _ => (aG (natL n ++ [(Value.bool false)])), [], 0, []⟩]) (Lro := [blk b3 32 (natL n), blk b1 30 (natL n)]) (List.Sublist.cons_cons _ (List.Sublist.cons _ (List.Sublist.refl _))) (dC (dC (dC (dC (dC (dC (dC (dC (dN))))))))) (by kernel_rfl) (by kernel_rfl) (fun _ _ d _ _ h => by cases d <;> exact h) (vC (vc_held0 (G := fun β => [(5, (pP b3 0))]) (fun β => sF (by kernel_rfl)) (fun β => ex_load_agg (i := 0) (vs := natL n) rfl rfl Tryz.isAgg32 Tryz.sizeOf32 rfl rfl)) (vC (vc_pure0 (G := fun β => [(0, (Value.bool false))]) (fun β => sF (by kernel_rfl)) (fun β _ => ex_move rfl)) (vC (vc_pure0 (G := fun β => [(9, (Value.bool false))]) (fun β => sF (by kernel_rfl)) (fun β _ => ex_move rfl)) (vC (vc_skip (G := fun _ => [(10, (Value.bool false))]) (fun _ => (sF (by kernel_rfl))) (fun _ => wt_not rfl rfl rfl)) (vC (vc_skip (G := fun _ => [(10, (Value.bool false))]) (fun _ => (sF (by kernel_rfl))) (fun _ => wt_not rfl rfl rfl)) (vC (vc_skip (G := fun _ => [(10, (Value.bool false))]) (fun _ => (sF (by kernel_rfl))) (fun _ => wt_not rfl rfl rfl)) (vC (vc_pure0 (G := fun β => [(10, (Value.bool false))]) (fun β => sF (by kernel_rfl)) (fun β _ => ex_pick_false rfl rfl)) (vC (vc_pure0 (G := fun β => [(8, (aG (natL n))), (14, (Value.bool false))]) (fun β => sF (by kernel_rfl)) (fun β _ => ex_build_struct (zs := intL 0) (vs := natL n ++ [(Value.bool false)]) (pv := [(0, (aG (natL n))), (1, (Value.bool false))]) (places := [(0, 2), (2, 1)]) Tryz.zeroValue34 Tryz.underlying34 (fun w => by simp [Tryz.sizeOf4, Tryz.sizeOf32]) rfl rfl)) (VcAll.nil))))))))) (fun β => ?_)
  refine OkLH.sub (F' := [(4, (pP b2 0)), (5, (pP b3 0)), (15, (aG (natL n ++ [(Value.bool false)])))]) (L' := [blk b3 32 (natL n), blk b2 34 (intL 0), blk b1 30 (natL n)]) (sF rfl) (List.Sublist.refl _) ?_
  refine OkLH.store' (i := 1) (off := 0) (vs := natL n ++ [(Value.bool false)]) (cs' := natL n ++ [(Value.bool false)]) (L' := [blk b3 32 (natL n), blk b2 34 (natL n ++ [(Value.bool false)]), blk b1 30 (natL n)]) (List.Sublist.cons_cons _ (List.Sublist.cons _ (List.Sublist.refl _))) (wt_none rfl) rfl rfl rfl rfl rfl Tryz.sizeOf34 rfl rfl rfl rfl ?_
  refine OkLH.nil ?_
  refine OkQ.subF (sC 4 rfl (sC 5 rfl (sN))) ?_
  refine OkQ.then_ ?_
  refine OkC.ret ?_
  exact ret_one rfl (rd_agg (i := 1) (cs := natL n ++ [(Value.bool false)]) rfl rfl Tryz.isAgg34 Tryz.sizeOf34 rfl) (fun w hw => ⟨by rw [intL_pos], hw.out⟩)

theorem From_ok (neg : Bool) (n : Nat) (w : World) : Calls Tryz.prog 91 #[.bool neg, .agg (natL n).toArray] w (Gives w (.agg (intL (mkI neg n)).toArray)) := by
  cases neg
  · exact From_false n w
  · exact From_true n w

theorem iOf_ok (z : Int) (hz : -9223372036854775808 ≤ z) (hz2 : z < 9223372036854775808) (w : World)  : Calls Tryz.prog 90 #[(vI z)] w (Gives w (aG (intL z))) := by
  refine calls_of (args := [(vI z)]) Tryz.func90 rfl rfl (leB rfl) ?_
  refine OkC.subF (sC 0 rfl (sN)) ?_
  refine q4 ?_
  refine OkL.open_ (T := 34) (cs := intL 0) (wt_none rfl) (op_alloc (cs := intL 0) Tryz.zeroValue34 rfl) rfl (leB rfl) ?_; intro b1
  refine OkL.nil ?_
  refine q1 ?_
  refine q4 ?_
  refine st (ex_move rfl) (leB rfl) ?_
  refine st (ex_lss (c := (decide (z < (0 : Int)))) rfl rfl rfl) (leB rfl) ?_
  refine OkL.nil ?_
  refine OkQ.subF (sC 0 rfl (sC 2 rfl (sC 4 rfl (sN)))) ?_
  refine OkQ.then_ ?_
  refine OkC.cond rfl (fun hc0 => ?_) (fun hc0 => ?_)
  · replace hc0 := of_decide_eq_true hc0
    have he := mkI_natAbs_neg hc0
    refine q4 ?_
    refine st (ex_move rfl) (leB rfl) ?_
    refine st (ex_conv (c := (IntKind.u64.wrap z)) rfl Tryz.underlying2 Tryz.underlying28 (rfl)) (leB rfl) ?_
    refine st (ex_neg (c := ((z.natAbs : Nat) : Int)) rfl (by rw [Int.zero_sub]; exact negU hc0 hz)) (leB rfl) ?_
    refine OkL.call (v := (aG (natL z.natAbs))) (wt_none rfl) (op_call0 (args := [(vK .u64 z.natAbs)]) rfl rfl Tryz.call118) (fun w hw => of64_ok z.natAbs (by omega) w) rfl (leB rfl) ?_
    refine OkL.call (v := (aG (intL (mkI true z.natAbs)))) (wt_none rfl) (op_call0 (args := [(Value.bool true), (aG (natL z.natAbs))]) rfl rfl Tryz.call91) (fun w hw => From_ok true z.natAbs w) rfl (leB rfl) ?_
    refine OkL.store' (i := 0) (off := 0) (vs := intL (mkI true z.natAbs)) (cs' := intL (mkI true z.natAbs)) (L' := [blk b1 34 (intL (mkI true z.natAbs))]) (wt_none rfl) rfl rfl rfl rfl rfl Tryz.sizeOf34 rfl rfl rfl rfl ?_
    refine OkL.nil ?_
    refine OkQ.subF (sC 0 rfl (sC 2 rfl (sN))) ?_
    refine OkQ.then_ ?_
    refine OkC.ret ?_
    refine OkQ.then_ret ?_
    exact ret_one rfl (rd_agg (i := 0) (cs := intL (mkI true z.natAbs)) rfl rfl Tryz.isAgg34 Tryz.sizeOf34 rfl) (fun w hw => ⟨by rw [he], hw.out⟩)
  · replace hc0 := of_decide_eq_false hc0
    have he := mkI_toNat hc0
    refine OkC.skip ?_
    refine q2 ?_
    refine st (ex_move rfl) (leB rfl) ?_
    refine st (ex_conv (c := ((z.natAbs : Nat) : Int)) rfl Tryz.underlying2 Tryz.underlying28 (by rw [wrap_u64 (by omega) (by omega)]; omega)) (leB rfl) ?_
    refine OkL.call (v := (aG (natL z.natAbs))) (wt_none rfl) (op_call0 (args := [(vK .u64 z.natAbs)]) rfl rfl Tryz.call118) (fun w hw => of64_ok z.natAbs (by omega) w) rfl (leB rfl) ?_
    refine OkL.call (v := (aG (intL (mkI false z.natAbs)))) (wt_none rfl) (op_call0 (args := [(Value.bool false), (aG (natL z.natAbs))]) rfl rfl Tryz.call91) (fun w hw => From_ok false z.natAbs w) rfl (leB rfl) ?_
    refine OkL.store' (i := 0) (off := 0) (vs := intL (mkI false z.natAbs)) (cs' := intL (mkI false z.natAbs)) (L' := [blk b1 34 (intL (mkI false z.natAbs))]) (wt_none rfl) rfl rfl rfl rfl rfl Tryz.sizeOf34 rfl rfl rfl rfl ?_
    refine OkL.nil ?_
    refine OkQ.subF (sC 0 rfl (sC 2 rfl (sN))) ?_
    refine OkQ.then_ ?_
    refine OkC.ret ?_
    exact ret_one rfl (rd_agg (i := 0) (cs := intL (mkI false z.natAbs)) rfl rfl Tryz.isAgg34 Tryz.sizeOf34 rfl) (fun w hw => ⟨by rw [he], hw.out⟩)

theorem iAbs_ok (a : Int) (w : World)  : Calls Tryz.prog 92 #[(aG (intL a))] w (Gives w (aG (natL a.natAbs))) := by
  refine calls_of (args := [(aG (intL a))]) Tryz.func92 rfl rfl (leB rfl) ?_
  refine OkC.subF (sC 0 rfl (sN)) ?_
  refine q4 ?_
  refine OkL.open_ (T := 34) (cs := intL a) (wt_none rfl) (op_box (cs := intL a) rfl rfl) rfl (leB rfl) ?_; intro b1
  refine OkL.open_ (T := 30) (cs := natL 0) (wt_none rfl) (op_alloc (cs := natL 0) Tryz.zeroValue30 rfl) rfl (leB rfl) ?_; intro b2
  refine q3 (sC 1 rfl (sC 2 rfl (sN))) ?_
  refine st (v := (pP b1 0)) (ex_fieldAddr rfl Tryz.underlying34 rfl Tryz.sizeOf32 rfl) (leB rfl) ?_
  refine st (v := (pP b1 0)) (ex_fieldAddr rfl Tryz.underlying32 rfl Tryz.sizeOf30 rfl) (leB rfl) ?_
  refine st (ex_load_agg (i := 1) (vs := natL a.natAbs) rfl rfl Tryz.isAgg30 Tryz.sizeOf30 rfl rfl) (leB rfl) ?_
  refine OkL.store' (i := 0) (off := 0) (vs := natL a.natAbs) (cs' := natL a.natAbs) (L' := [blk b2 30 (natL a.natAbs), blk b1 34 (intL a)]) (wt_none rfl) rfl rfl rfl rfl rfl Tryz.sizeOf30 rfl rfl rfl rfl ?_
  refine OkL.nil ?_
  refine OkQ.subF (sC 2 rfl (sN)) ?_
  refine OkQ.then_ ?_
  refine OkC.ret ?_
  exact ret_one rfl (rd_agg (i := 0) (cs := natL a.natAbs) rfl rfl Tryz.isAgg30 Tryz.sizeOf30 rfl) (fun w hw => ⟨rfl, hw.out⟩)

theorem iSign_ok (a : Int) (w : World)  : Calls Tryz.prog 65 #[(aG (intL a))] w (Gives w (vI a.sign)) := by
  refine calls_of (args := [(aG (intL a))]) Tryz.func65 rfl rfl (leB rfl) ?_
  refine OkC.subF (sC 0 rfl (sN)) ?_
  refine q4 ?_
  refine OkL.open_ (T := 34) (cs := intL a) (wt_none rfl) (op_box (cs := intL a) rfl rfl) rfl (leB rfl) ?_; intro b1
  refine st (ex_assign rfl) (leB rfl) ?_
  refine q6 (sC 1 rfl (sC 2 rfl (sN))) ?_
  refine OkC.block ?_
  refine q4 ?_
  refine st (v := (pP b1 0)) (ex_fieldAddr rfl Tryz.underlying34 rfl Tryz.sizeOf32 rfl) (leB rfl) ?_
  refine st (ex_load_agg (i := 0) (vs := natL a.natAbs) rfl rfl Tryz.isAgg32 Tryz.sizeOf32 rfl rfl) (leB rfl) ?_
  refine OkL.call (v := (Value.bool (decide (a.natAbs = 0)))) (wt_none rfl) (op_call0 (args := [(aG (natL a.natAbs))]) rfl rfl Tryz.call105) (fun w hw => size_zero_ok a.natAbs w) rfl (leB rfl) ?_
  refine st (ex_assign rfl) (leB rfl) ?_
  refine OkL.nil ?_
  refine OkQ.subF (sC 1 rfl (sC 2 rfl (sC 3 rfl (sN)))) ?_
  refine OkQ.then_ ?_
  refine OkC.cond rfl (fun hc0 => ?_) (fun hc0 => ?_)
  · replace hc0 := of_decide_eq_true hc0
    have he : a.sign = 0 := by rw [show a = 0 by omega]; rfl
    refine q4 ?_
    refine st (ex_assign rfl) (leB rfl) ?_
    refine OkL.nil ?_
    refine OkQ.then_ ?_
    refine OkC.ret ?_
    refine OkQ.in_ret ?_
    refine OkQ.then_ret ?_
    exact ret_one rfl (rd_tmp (v := (vI 0)) rfl) (fun w hw => ⟨by rw [he], hw.out⟩)
  · replace hc0 := of_decide_eq_false hc0
    refine q4 ?_
    refine st (v := (pP b1 2)) (ex_fieldAddr rfl Tryz.underlying34 rfl Tryz.sizeOf4 rfl) (leB rfl) ?_
    refine st (ex_load_one (i := 0) (v := (Value.bool (decide (a < 0)))) rfl rfl Tryz.isAgg4 rfl) (leB rfl) ?_
    refine st (ex_assign rfl) (leB rfl) ?_
    refine OkL.nil ?_
    refine OkQ.subF (sC 1 rfl (sC 2 rfl (sC 7 rfl (sN)))) ?_
    refine OkQ.then_ ?_
    refine OkC.cond rfl (fun hc1 => ?_) (fun hc1 => ?_)
    · replace hc1 := of_decide_eq_true hc1
      have he : a.sign = -1 := Int.sign_eq_neg_one_of_neg hc1
      refine q4 ?_
      refine st (ex_assign rfl) (leB rfl) ?_
      refine OkL.nil ?_
      refine OkQ.then_ ?_
      refine OkC.ret ?_
      refine OkQ.in_ret ?_
      refine OkQ.then_ret ?_
      exact ret_one rfl (rd_tmp (v := (vI (-1 : Int))) rfl) (fun w hw => ⟨by rw [he], hw.out⟩)
    · replace hc1 := of_decide_eq_false hc1
      have he : a.sign = 1 := Int.sign_eq_one_of_pos (by omega)
      refine OkC.skip ?_
      refine OkQ.in_normal ?_
      refine q2 ?_
      refine st (ex_assign rfl) (leB rfl) ?_
      refine OkL.nil ?_
      refine OkQ.then_ ?_
      refine OkC.ret ?_
      exact ret_one rfl (rd_tmp (v := (vI 1)) rfl) (fun w hw => ⟨by rw [he], hw.out⟩)

theorem iNeg_ok (a : Int) (w : World)  : Calls Tryz.prog 78 #[(aG (intL a))] w (Gives w (aG (intL (-a)))) := by
  refine calls_of (args := [(aG (intL a))]) Tryz.func78 rfl rfl (leB rfl) ?_
  refine OkC.subF (sC 0 rfl (sN)) ?_
  refine q4 ?_
  refine OkL.open_ (T := 34) (cs := intL a) (wt_none rfl) (op_box (cs := intL a) rfl rfl) rfl (leB rfl) ?_; intro b1
  refine OkL.open_ (T := 34) (cs := intL 0) (wt_none rfl) (op_alloc (cs := intL 0) Tryz.zeroValue34 rfl) rfl (leB rfl) ?_; intro b2
  refine q3 (sC 1 rfl (sC 2 rfl (sN))) ?_
  refine st (v := (pP b1 2)) (ex_fieldAddr rfl Tryz.underlying34 rfl Tryz.sizeOf4 rfl) (leB rfl) ?_
  refine st (ex_load_one (i := 1) (v := (Value.bool (decide (a < 0)))) rfl rfl Tryz.isAgg4 rfl) (leB rfl) ?_
  refine st (ex_not (c := (!(decide (a < 0)))) rfl rfl) (leB rfl) ?_
  refine st (v := (pP b1 0)) (ex_fieldAddr rfl Tryz.underlying34 rfl Tryz.sizeOf32 rfl) (leB rfl) ?_
  refine st (v := (pP b1 0)) (ex_fieldAddr rfl Tryz.underlying32 rfl Tryz.sizeOf30 rfl) (leB rfl) ?_
  refine st (ex_load_agg (i := 1) (vs := natL a.natAbs) rfl rfl Tryz.isAgg30 Tryz.sizeOf30 rfl rfl) (leB rfl) ?_
  refine OkL.call (v := (aG (intL (mkI (!(decide (a < 0))) a.natAbs)))) (wt_none rfl) (op_call0 (args := [(Value.bool (!(decide (a < 0)))), (aG (natL a.natAbs))]) rfl rfl Tryz.call91) (fun w hw => From_ok (!(decide (a < 0))) a.natAbs w) rfl (leB rfl) ?_
  refine OkL.store' (i := 0) (off := 0) (vs := intL (mkI (!(decide (a < 0))) a.natAbs)) (cs' := intL (mkI (!(decide (a < 0))) a.natAbs)) (L' := [blk b2 34 (intL (mkI (!(decide (a < 0))) a.natAbs)), blk b1 34 (intL a)]) (wt_none rfl) rfl rfl rfl rfl rfl Tryz.sizeOf34 rfl rfl rfl rfl ?_
  refine OkL.nil ?_
  refine OkQ.subF (sC 2 rfl (sN)) ?_
  refine OkQ.then_ ?_
  refine OkC.ret ?_
  exact ret_one rfl (rd_agg (i := 0) (cs := intL (mkI (!(decide (a < 0))) a.natAbs)) rfl rfl Tryz.isAgg34 Tryz.sizeOf34 rfl) (fun w hw => ⟨by rw [mkI_not], hw.out⟩)

theorem plus_ok (a b : Int) (ha : nw a.natAbs ≤ 1099511627776) (hb : nw b.natAbs ≤ 1099511627776) (w : World)  : Calls Tryz.prog 123 #[(aG (intL a)), (aG (intL b))] w (Gives w (aG (intL (a + b)))) := by
  refine calls_of (args := [(aG (intL a)), (aG (intL b))]) Tryz.func123 rfl rfl (leB rfl) ?_
  refine OkC.subF (sC 0 rfl (sC 1 rfl (sN))) ?_
  refine q4 ?_
  refine OkL.open_ (T := 34) (cs := intL a) (wt_none rfl) (op_box (cs := intL a) rfl rfl) rfl (leB rfl) ?_; intro b1
  refine OkL.open_ (T := 34) (cs := intL b) (wt_none rfl) (op_box (cs := intL b) rfl rfl) rfl (leB rfl) ?_; intro b2
  refine OkL.open_ (T := 34) (cs := intL 0) (wt_none rfl) (op_alloc (cs := intL 0) Tryz.zeroValue34 rfl) rfl (leB rfl) ?_; intro b3
  refine q6 (sC 2 rfl (sC 3 rfl (sC 4 rfl (sN)))) ?_
  refine q4 ?_
  refine st (v := (pP b1 2)) (ex_fieldAddr rfl Tryz.underlying34 rfl Tryz.sizeOf4 rfl) (leB rfl) ?_
  refine st (ex_load_one (i := 2) (v := (Value.bool (decide (a < 0)))) rfl rfl Tryz.isAgg4 rfl) (leB rfl) ?_
  refine st (v := (pP b2 2)) (ex_fieldAddr rfl Tryz.underlying34 rfl Tryz.sizeOf4 rfl) (leB rfl) ?_
  refine st (ex_load_one (i := 1) (v := (Value.bool (decide (b < 0)))) rfl rfl Tryz.isAgg4 rfl) (leB rfl) ?_
  refine st (ex_eql_bool (c := (decide (a < 0) == decide (b < 0))) rfl rfl Tryz.underlying4 rfl) (leB rfl) ?_
  refine OkL.nil ?_
  refine OkQ.subF (sC 2 rfl (sC 3 rfl (sC 4 rfl (sC 13 rfl (sN))))) ?_
  refine OkQ.then_ ?_
  refine OkC.cond rfl (fun hc0 => ?_) (fun hc0 => ?_)
  · skip
    have he := mkI_add_same hc0
    refine OkC.seq ?_
    refine dR (specs := [⟨.pure, fun _ => (pP b1 2), [], 0, []⟩, ⟨.held, fun _ => (Value.bool (decide (a < 0))), [], 0, []⟩, ⟨.pure, fun _ => (pP b1 0), [], 0, []⟩, ⟨.pure, fun _ => (pP b1 0), [], 0, []⟩, ⟨.held, fun _ => (aG (natL a.natAbs)), [], 0, []⟩, ⟨.pure, fun _ => (pP b2 0), [], 0, []⟩, ⟨.pure, fun _ => (pP b2 0), [], 0, []⟩, ⟨.held, fun _ => (aG (natL b.natAbs)), [], 0, []⟩, ⟨.call, fun _ => (aG (natL (a.natAbs + b.natAbs))), [], 0, []⟩, ⟨.call, fun _ => (aG (intL (mkI (decide (a < 0)) (a.natAbs + b.natAbs)))), [], 0, []⟩]) (Lro := [blk b2 34 (intL b), blk b1 34 (intL a)]) (List.Sublist.cons _ (List.Sublist.refl _)) (dC (dC (dC (dC (dC (dC (dC (dC (dC (dC (dN))))))))))) (by kernel_rfl) (by kernel_rfl) (fun _ _ d _ _ h => by cases d <;> exact h) (vC (vc_pure0 (G := fun β => [(2, (pP b1 0))]) (fun β => sF (by kernel_rfl)) (fun β _ => ex_fieldAddr rfl Tryz.underlying34 rfl Tryz.sizeOf4 rfl)) (vC (vc_held0 (G := fun β => [(14, (pP b1 2))]) (fun β => sF (by kernel_rfl)) (fun β => ex_load_one (i := 1) (v := (Value.bool (decide (a < 0)))) rfl rfl Tryz.isAgg4 rfl)) (vC (vc_pure0 (G := fun β => [(2, (pP b1 0))]) (fun β => sF (by kernel_rfl)) (fun β _ => ex_fieldAddr rfl Tryz.underlying34 rfl Tryz.sizeOf32 rfl)) (vC (vc_pure0 (G := fun β => [(16, (pP b1 0))]) (fun β => sF (by kernel_rfl)) (fun β _ => ex_fieldAddr rfl Tryz.underlying32 rfl Tryz.sizeOf30 rfl)) (vC (vc_held0 (G := fun β => [(17, (pP b1 0))]) (fun β => sF (by kernel_rfl)) (fun β => ex_load_agg (i := 1) (vs := natL a.natAbs) rfl rfl Tryz.isAgg30 Tryz.sizeOf30 rfl rfl)) (vC (vc_pure0 (G := fun β => [(3, (pP b2 0))]) (fun β => sF (by kernel_rfl)) (fun β _ => ex_fieldAddr rfl Tryz.underlying34 rfl Tryz.sizeOf32 rfl)) (vC (vc_pure0 (G := fun β => [(19, (pP b2 0))]) (fun β => sF (by kernel_rfl)) (fun β _ => ex_fieldAddr rfl Tryz.underlying32 rfl Tryz.sizeOf30 rfl)) (vC (vc_held0 (G := fun β => [(20, (pP b2 0))]) (fun β => sF (by kernel_rfl)) (fun β => ex_load_agg (i := 0) (vs := natL b.natAbs) rfl rfl Tryz.isAgg30 Tryz.sizeOf30 rfl rfl)) (vC (vc_call0 (G := fun β => [(18, (aG (natL a.natAbs))), (21, (aG (natL b.natAbs)))]) (fun β => sF (by kernel_rfl)) (fun β => op_call0 (args := [(aG (natL a.natAbs)), (aG (natL b.natAbs))]) rfl rfl Tryz.call122) (fun β w hw => Add_ok a.natAbs b.natAbs (by omega) (by omega) w)) (vC (vc_call0 (G := fun β => [(15, (Value.bool (decide (a < 0)))), (22, (aG (natL (a.natAbs + b.natAbs))))]) (fun β => sF (by kernel_rfl)) (fun β => op_call0 (args := [(Value.bool (decide (a < 0))), (aG (natL (a.natAbs + b.natAbs)))]) rfl rfl Tryz.call91) (fun β w hw => From_ok (decide (a < 0)) (a.natAbs + b.natAbs) w)) (VcAll.nil))))))))))) (fun β => ?_)
    refine OkLH.sub (F' := [(2, (pP b1 0)), (3, (pP b2 0)), (4, (pP b3 0)), (23, (aG (intL (mkI (decide (a < 0)) (a.natAbs + b.natAbs)))))]) (L' := [blk b3 34 (intL 0), blk b2 34 (intL b), blk b1 34 (intL a)]) (sF rfl) (List.Sublist.refl _) ?_
    refine OkLH.store' (i := 0) (off := 0) (vs := intL (mkI (decide (a < 0)) (a.natAbs + b.natAbs))) (cs' := intL (mkI (decide (a < 0)) (a.natAbs + b.natAbs))) (L' := [blk b3 34 (intL (mkI (decide (a < 0)) (a.natAbs + b.natAbs))), blk b2 34 (intL b), blk b1 34 (intL a)]) (List.Sublist.cons _ (List.Sublist.refl _)) (wt_none rfl) rfl rfl rfl rfl rfl Tryz.sizeOf34 rfl rfl rfl rfl ?_
    refine OkLH.nil ?_
    refine OkQ.subF (sC 2 rfl (sC 3 rfl (sC 4 rfl (sN)))) ?_
    refine OkQ.then_ ?_
    refine OkC.ret ?_
    refine OkQ.then_ret ?_
    exact ret_one rfl (rd_agg (i := 0) (cs := intL (mkI (decide (a < 0)) (a.natAbs + b.natAbs))) rfl rfl Tryz.isAgg34 Tryz.sizeOf34 rfl) (fun w hw => ⟨by rw [he], hw.out⟩)
  · skip
    refine OkC.skip ?_
    refine q1 ?_
    refine q4 ?_
    refine st (v := (pP b1 0)) (ex_fieldAddr rfl Tryz.underlying34 rfl Tryz.sizeOf32 rfl) (leB rfl) ?_
    refine st (v := (pP b1 0)) (ex_fieldAddr rfl Tryz.underlying32 rfl Tryz.sizeOf30 rfl) (leB rfl) ?_
    refine st (ex_load_agg (i := 2) (vs := natL a.natAbs) rfl rfl Tryz.isAgg30 Tryz.sizeOf30 rfl rfl) (leB rfl) ?_
    refine st (v := (pP b2 0)) (ex_fieldAddr rfl Tryz.underlying34 rfl Tryz.sizeOf32 rfl) (leB rfl) ?_
    refine st (v := (pP b2 0)) (ex_fieldAddr rfl Tryz.underlying32 rfl Tryz.sizeOf30 rfl) (leB rfl) ?_
    refine st (ex_load_agg (i := 1) (vs := natL b.natAbs) rfl rfl Tryz.isAgg30 Tryz.sizeOf30 rfl rfl) (leB rfl) ?_
    refine OkL.call (v := (Value.tuple #[(aG (natL (a.natAbs - b.natAbs))), (Value.bool (decide (b.natAbs ≤ a.natAbs)))])) (wt_none rfl) (op_call0 (args := [(aG (natL a.natAbs)), (aG (natL b.natAbs))]) rfl rfl Tryz.call117) (fun w hw => Sub_ok a.natAbs b.natAbs (by omega) (by omega) w) rfl (leB rfl) ?_
    refine st (ex_move rfl) (leB rfl) ?_
    refine st (ex_extract (v := (aG (natL (a.natAbs - b.natAbs)))) rfl rfl) (leB rfl) ?_
    refine st (ex_extract (v := (Value.bool (decide (b.natAbs ≤ a.natAbs)))) rfl rfl) (leB rfl) ?_
    refine OkL.open_ (T := 30) (cs := natL 0) (wt_none rfl) (op_alloc (cs := natL 0) Tryz.zeroValue30 rfl) rfl (leB rfl) ?_; intro b4
    refine OkL.store' (i := 0) (off := 0) (vs := natL (a.natAbs - b.natAbs)) (cs' := natL (a.natAbs - b.natAbs)) (L' := [blk b4 30 (natL (a.natAbs - b.natAbs)), blk b3 34 (intL 0), blk b2 34 (intL b), blk b1 34 (intL a)]) (wt_none rfl) rfl rfl rfl rfl rfl Tryz.sizeOf30 rfl rfl rfl rfl ?_
    refine st (ex_assign rfl) (leB rfl) ?_
    refine q3 (sC 2 rfl (sC 3 rfl (sC 4 rfl (sC 5 rfl (sC 6 rfl (sN)))))) ?_
    refine st (ex_move rfl) (leB rfl) ?_
    refine OkL.nil ?_
    refine OkQ.subF (sC 2 rfl (sC 3 rfl (sC 4 rfl (sC 5 rfl (sC 34 rfl (sN)))))) ?_
    refine OkQ.then_ ?_
    refine OkC.cond rfl (fun hc1 => ?_) (fun hc1 => ?_)
    · replace hc1 := of_decide_eq_true hc1
      have he := mkI_add_ge hc0 hc1
      refine q4 ?_
      refine st (v := (pP b1 2)) (ex_fieldAddr rfl Tryz.underlying34 rfl Tryz.sizeOf4 rfl) (leB rfl) ?_
      refine st (ex_load_one (i := 3) (v := (Value.bool (decide (a < 0)))) rfl rfl Tryz.isAgg4 rfl) (leB rfl) ?_
      refine st (ex_load_agg (i := 0) (vs := natL (a.natAbs - b.natAbs)) rfl rfl Tryz.isAgg30 Tryz.sizeOf30 rfl rfl) (leB rfl) ?_
      refine OkL.call (v := (aG (intL (mkI (decide (a < 0)) (a.natAbs - b.natAbs))))) (wt_none rfl) (op_call0 (args := [(Value.bool (decide (a < 0))), (aG (natL (a.natAbs - b.natAbs)))]) rfl rfl Tryz.call91) (fun w hw => From_ok (decide (a < 0)) (a.natAbs - b.natAbs) w) rfl (leB rfl) ?_
      refine OkL.store' (i := 1) (off := 0) (vs := intL (mkI (decide (a < 0)) (a.natAbs - b.natAbs))) (cs' := intL (mkI (decide (a < 0)) (a.natAbs - b.natAbs))) (L' := [blk b4 30 (natL (a.natAbs - b.natAbs)), blk b3 34 (intL (mkI (decide (a < 0)) (a.natAbs - b.natAbs))), blk b2 34 (intL b), blk b1 34 (intL a)]) (wt_none rfl) rfl rfl rfl rfl rfl Tryz.sizeOf34 rfl rfl rfl rfl ?_
      refine OkL.nil ?_
      refine OkQ.subF (sC 2 rfl (sC 3 rfl (sC 4 rfl (sC 5 rfl (sN))))) ?_
      refine OkQ.then_ ?_
      refine OkC.ret ?_
      refine OkQ.then_ret ?_
      exact ret_one rfl (rd_agg (i := 1) (cs := intL (mkI (decide (a < 0)) (a.natAbs - b.natAbs))) rfl rfl Tryz.isAgg34 Tryz.sizeOf34 rfl) (fun w hw => ⟨by rw [he], hw.out⟩)
    · replace hc1 := of_decide_eq_false hc1
      have he := mkI_add_lt hc0 hc1
      refine OkC.skip ?_
      refine q2 ?_
      refine st (v := (pP b2 0)) (ex_fieldAddr rfl Tryz.underlying34 rfl Tryz.sizeOf32 rfl) (leB rfl) ?_
      refine st (v := (pP b2 0)) (ex_fieldAddr rfl Tryz.underlying32 rfl Tryz.sizeOf30 rfl) (leB rfl) ?_
      refine st (ex_load_agg (i := 2) (vs := natL b.natAbs) rfl rfl Tryz.isAgg30 Tryz.sizeOf30 rfl rfl) (leB rfl) ?_
      refine st (v := (pP b1 0)) (ex_fieldAddr rfl Tryz.underlying34 rfl Tryz.sizeOf32 rfl) (leB rfl) ?_
      refine st (v := (pP b1 0)) (ex_fieldAddr rfl Tryz.underlying32 rfl Tryz.sizeOf30 rfl) (leB rfl) ?_
      refine st (ex_load_agg (i := 3) (vs := natL a.natAbs) rfl rfl Tryz.isAgg30 Tryz.sizeOf30 rfl rfl) (leB rfl) ?_
      refine OkL.call (v := (Value.tuple #[(aG (natL (b.natAbs - a.natAbs))), (Value.bool (decide (a.natAbs ≤ b.natAbs)))])) (wt_none rfl) (op_call0 (args := [(aG (natL b.natAbs)), (aG (natL a.natAbs))]) rfl rfl Tryz.call117) (fun w hw => Sub_ok b.natAbs a.natAbs (by omega) (by omega) w) rfl (leB rfl) ?_
      refine st (ex_move rfl) (leB rfl) ?_
      refine st (ex_extract (v := (aG (natL (b.natAbs - a.natAbs)))) rfl rfl) (leB rfl) ?_
      refine st (ex_extract (v := (Value.bool (decide (a.natAbs ≤ b.natAbs)))) rfl rfl) (leB rfl) ?_
      refine OkL.open_ (T := 30) (cs := natL 0) (wt_none rfl) (op_alloc (cs := natL 0) Tryz.zeroValue30 rfl) rfl (leB rfl) ?_; intro b5
      refine OkL.store' (i := 0) (off := 0) (vs := natL (b.natAbs - a.natAbs)) (cs' := natL (b.natAbs - a.natAbs)) (L' := [blk b5 30 (natL (b.natAbs - a.natAbs)), blk b4 30 (natL (a.natAbs - b.natAbs)), blk b3 34 (intL 0), blk b2 34 (intL b), blk b1 34 (intL a)]) (wt_none rfl) rfl rfl rfl rfl rfl Tryz.sizeOf30 rfl rfl rfl rfl ?_
      refine st (ex_assign rfl) (leB rfl) ?_
      refine q3 (sC 2 rfl (sC 3 rfl (sC 4 rfl (sC 5 rfl (sC 7 rfl (sN)))))) ?_
      refine st (v := (pP b2 2)) (ex_fieldAddr rfl Tryz.underlying34 rfl Tryz.sizeOf4 rfl) (leB rfl) ?_
      refine st (ex_load_one (i := 3) (v := (Value.bool (decide (b < 0)))) rfl rfl Tryz.isAgg4 rfl) (leB rfl) ?_
      refine st (ex_load_agg (i := 0) (vs := natL (b.natAbs - a.natAbs)) rfl rfl Tryz.isAgg30 Tryz.sizeOf30 rfl rfl) (leB rfl) ?_
      refine OkL.call (v := (aG (intL (mkI (decide (b < 0)) (b.natAbs - a.natAbs))))) (wt_none rfl) (op_call0 (args := [(Value.bool (decide (b < 0))), (aG (natL (b.natAbs - a.natAbs)))]) rfl rfl Tryz.call91) (fun w hw => From_ok (decide (b < 0)) (b.natAbs - a.natAbs) w) rfl (leB rfl) ?_
      refine OkL.store' (i := 2) (off := 0) (vs := intL (mkI (decide (b < 0)) (b.natAbs - a.natAbs))) (cs' := intL (mkI (decide (b < 0)) (b.natAbs - a.natAbs))) (L' := [blk b5 30 (natL (b.natAbs - a.natAbs)), blk b4 30 (natL (a.natAbs - b.natAbs)), blk b3 34 (intL (mkI (decide (b < 0)) (b.natAbs - a.natAbs))), blk b2 34 (intL b), blk b1 34 (intL a)]) (wt_none rfl) rfl rfl rfl rfl rfl Tryz.sizeOf34 rfl rfl rfl rfl ?_
      refine OkL.nil ?_
      refine OkQ.subF (sC 2 rfl (sC 3 rfl (sC 4 rfl (sC 5 rfl (sC 7 rfl (sN)))))) ?_
      refine OkQ.then_ ?_
      refine OkC.ret ?_
      exact ret_one rfl (rd_agg (i := 2) (cs := intL (mkI (decide (b < 0)) (b.natAbs - a.natAbs))) rfl rfl Tryz.isAgg34 Tryz.sizeOf34 rfl) (fun w hw => ⟨by rw [he], hw.out⟩)

theorem times_ok (a b : Int) (ha : nw a.natAbs ≤ 1099511627776) (hb : nw b.natAbs ≤ 1099511627776) (w : World)  : Calls Tryz.prog 114 #[(aG (intL a)), (aG (intL b))] w (Gives w (aG (intL (a * b)))) := by
  refine calls_of (args := [(aG (intL a)), (aG (intL b))]) Tryz.func114 rfl rfl (leB rfl) ?_
  refine OkC.subF (sC 0 rfl (sC 1 rfl (sN))) ?_
  refine q4 ?_
  refine OkL.open_ (T := 34) (cs := intL a) (wt_none rfl) (op_box (cs := intL a) rfl rfl) rfl (leB rfl) ?_; intro b1
  refine OkL.open_ (T := 34) (cs := intL b) (wt_none rfl) (op_box (cs := intL b) rfl rfl) rfl (leB rfl) ?_; intro b2
  refine OkL.open_ (T := 34) (cs := intL 0) (wt_none rfl) (op_alloc (cs := intL 0) Tryz.zeroValue34 rfl) rfl (leB rfl) ?_; intro b3
  refine q6 (sC 2 rfl (sC 3 rfl (sC 4 rfl (sN)))) ?_
  refine dR (specs := [⟨.pure, fun _ => (pP b1 2), [], 0, []⟩, ⟨.held, fun _ => (Value.bool (decide (a < 0))), [], 0, []⟩, ⟨.pure, fun _ => (pP b2 2), [], 0, []⟩, ⟨.held, fun _ => (Value.bool (decide (b < 0))), [], 0, []⟩, ⟨.pure, fun _ => (Value.bool (!(decide (a < 0) == decide (b < 0)))), [], 0, []⟩, ⟨.pure, fun _ => (pP b1 0), [], 0, []⟩, ⟨.pure, fun _ => (pP b1 0), [], 0, []⟩, ⟨.held, fun _ => (aG (natL a.natAbs)), [], 0, []⟩, ⟨.pure, fun _ => (pP b2 0), [], 0, []⟩, ⟨.pure, fun _ => (pP b2 0), [], 0, []⟩, ⟨.held, fun _ => (aG (natL b.natAbs)), [], 0, []⟩, ⟨.call, fun _ => (aG (natL (a.natAbs * b.natAbs))), [], 0, []⟩, ⟨.call, fun _ => (aG (intL (mkI (!(decide (a < 0) == decide (b < 0))) (a.natAbs * b.natAbs)))), [], 0, []⟩]) (Lro := [blk b2 34 (intL b), blk b1 34 (intL a)]) (List.Sublist.cons _ (List.Sublist.refl _)) (dC (dC (dC (dC (dC (dC (dC (dC (dC (dC (dC (dC (dC (dN)))))))))))))) (by kernel_rfl) (by kernel_rfl) (fun _ _ d _ _ h => by cases d <;> exact h) (vC (vc_pure0 (G := fun β => [(2, (pP b1 0))]) (fun β => sF (by kernel_rfl)) (fun β _ => ex_fieldAddr rfl Tryz.underlying34 rfl Tryz.sizeOf4 rfl)) (vC (vc_held0 (G := fun β => [(5, (pP b1 2))]) (fun β => sF (by kernel_rfl)) (fun β => ex_load_one (i := 1) (v := (Value.bool (decide (a < 0)))) rfl rfl Tryz.isAgg4 rfl)) (vC (vc_pure0 (G := fun β => [(3, (pP b2 0))]) (fun β => sF (by kernel_rfl)) (fun β _ => ex_fieldAddr rfl Tryz.underlying34 rfl Tryz.sizeOf4 rfl)) (vC (vc_held0 (G := fun β => [(7, (pP b2 2))]) (fun β => sF (by kernel_rfl)) (fun β => ex_load_one (i := 0) (v := (Value.bool (decide (b < 0)))) rfl rfl Tryz.isAgg4 rfl)) (vC (vc_pure0 (G := fun β => [(6, (Value.bool (decide (a < 0)))), (8, (Value.bool (decide (b < 0))))]) (fun β => sF (by kernel_rfl)) (fun β _ => ex_neq_bool (c := (!(decide (a < 0) == decide (b < 0)))) rfl rfl Tryz.underlying4 rfl)) (vC (vc_pure0 (G := fun β => [(2, (pP b1 0))]) (fun β => sF (by kernel_rfl)) (fun β _ => ex_fieldAddr rfl Tryz.underlying34 rfl Tryz.sizeOf32 rfl)) (vC (vc_pure0 (G := fun β => [(10, (pP b1 0))]) (fun β => sF (by kernel_rfl)) (fun β _ => ex_fieldAddr rfl Tryz.underlying32 rfl Tryz.sizeOf30 rfl)) (vC (vc_held0 (G := fun β => [(11, (pP b1 0))]) (fun β => sF (by kernel_rfl)) (fun β => ex_load_agg (i := 1) (vs := natL a.natAbs) rfl rfl Tryz.isAgg30 Tryz.sizeOf30 rfl rfl)) (vC (vc_pure0 (G := fun β => [(3, (pP b2 0))]) (fun β => sF (by kernel_rfl)) (fun β _ => ex_fieldAddr rfl Tryz.underlying34 rfl Tryz.sizeOf32 rfl)) (vC (vc_pure0 (G := fun β => [(13, (pP b2 0))]) (fun β => sF (by kernel_rfl)) (fun β _ => ex_fieldAddr rfl Tryz.underlying32 rfl Tryz.sizeOf30 rfl)) (vC (vc_held0 (G := fun β => [(14, (pP b2 0))]) (fun β => sF (by kernel_rfl)) (fun β => ex_load_agg (i := 0) (vs := natL b.natAbs) rfl rfl Tryz.isAgg30 Tryz.sizeOf30 rfl rfl)) (vC (vc_call0 (G := fun β => [(12, (aG (natL a.natAbs))), (15, (aG (natL b.natAbs)))]) (fun β => sF (by kernel_rfl)) (fun β => op_call0 (args := [(aG (natL a.natAbs)), (aG (natL b.natAbs))]) rfl rfl Tryz.call84) (fun β w hw => Mul_ok a.natAbs b.natAbs (by omega) (by omega) w)) (vC (vc_call0 (G := fun β => [(9, (Value.bool (!(decide (a < 0) == decide (b < 0))))), (16, (aG (natL (a.natAbs * b.natAbs))))]) (fun β => sF (by kernel_rfl)) (fun β => op_call0 (args := [(Value.bool (!(decide (a < 0) == decide (b < 0)))), (aG (natL (a.natAbs * b.natAbs)))]) rfl rfl Tryz.call91) (fun β w hw => From_ok (!(decide (a < 0) == decide (b < 0))) (a.natAbs * b.natAbs) w)) (VcAll.nil)))))))))))))) (fun β => ?_)
  refine OkLH.sub (F' := [(4, (pP b3 0)), (17, (aG (intL (mkI (!(decide (a < 0) == decide (b < 0))) (a.natAbs * b.natAbs)))))]) (L' := [blk b3 34 (intL 0), blk b2 34 (intL b), blk b1 34 (intL a)]) (sF rfl) (List.Sublist.refl _) ?_
  refine OkLH.store' (i := 0) (off := 0) (vs := intL (mkI (!(decide (a < 0) == decide (b < 0))) (a.natAbs * b.natAbs))) (cs' := intL (mkI (!(decide (a < 0) == decide (b < 0))) (a.natAbs * b.natAbs))) (L' := [blk b3 34 (intL (mkI (!(decide (a < 0) == decide (b < 0))) (a.natAbs * b.natAbs))), blk b2 34 (intL b), blk b1 34 (intL a)]) (List.Sublist.cons _ (List.Sublist.refl _)) (wt_none rfl) rfl rfl rfl rfl rfl Tryz.sizeOf34 rfl rfl rfl rfl ?_
  refine OkLH.nil ?_
  refine OkQ.subF (sC 4 rfl (sN)) ?_
  refine OkQ.then_ ?_
  refine OkC.ret ?_
  exact ret_one rfl (rd_agg (i := 0) (cs := intL (mkI (!(decide (a < 0) == decide (b < 0))) (a.natAbs * b.natAbs))) rfl rfl Tryz.isAgg34 Tryz.sizeOf34 rfl) (fun w hw => ⟨by rw [mkI_mul], hw.out⟩)

theorem told_plus_ok (a b : Int) (ha : nw a.natAbs ≤ 1099511627776) (hb : nw b.natAbs ≤ 1099511627776) (w : World)  : Calls Tryz.prog 113 #[(Value.func (.func 123) #[] #[]), (aG (intL a)), (aG (intL b))] w (Gives w (aG (intL (a + b)))) := by
  refine calls_of (args := [(Value.func (.func 123) #[] #[]), (aG (intL a)), (aG (intL b))]) Tryz.func113 rfl rfl (leB rfl) ?_
  refine OkC.subF (sC 0 rfl (sC 1 rfl (sC 2 rfl (sN)))) ?_
  refine q4 ?_
  refine OkL.open_ (T := 34) (cs := intL a) (wt_none rfl) (op_box (cs := intL a) rfl rfl) rfl (leB rfl) ?_; intro b1
  refine OkL.open_ (T := 34) (cs := intL b) (wt_none rfl) (op_box (cs := intL b) rfl rfl) rfl (leB rfl) ?_; intro b2
  refine OkL.open_ (T := 34) (cs := intL 0) (wt_none rfl) (op_alloc (cs := intL 0) Tryz.zeroValue34 rfl) rfl (leB rfl) ?_; intro b3
  refine q3 (sC 0 rfl (sC 4 rfl (sC 5 rfl (sC 6 rfl (sN))))) ?_
  refine st (ex_move rfl) (leB rfl) ?_
  refine st (ex_load_agg (i := 2) (vs := intL a) rfl rfl Tryz.isAgg34 Tryz.sizeOf34 rfl rfl) (leB rfl) ?_
  refine st (ex_load_agg (i := 1) (vs := intL b) rfl rfl Tryz.isAgg34 Tryz.sizeOf34 rfl rfl) (leB rfl) ?_
  refine OkL.call (v := (aG (intL (a + b)))) (wt_none rfl) (op_call0 (args := [(aG (intL a)), (aG (intL b))]) rfl rfl Tryz.call123) (fun w hw => plus_ok a b (by first | omega | (simp only [Int.natAbs_neg, mkI_natAbs, Int.natAbs_natCast]; omega)) (by first | omega | (simp only [Int.natAbs_neg, mkI_natAbs, Int.natAbs_natCast]; omega)) w) rfl (leB rfl) ?_
  refine OkL.store' (i := 0) (off := 0) (vs := intL (a + b)) (cs' := intL (a + b)) (L' := [blk b3 34 (intL (a + b)), blk b2 34 (intL b), blk b1 34 (intL a)]) (wt_none rfl) rfl rfl rfl rfl rfl Tryz.sizeOf34 rfl rfl rfl rfl ?_
  refine OkL.nil ?_
  refine OkQ.subF (sC 6 rfl (sN)) ?_
  refine OkQ.then_ ?_
  refine OkC.ret ?_
  exact ret_one rfl (rd_agg (i := 0) (cs := intL (a + b)) rfl rfl Tryz.isAgg34 Tryz.sizeOf34 rfl) (fun w hw => ⟨rfl, hw.out⟩)

theorem told_times_ok (a b : Int) (ha : nw a.natAbs ≤ 1099511627776) (hb : nw b.natAbs ≤ 1099511627776) (w : World)  : Calls Tryz.prog 113 #[(Value.func (.func 114) #[] #[]), (aG (intL a)), (aG (intL b))] w (Gives w (aG (intL (a * b)))) := by
  refine calls_of (args := [(Value.func (.func 114) #[] #[]), (aG (intL a)), (aG (intL b))]) Tryz.func113 rfl rfl (leB rfl) ?_
  refine OkC.subF (sC 0 rfl (sC 1 rfl (sC 2 rfl (sN)))) ?_
  refine q4 ?_
  refine OkL.open_ (T := 34) (cs := intL a) (wt_none rfl) (op_box (cs := intL a) rfl rfl) rfl (leB rfl) ?_; intro b1
  refine OkL.open_ (T := 34) (cs := intL b) (wt_none rfl) (op_box (cs := intL b) rfl rfl) rfl (leB rfl) ?_; intro b2
  refine OkL.open_ (T := 34) (cs := intL 0) (wt_none rfl) (op_alloc (cs := intL 0) Tryz.zeroValue34 rfl) rfl (leB rfl) ?_; intro b3
  refine q3 (sC 0 rfl (sC 4 rfl (sC 5 rfl (sC 6 rfl (sN))))) ?_
  refine st (ex_move rfl) (leB rfl) ?_
  refine st (ex_load_agg (i := 2) (vs := intL a) rfl rfl Tryz.isAgg34 Tryz.sizeOf34 rfl rfl) (leB rfl) ?_
  refine st (ex_load_agg (i := 1) (vs := intL b) rfl rfl Tryz.isAgg34 Tryz.sizeOf34 rfl rfl) (leB rfl) ?_
  refine OkL.call (v := (aG (intL (a * b)))) (wt_none rfl) (op_call0 (args := [(aG (intL a)), (aG (intL b))]) rfl rfl Tryz.call114) (fun w hw => times_ok a b (by first | omega | (simp only [Int.natAbs_neg, mkI_natAbs, Int.natAbs_natCast]; omega)) (by first | omega | (simp only [Int.natAbs_neg, mkI_natAbs, Int.natAbs_natCast]; omega)) w) rfl (leB rfl) ?_
  refine OkL.store' (i := 0) (off := 0) (vs := intL (a * b)) (cs' := intL (a * b)) (L' := [blk b3 34 (intL (a * b)), blk b2 34 (intL b), blk b1 34 (intL a)]) (wt_none rfl) rfl rfl rfl rfl rfl Tryz.sizeOf34 rfl rfl rfl rfl ?_
  refine OkL.nil ?_
  refine OkQ.subF (sC 6 rfl (sN)) ?_
  refine OkQ.then_ ?_
  refine OkC.ret ?_
  exact ret_one rfl (rd_agg (i := 0) (cs := intL (a * b)) rfl rfl Tryz.isAgg34 Tryz.sizeOf34 rfl) (fun w hw => ⟨rfl, hw.out⟩)

theorem iAdd_ok (a b : Int) (ha : nw a.natAbs ≤ 1099511627776) (hb : nw b.natAbs ≤ 1099511627776) (w : World)  : Calls Tryz.prog 86 #[(aG (intL a)), (aG (intL b))] w (Gives w (aG (intL (a + b)))) := by
  refine calls_of (args := [(aG (intL a)), (aG (intL b))]) Tryz.func86 rfl rfl (leB rfl) ?_
  refine OkC.subF (sC 0 rfl (sC 1 rfl (sN))) ?_
  refine q4 ?_
  refine OkL.open_ (T := 34) (cs := intL a) (wt_none rfl) (op_box (cs := intL a) rfl rfl) rfl (leB rfl) ?_; intro b1
  refine OkL.open_ (T := 34) (cs := intL b) (wt_none rfl) (op_box (cs := intL b) rfl rfl) rfl (leB rfl) ?_; intro b2
  refine OkL.open_ (T := 34) (cs := intL 0) (wt_none rfl) (op_alloc (cs := intL 0) Tryz.zeroValue34 rfl) rfl (leB rfl) ?_; intro b3
  refine q3 (sC 2 rfl (sC 3 rfl (sC 4 rfl (sN)))) ?_
  refine st (ex_load_agg (i := 2) (vs := intL a) rfl rfl Tryz.isAgg34 Tryz.sizeOf34 rfl rfl) (leB rfl) ?_
  refine st (ex_load_agg (i := 1) (vs := intL b) rfl rfl Tryz.isAgg34 Tryz.sizeOf34 rfl rfl) (leB rfl) ?_
  refine OkL.call (v := (aG (intL (a + b)))) (wt_none rfl) (op_call0 (args := [(Value.func (.func 123) #[] #[]), (aG (intL a)), (aG (intL b))]) rfl rfl Tryz.call113) (fun w hw => told_plus_ok a b (by first | omega | (simp only [Int.natAbs_neg, mkI_natAbs, Int.natAbs_natCast]; omega)) (by first | omega | (simp only [Int.natAbs_neg, mkI_natAbs, Int.natAbs_natCast]; omega)) w) rfl (leB rfl) ?_
  refine OkL.store' (i := 0) (off := 0) (vs := intL (a + b)) (cs' := intL (a + b)) (L' := [blk b3 34 (intL (a + b)), blk b2 34 (intL b), blk b1 34 (intL a)]) (wt_none rfl) rfl rfl rfl rfl rfl Tryz.sizeOf34 rfl rfl rfl rfl ?_
  refine OkL.nil ?_
  refine OkQ.subF (sC 4 rfl (sN)) ?_
  refine OkQ.then_ ?_
  refine OkC.ret ?_
  exact ret_one rfl (rd_agg (i := 0) (cs := intL (a + b)) rfl rfl Tryz.isAgg34 Tryz.sizeOf34 rfl) (fun w hw => ⟨rfl, hw.out⟩)

theorem iSub_ok (a b : Int) (ha : nw a.natAbs ≤ 1099511627776) (hb : nw b.natAbs ≤ 1099511627776) (w : World)  : Calls Tryz.prog 124 #[(aG (intL a)), (aG (intL b))] w (Gives w (aG (intL (a - b)))) := by
  refine calls_of (args := [(aG (intL a)), (aG (intL b))]) Tryz.func124 rfl rfl (leB rfl) ?_
  refine OkC.subF (sC 0 rfl (sC 1 rfl (sN))) ?_
  refine q4 ?_
  refine OkL.open_ (T := 34) (cs := intL a) (wt_none rfl) (op_box (cs := intL a) rfl rfl) rfl (leB rfl) ?_; intro b1
  refine OkL.open_ (T := 34) (cs := intL b) (wt_none rfl) (op_box (cs := intL b) rfl rfl) rfl (leB rfl) ?_; intro b2
  refine OkL.open_ (T := 34) (cs := intL 0) (wt_none rfl) (op_alloc (cs := intL 0) Tryz.zeroValue34 rfl) rfl (leB rfl) ?_; intro b3
  refine q6 (sC 2 rfl (sC 3 rfl (sC 4 rfl (sN)))) ?_
  refine dR (specs := [⟨.held, fun _ => (aG (intL a)), [], 0, []⟩, ⟨.held, fun _ => (aG (intL b)), [], 0, []⟩, ⟨.call, fun _ => (aG (intL (-b))), [], 0, []⟩, ⟨.call, fun _ => (aG (intL (a + (-b)))), [], 0, []⟩]) (Lro := [blk b2 34 (intL b), blk b1 34 (intL a)]) (List.Sublist.cons _ (List.Sublist.refl _)) (dC (dC (dC (dC (dN))))) (by kernel_rfl) (by kernel_rfl) (fun _ _ d _ _ h => by cases d <;> exact h) (vC (vc_held0 (G := fun β => [(2, (pP b1 0))]) (fun β => sF (by kernel_rfl)) (fun β => ex_load_agg (i := 1) (vs := intL a) rfl rfl Tryz.isAgg34 Tryz.sizeOf34 rfl rfl)) (vC (vc_held0 (G := fun β => [(3, (pP b2 0))]) (fun β => sF (by kernel_rfl)) (fun β => ex_load_agg (i := 0) (vs := intL b) rfl rfl Tryz.isAgg34 Tryz.sizeOf34 rfl rfl)) (vC (vc_call0 (G := fun β => [(6, (aG (intL b)))]) (fun β => sF (by kernel_rfl)) (fun β => op_call0 (args := [(aG (intL b))]) rfl rfl Tryz.call78) (fun β w hw => iNeg_ok b w)) (vC (vc_call0 (G := fun β => [(5, (aG (intL a))), (7, (aG (intL (-b))))]) (fun β => sF (by kernel_rfl)) (fun β => op_call0 (args := [(Value.func (.func 123) #[] #[]), (aG (intL a)), (aG (intL (-b)))]) rfl rfl Tryz.call113) (fun β w hw => told_plus_ok a (-b) (by first | omega | (simp only [Int.natAbs_neg, mkI_natAbs, Int.natAbs_natCast]; omega)) (by first | omega | (simp only [Int.natAbs_neg, mkI_natAbs, Int.natAbs_natCast]; omega)) w)) (VcAll.nil))))) (fun β => ?_)
  refine OkLH.sub (F' := [(4, (pP b3 0)), (8, (aG (intL (a + (-b)))))]) (L' := [blk b3 34 (intL 0), blk b2 34 (intL b), blk b1 34 (intL a)]) (sF rfl) (List.Sublist.refl _) ?_
  refine OkLH.store' (i := 0) (off := 0) (vs := intL (a + (-b))) (cs' := intL (a + (-b))) (L' := [blk b3 34 (intL (a + (-b))), blk b2 34 (intL b), blk b1 34 (intL a)]) (List.Sublist.cons _ (List.Sublist.refl _)) (wt_none rfl) rfl rfl rfl rfl rfl Tryz.sizeOf34 rfl rfl rfl rfl ?_
  refine OkLH.nil ?_
  refine OkQ.subF (sC 4 rfl (sN)) ?_
  refine OkQ.then_ ?_
  refine OkC.ret ?_
  exact ret_one rfl (rd_agg (i := 0) (cs := intL (a + (-b))) rfl rfl Tryz.isAgg34 Tryz.sizeOf34 rfl) (fun w hw => ⟨by rw [Int.sub_eq_add_neg], hw.out⟩)

theorem iMul_ok (a b : Int) (ha : nw a.natAbs ≤ 1099511627776) (hb : nw b.natAbs ≤ 1099511627776) (w : World)  : Calls Tryz.prog 82 #[(aG (intL a)), (aG (intL b))] w (Gives w (aG (intL (a * b)))) := by
  refine calls_of (args := [(aG (intL a)), (aG (intL b))]) Tryz.func82 rfl rfl (leB rfl) ?_
  refine OkC.subF (sC 0 rfl (sC 1 rfl (sN))) ?_
  refine q4 ?_
  refine OkL.open_ (T := 34) (cs := intL a) (wt_none rfl) (op_box (cs := intL a) rfl rfl) rfl (leB rfl) ?_; intro b1
  refine OkL.open_ (T := 34) (cs := intL b) (wt_none rfl) (op_box (cs := intL b) rfl rfl) rfl (leB rfl) ?_; intro b2
  refine OkL.open_ (T := 34) (cs := intL 0) (wt_none rfl) (op_alloc (cs := intL 0) Tryz.zeroValue34 rfl) rfl (leB rfl) ?_; intro b3
  refine q3 (sC 2 rfl (sC 3 rfl (sC 4 rfl (sN)))) ?_
  refine st (ex_load_agg (i := 2) (vs := intL a) rfl rfl Tryz.isAgg34 Tryz.sizeOf34 rfl rfl) (leB rfl) ?_
  refine st (ex_load_agg (i := 1) (vs := intL b) rfl rfl Tryz.isAgg34 Tryz.sizeOf34 rfl rfl) (leB rfl) ?_
  refine OkL.call (v := (aG (intL (a * b)))) (wt_none rfl) (op_call0 (args := [(Value.func (.func 114) #[] #[]), (aG (intL a)), (aG (intL b))]) rfl rfl Tryz.call113) (fun w hw => told_times_ok a b (by first | omega | (simp only [Int.natAbs_neg, mkI_natAbs, Int.natAbs_natCast]; omega)) (by first | omega | (simp only [Int.natAbs_neg, mkI_natAbs, Int.natAbs_natCast]; omega)) w) rfl (leB rfl) ?_
  refine OkL.store' (i := 0) (off := 0) (vs := intL (a * b)) (cs' := intL (a * b)) (L' := [blk b3 34 (intL (a * b)), blk b2 34 (intL b), blk b1 34 (intL a)]) (wt_none rfl) rfl rfl rfl rfl rfl Tryz.sizeOf34 rfl rfl rfl rfl ?_
  refine OkL.nil ?_
  refine OkQ.subF (sC 4 rfl (sN)) ?_
  refine OkQ.then_ ?_
  refine OkC.ret ?_
  exact ret_one rfl (rd_agg (i := 0) (cs := intL (a * b)) rfl rfl Tryz.isAgg34 Tryz.sizeOf34 rfl) (fun w hw => ⟨rfl, hw.out⟩)

theorem iCmp_ok (a b : Int) (ha : nw a.natAbs ≤ 1099511627776) (hb : nw b.natAbs ≤ 1099511627776) (w : World)  : Calls Tryz.prog 89 #[(aG (intL a)), (aG (intL b))] w (Gives w (vI ((a - b).sign))) := by
  refine calls_of (args := [(aG (intL a)), (aG (intL b))]) Tryz.func89 rfl rfl (leB rfl) ?_
  refine OkC.subF (sC 0 rfl (sC 1 rfl (sN))) ?_
  refine q4 ?_
  refine OkL.open_ (T := 34) (cs := intL a) (wt_none rfl) (op_box (cs := intL a) rfl rfl) rfl (leB rfl) ?_; intro b1
  refine OkL.open_ (T := 34) (cs := intL b) (wt_none rfl) (op_box (cs := intL b) rfl rfl) rfl (leB rfl) ?_; intro b2
  refine st (ex_assign rfl) (leB rfl) ?_
  refine q3 (sC 2 rfl (sC 3 rfl (sC 4 rfl (sN)))) ?_
  refine st (ex_load_agg (i := 1) (vs := intL a) rfl rfl Tryz.isAgg34 Tryz.sizeOf34 rfl rfl) (leB rfl) ?_
  refine st (ex_load_agg (i := 0) (vs := intL b) rfl rfl Tryz.isAgg34 Tryz.sizeOf34 rfl rfl) (leB rfl) ?_
  refine OkL.call (v := (aG (intL (a - b)))) (wt_none rfl) (op_call0 (args := [(aG (intL a)), (aG (intL b))]) rfl rfl Tryz.call124) (fun w hw => iSub_ok a b (by first | omega | (simp only [Int.natAbs_neg, mkI_natAbs, Int.natAbs_natCast]; omega)) (by first | omega | (simp only [Int.natAbs_neg, mkI_natAbs, Int.natAbs_natCast]; omega)) w) rfl (leB rfl) ?_
  refine OkL.call (v := (vI ((a - b).sign))) (wt_none rfl) (op_call0 (args := [(aG (intL (a - b)))]) rfl rfl Tryz.call65) (fun w hw => iSign_ok (a - b) w) rfl (leB rfl) ?_
  refine st (ex_assign rfl) (leB rfl) ?_
  refine OkL.nil ?_
  refine OkQ.subF (sC 4 rfl (sN)) ?_
  refine OkQ.then_ ?_
  refine OkC.ret ?_
  exact ret_one rfl (rd_tmp (v := (vI ((a - b).sign))) rfl) (fun w hw => ⟨rfl, hw.out⟩)


end Go.Proofs.YtpkoldfmbebmgaaGreatDoor
