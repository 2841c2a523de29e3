import Derived.Test.YtgiacpkjnikjdaaGreatPart06
import Derived.Test.YtgiacpkjnikjdaaGreatPart18
namespace Go.Proofs.YtgiacpkjnikjdaaGreat
open Go Go.RowKit
set_option linter.unusedVariables false
set_option linter.unusedSimpArgs false
section
set_option maxRecDepth 100000
theorem fill_numk_77_  : Instr.fill ([(0, 2)].toArray[·]?) (natL 0).toArray [] = some (natL 0).toArray := by kernel_rfl
theorem size_zero_ok (n : Nat) (w : World)  : Calls Tryz.prog 179 #[(aG (natL n))] w (Gives w (Value.bool (decide (n = 0)))) := by
 refine calls_of (args := [(aG (natL n))]) Tryz.func179 rfl rfl (leB rfl) (OkC.subF (sL [0] rfl) (q4 (bx' (cs := natL n) rfl fun b1 => asg' rfl (q3 (sL [1, 2] rfl) ?_))))
 refine ldW' 0 tA77 rfl (st' (v := (aG (natL 0))) (ex_build_struct (zs := natL 0) (vs := natL 0) (pv := []) (places := [(0, 2)]) Tryz.zeroValue77 Tryz.underlying77 (fun w => by simp [Tryz.sizeOf75]) rfl (fill_numk_77_ )) rfl (st' (ex_eql_agg (c := (decide (n = 0))) rfl rfl Tryz.eqGuardType77 (eqB_size 9997 n 0)) rfl (asg' rfl (OkL.nil (OkQ.subF (sL [2] rfl) ?_)))))
 exact OkQ.then_ (OkC.ret (ret_one rfl (rd_tmp (v := (Value.bool (decide (n = 0)))) rfl) (fun w hw => ⟨rfl, hw.out⟩)))
theorem fill_numk_77_0natL (x0 : Nat) : Instr.fill ([(0, 2)].toArray[·]?) (natL 0).toArray [(0, .agg (natL x0).toArray)] = some (natL x0).toArray := by kernel_rfl
theorem From_true (n : Nat) (w : World)  : Calls Tryz.prog 140 #[(Value.bool true), (aG (natL n))] w (Gives w (aG (intL (mkI true n)))) := by
 refine calls_of (args := [(Value.bool true), (aG (natL n))]) Tryz.func140 rfl rfl (leB rfl) (OkC.subF (sL [0, 1] rfl) (q4 (bx' (cs := natL n) rfl fun b1 => al tZ79 rfl fun b2 => q3 (sL [0, 3, 4] rfl) ?_)))
 refine ldW' 1 tA75 rfl (st' (v := (aG (natL n))) (ex_build_struct (zs := natL 0) (vs := natL n) (pv := [(0, (aG (natL n)))]) (places := [(0, 2)]) Tryz.zeroValue77 Tryz.underlying77 (fun w => by simp [Tryz.sizeOf75]) rfl (fill_numk_77_0natL n)) rfl (al tZ77 rfl fun b3 => stW0' rfl Tryz.sizeOf77 rfl (q6 (sL [0, 4, 5] rfl) (rG' [(0, true), (1, true), (2, true), (3, true), (4, false), (5, true), (6, true), (7, true), (8, false)] (sk (sl sr)) ?_))))
 refine pW' 0 tA77 rfl (pM' rfl (pM' rfl (OkE.pas (v := (aG (natL n))) rfl (wt_some' rfl) (ex_load_agg (i := 0) (vs := natL n) rfl rfl tA77.a tA77.s rfl rfl) rfl rfl (OkE.imp rfl (OkL.call (v := (Value.bool (decide (n = 0)))) (wt_some' rfl) (op_call0 (args := [(aG (natL n))]) rfl rfl Tryz.call179) (fun w hw => size_zero_ok n w) rfl (leB rfl) ?_)))))
 refine OkE.back (sk (sl sr)) (OkE.pas (v := (Value.bool (!(decide (n = 0))))) rfl (wt_some' rfl) (ex_not (c := (!(decide (n = 0)))) rfl rfl) rfl rfl (pE' (v := (Value.bool (!(decide (n = 0))))) rfl (ex_pick_true rfl rfl) (pE' (v := (aG (natL n ++ [(Value.bool (!(decide (n = 0))))]))) rfl (ex_build_struct (zs := intL 0) (vs := natL n ++ [(Value.bool (!(decide (n = 0))))]) (pv := [(0, (aG (natL n))), (1, (Value.bool (!(decide (n = 0)))))]) (places := [(0, 2), (2, 1)]) Tryz.zeroValue79 Tryz.underlying79 (fun w => by simp [Tryz.sizeOf4, Tryz.sizeOf77]) rfl rfl) (OkE.imp rfl (stW1' rfl Tryz.sizeOf79 rfl ?_)))))
 exact OkE.back (sk (sl sr)) (OkE.nil (OkQ.subF (sL [4, 5] rfl) (OkQ.then_ (OkC.ret (ret_one rfl (rd_agg (i := 1) (cs := natL n ++ [(Value.bool (!(decide (n = 0))))]) rfl rfl Tryz.isAgg79 Tryz.sizeOf79 rfl) (fun w hw => ⟨by rw [intL_neg], hw.out⟩))))))
theorem From_false (n : Nat) (w : World)  : Calls Tryz.prog 140 #[(Value.bool false), (aG (natL n))] w (Gives w (aG (intL (mkI false n)))) := by
 refine calls_of (args := [(Value.bool false), (aG (natL n))]) Tryz.func140 rfl rfl (leB rfl) (OkC.subF (sL [0, 1] rfl) (q4 (bx' (cs := natL n) rfl fun b1 => al tZ79 rfl fun b2 => q3 (sL [0, 3, 4] rfl) ?_)))
 refine ldW' 1 tA75 rfl (st' (v := (aG (natL n))) (ex_build_struct (zs := natL 0) (vs := natL n) (pv := [(0, (aG (natL n)))]) (places := [(0, 2)]) Tryz.zeroValue77 Tryz.underlying77 (fun w => by simp [Tryz.sizeOf75]) rfl (fill_numk_77_0natL n)) rfl (al tZ77 rfl fun b3 => stW0' rfl Tryz.sizeOf77 rfl (q6 (sL [0, 4, 5] rfl) (rG' [(0, true), (1, true), (2, true), (3, true), (4, false), (5, true), (6, true), (7, true), (8, false)] (sk (sl sr)) ?_))))
 refine pW' 0 tA77 rfl (pM' rfl (pM' rfl (OkE.skp rfl (wt_not' rfl) rfl rfl (OkE.imp rfl (OkL.skip (wt_not' rfl) rfl (leB rfl) ?_)))))
 refine OkE.back (sk (sl sr)) (OkE.skp rfl (wt_not' rfl) rfl rfl (pE' (v := (Value.bool false)) rfl (ex_pick_false rfl rfl) (pE' (v := (aG (natL n ++ [(Value.bool false)]))) rfl (ex_build_struct (zs := intL 0) (vs := natL n ++ [(Value.bool false)]) (pv := [(0, (aG (natL n))), (1, (Value.bool false))]) (places := [(0, 2), (2, 1)]) Tryz.zeroValue79 Tryz.underlying79 (fun w => by simp [Tryz.sizeOf4, Tryz.sizeOf77]) rfl rfl) (OkE.imp rfl (stW1' rfl Tryz.sizeOf79 rfl ?_)))))
 exact OkE.back (sk (sl sr)) (OkE.nil (OkQ.subF (sL [4, 5] rfl) (OkQ.then_ (OkC.ret (ret_one rfl (rd_agg (i := 1) (cs := natL n ++ [(Value.bool false)]) rfl rfl Tryz.isAgg79 Tryz.sizeOf79 rfl) (fun w hw => ⟨by rw [intL_pos], hw.out⟩))))))
theorem From_ok (neg : Bool) (n : Nat) (w : World) : Calls Tryz.prog 140 #[.bool neg, .agg (natL n).toArray] w (Gives w (.agg (intL (mkI neg n)).toArray)) := by
 cases neg
 ·exact From_false n w
 ·exact From_true n w
theorem iOf_ok (z : Int) (hz : -9223372036854775808 ≤ z) (hz2 : z < 9223372036854775808) (w : World)  : Calls Tryz.prog 91 #[(vI z)] w (Gives w (aG (intL z))) := by
 refine calls_of (args := [(vI z)]) Tryz.func91 rfl rfl (leB rfl) (OkC.subF (sL [0] rfl) (q4 (al tZ79 rfl fun b1 => OkL.nil (q1 ?_))))
 refine q4 (mv' rfl (st' (ex_lss (c := (decide (z < (0 : Int)))) rfl rfl rfl) rfl (OkL.nil (OkQ.subF (sL [0, 2, 4] rfl) (OkQ.then_ ?_)))))
 refine OkC.cond rfl (fun hc0 => ?_) (fun hc0 => ?_)
 ·replace hc0 := of_decide_eq_true hc0
  have he := mkI_natAbs_neg hc0
  refine q4 (mv' rfl (st' (ex_conv (c := (IntKind.u64.wrap z)) rfl Tryz.underlying2 Tryz.underlying73 (rfl)) rfl (st' (ex_neg (c := ((z.natAbs : Nat) : Int)) rfl (by rw [Int.zero_sub]; exact negU hc0 hz)) rfl (ck' Tryz.call139 (of64_ok z.natAbs (by omega)) rfl (ck' Tryz.call140 (From_ok true z.natAbs) rfl ?_)))))
  exact stW0' rfl Tryz.sizeOf79 rfl (OkL.nil (OkQ.subF (sL [0, 2] rfl) (OkQ.then_ (OkC.ret (OkQ.then_ret (ret_one rfl (rd_agg (i := 0) (cs := intL (mkI true z.natAbs)) rfl rfl Tryz.isAgg79 Tryz.sizeOf79 rfl) (fun w hw => ⟨by rw [he], hw.out⟩)))))))
 ·replace hc0 := of_decide_eq_false hc0
  have he := mkI_toNat hc0
  refine OkC.skip (q2 (mv' rfl (st' (ex_conv (c := ((z.natAbs : Nat) : Int)) rfl Tryz.underlying2 Tryz.underlying73 (by rw [wrap_u64 (by omega) (by omega)]; omega)) rfl (ck' Tryz.call139 (of64_ok z.natAbs (by omega)) rfl (ck' Tryz.call140 (From_ok false z.natAbs) rfl ?_)))))
  exact stW0' rfl Tryz.sizeOf79 rfl (OkL.nil (OkQ.subF (sL [0, 2] rfl) (OkQ.then_ (OkC.ret (ret_one rfl (rd_agg (i := 0) (cs := intL (mkI false z.natAbs)) rfl rfl Tryz.isAgg79 Tryz.sizeOf79 rfl) (fun w hw => ⟨by rw [he], hw.out⟩))))))
theorem iAbs_ok (a : Int) (w : World)  : Calls Tryz.prog 136 #[(aG (intL a))] w (Gives w (aG (natL a.natAbs))) := by
 refine calls_of (args := [(aG (intL a))]) Tryz.func136 rfl rfl (leB rfl) (OkC.subF (sL [0] rfl) (q4 (bx' (cs := intL a) rfl fun b1 => al tZ75 rfl fun b2 => q3 (sL [1, 2] rfl) ?_)))
 refine st' (v := (pP b1 0)) (ex_fieldAddr rfl Tryz.underlying79 rfl Tryz.sizeOf77 rfl) rfl (st' (v := (pP b1 0)) (ex_fieldAddr rfl Tryz.underlying77 rfl Tryz.sizeOf75 rfl) rfl (ldA' 1 (natL a.natAbs) tA75 rfl (stW0' rfl Tryz.sizeOf75 rfl (OkL.nil (OkQ.subF (sL [2] rfl) ?_)))))
 exact OkQ.then_ (OkC.ret (ret_one rfl (rd_agg (i := 0) (cs := natL a.natAbs) rfl rfl Tryz.isAgg75 Tryz.sizeOf75 rfl) (fun w hw => ⟨rfl, hw.out⟩)))
theorem iSign_ok (a : Int) (w : World)  : Calls Tryz.prog 141 #[(aG (intL a))] w (Gives w (vI a.sign)) := by
 refine calls_of (args := [(aG (intL a))]) Tryz.func141 rfl rfl (leB rfl) (OkC.subF (sL [0] rfl) (q4 (bx' (cs := intL a) rfl fun b1 => asg' rfl (q6 (sL [1, 2] rfl) ?_))))
 refine OkC.block (q4 (st' (v := (pP b1 0)) (ex_fieldAddr rfl Tryz.underlying79 rfl Tryz.sizeOf77 rfl) rfl (ldA' 0 (natL a.natAbs) tA77 rfl (ck' Tryz.call179 (size_zero_ok a.natAbs) rfl (asg' rfl ?_)))))
 refine OkL.nil (OkQ.subF (sL [1, 2, 3] rfl) (OkQ.then_ ?_))
 refine OkC.cond rfl (fun hc0 => ?_) (fun hc0 => ?_)
 ·replace hc0 := of_decide_eq_true hc0
  have he : a.sign = 0 := by rw [show a = 0 by omega]; rfl
  refine q4 (asg' rfl (OkL.nil (OkQ.then_ (OkC.ret (OkQ.in_ret ?_)))))
  exact OkQ.then_ret (ret_one rfl (rd_tmp (v := (vI 0)) rfl) (fun w hw => ⟨by rw [he], hw.out⟩))
 ·replace hc0 := of_decide_eq_false hc0
  refine q4 (st' (v := (pP b1 2)) (ex_fieldAddr rfl Tryz.underlying79 rfl Tryz.sizeOf4 rfl) rfl (ldO' 0 (Value.bool (decide (a < 0))) tO4 rfl (asg' rfl (OkL.nil (OkQ.subF (sL [1, 2, 7] rfl) ?_)))))
  refine OkQ.then_ ?_
  refine OkC.cond rfl (fun hc1 => ?_) (fun hc1 => ?_)
  ·replace hc1 := of_decide_eq_true hc1
   have he : a.sign = -1 := Int.sign_eq_neg_one_of_neg hc1
   refine q4 (asg' rfl (OkL.nil (OkQ.then_ (OkC.ret (OkQ.in_ret ?_)))))
   exact OkQ.then_ret (ret_one rfl (rd_tmp (v := (vI (-1 : Int))) rfl) (fun w hw => ⟨by rw [he], hw.out⟩))
  ·replace hc1 := of_decide_eq_false hc1
   have he : a.sign = 1 := Int.sign_eq_one_of_pos (by omega)
   refine OkC.skip (OkQ.in_normal (q2 (asg' rfl (OkL.nil (OkQ.then_ ?_)))))
   exact OkC.ret (ret_one rfl (rd_tmp (v := (vI 1)) rfl) (fun w hw => ⟨by rw [he], hw.out⟩))
theorem iNeg_ok (a : Int) (w : World)  : Calls Tryz.prog 184 #[(aG (intL a))] w (Gives w (aG (intL (-a)))) := by
 refine calls_of (args := [(aG (intL a))]) Tryz.func184 rfl rfl (leB rfl) (OkC.subF (sL [0] rfl) (q4 (bx' (cs := intL a) rfl fun b1 => al tZ79 rfl fun b2 => q3 (sL [1, 2] rfl) ?_)))
 refine st' (v := (pP b1 2)) (ex_fieldAddr rfl Tryz.underlying79 rfl Tryz.sizeOf4 rfl) rfl (ldO' 1 (Value.bool (decide (a < 0))) tO4 rfl (st' (ex_not (c := (!(decide (a < 0)))) rfl rfl) rfl (st' (v := (pP b1 0)) (ex_fieldAddr rfl Tryz.underlying79 rfl Tryz.sizeOf77 rfl) rfl (st' (v := (pP b1 0)) (ex_fieldAddr rfl Tryz.underlying77 rfl Tryz.sizeOf75 rfl) rfl (ldA' 1 (natL a.natAbs) tA75 rfl ?_)))))
 exact ck' Tryz.call140 (From_ok (!(decide (a < 0))) a.natAbs) rfl (stW0' rfl Tryz.sizeOf79 rfl (OkL.nil (OkQ.subF (sL [2] rfl) (OkQ.then_ (OkC.ret (ret_one rfl (rd_agg (i := 0) (cs := intL (mkI (!(decide (a < 0))) a.natAbs)) rfl rfl Tryz.isAgg79 Tryz.sizeOf79 rfl) (fun w hw => ⟨by rw [mkI_not], hw.out⟩)))))))
theorem plus_ok (a b : Int) (ha : nw a.natAbs ≤ 1099511627776) (hb : nw b.natAbs ≤ 1099511627776) (w : World)  : Calls Tryz.prog 149 #[(aG (intL a)), (aG (intL b))] w (Gives w (aG (intL (a + b)))) := by
 refine calls_of (args := [(aG (intL a)), (aG (intL b))]) Tryz.func149 rfl rfl (leB rfl) (OkC.subF (sL [0, 1] rfl) (q4 (bx' (cs := intL a) rfl fun b1 => bx' (cs := intL b) rfl fun b2 => al tZ79 rfl fun b3 => ?_)))
 refine q6 (sL [2, 3, 4] rfl) (q4 (st' (v := (pP b1 2)) (ex_fieldAddr rfl Tryz.underlying79 rfl Tryz.sizeOf4 rfl) rfl (ldO' 2 (Value.bool (decide (a < 0))) tO4 rfl (st' (v := (pP b2 2)) (ex_fieldAddr rfl Tryz.underlying79 rfl Tryz.sizeOf4 rfl) rfl (ldO' 1 (Value.bool (decide (b < 0))) tO4 rfl ?_)))))
 refine st' (ex_eql_bool (c := (decide (a < 0) == decide (b < 0))) rfl rfl Tryz.underlying4 rfl) rfl (OkL.nil (OkQ.subF (sL [2, 3, 4, 13] rfl) (OkQ.then_ ?_)))
 refine OkC.cond rfl (fun hc0 => ?_) (fun hc0 => ?_)
 ·skip
  have he := mkI_add_same hc0
  refine OkC.seq (rG' [(0, true), (1, true), (2, true), (3, true), (4, true), (5, true), (6, true), (7, true), (8, false), (9, false), (10, false)] (sl sr) (pE' (v := (pP b1 2)) rfl (ex_fieldAddr rfl Tryz.underlying79 rfl Tryz.sizeOf4 rfl) (pO'' 1 (Value.bool (decide (a < 0))) tO4 rfl (pE' (v := (pP b1 0)) rfl (ex_fieldAddr rfl Tryz.underlying79 rfl Tryz.sizeOf77 rfl) (pE' (v := (pP b1 0)) rfl (ex_fieldAddr rfl Tryz.underlying77 rfl Tryz.sizeOf75 rfl) ?_)))))
  refine pA' 1 (natL a.natAbs) tA75 rfl (pE' (v := (pP b2 0)) rfl (ex_fieldAddr rfl Tryz.underlying79 rfl Tryz.sizeOf77 rfl) (pE' (v := (pP b2 0)) rfl (ex_fieldAddr rfl Tryz.underlying77 rfl Tryz.sizeOf75 rfl) (pA' 0 (natL b.natAbs) tA75 rfl (OkE.imp rfl (ck' Tryz.call145 (Add_ok a.natAbs b.natAbs (by omega) (by omega)) rfl ?_)))))
  refine OkE.back (sl sr) (OkE.imp rfl (ck' Tryz.call140 (From_ok (decide (a < 0)) (a.natAbs + b.natAbs)) rfl (OkE.back (sl sr) (OkE.imp rfl (stW0' rfl Tryz.sizeOf79 rfl ?_)))))
  exact OkE.back (sl sr) (OkE.nil (OkQ.subF (sL [2, 3, 4] rfl) (OkQ.then_ (OkC.ret (OkQ.then_ret (ret_one rfl (rd_agg (i := 0) (cs := intL (mkI (decide (a < 0)) (a.natAbs + b.natAbs))) rfl rfl Tryz.isAgg79 Tryz.sizeOf79 rfl) (fun w hw => ⟨by rw [he], hw.out⟩)))))))
 ·skip
  refine OkC.skip (q1 (q4 (st' (v := (pP b1 0)) (ex_fieldAddr rfl Tryz.underlying79 rfl Tryz.sizeOf77 rfl) rfl (st' (v := (pP b1 0)) (ex_fieldAddr rfl Tryz.underlying77 rfl Tryz.sizeOf75 rfl) rfl (ldA' 2 (natL a.natAbs) tA75 rfl ?_)))))
  refine st' (v := (pP b2 0)) (ex_fieldAddr rfl Tryz.underlying79 rfl Tryz.sizeOf77 rfl) rfl (st' (v := (pP b2 0)) (ex_fieldAddr rfl Tryz.underlying77 rfl Tryz.sizeOf75 rfl) rfl (ldA' 1 (natL b.natAbs) tA75 rfl (ck' Tryz.call138 (Sub_ok a.natAbs b.natAbs (by omega) (by omega)) rfl (mv' rfl (st' (ex_extract (v := (aG (natL (a.natAbs - b.natAbs)))) rfl rfl) rfl ?_)))))
  refine st' (ex_extract (v := (Value.bool (decide (b.natAbs ≤ a.natAbs)))) rfl rfl) rfl (al tZ75 rfl fun b4 => stW0' rfl Tryz.sizeOf75 rfl (asg' rfl (q3 (sL [2, 3, 4, 5, 6] rfl) (mv' rfl ?_))))
  refine OkL.nil (OkQ.subF (sL [2, 3, 4, 5, 34] rfl) (OkQ.then_ ?_))
  refine OkC.cond rfl (fun hc1 => ?_) (fun hc1 => ?_)
  ·replace hc1 := of_decide_eq_true hc1
   have he := mkI_add_ge hc0 hc1
   refine q4 (st' (v := (pP b1 2)) (ex_fieldAddr rfl Tryz.underlying79 rfl Tryz.sizeOf4 rfl) rfl (ldO' 3 (Value.bool (decide (a < 0))) tO4 rfl (ldW' 0 tA75 rfl (ck' Tryz.call140 (From_ok (decide (a < 0)) (a.natAbs - b.natAbs)) rfl (stW1' rfl Tryz.sizeOf79 rfl ?_)))))
   exact OkL.nil (OkQ.subF (sL [2, 3, 4, 5] rfl) (OkQ.then_ (OkC.ret (OkQ.then_ret (ret_one rfl (rd_agg (i := 1) (cs := intL (mkI (decide (a < 0)) (a.natAbs - b.natAbs))) rfl rfl Tryz.isAgg79 Tryz.sizeOf79 rfl) (fun w hw => ⟨by rw [he], hw.out⟩))))))
  ·replace hc1 := of_decide_eq_false hc1
   have he := mkI_add_lt hc0 hc1
   refine OkC.skip (q2 (st' (v := (pP b2 0)) (ex_fieldAddr rfl Tryz.underlying79 rfl Tryz.sizeOf77 rfl) rfl (st' (v := (pP b2 0)) (ex_fieldAddr rfl Tryz.underlying77 rfl Tryz.sizeOf75 rfl) rfl (ldA' 2 (natL b.natAbs) tA75 rfl (st' (v := (pP b1 0)) (ex_fieldAddr rfl Tryz.underlying79 rfl Tryz.sizeOf77 rfl) rfl ?_)))))
   refine st' (v := (pP b1 0)) (ex_fieldAddr rfl Tryz.underlying77 rfl Tryz.sizeOf75 rfl) rfl (ldA' 3 (natL a.natAbs) tA75 rfl (ck' Tryz.call138 (Sub_ok b.natAbs a.natAbs (by omega) (by omega)) rfl (mv' rfl (st' (ex_extract (v := (aG (natL (b.natAbs - a.natAbs)))) rfl rfl) rfl (st' (ex_extract (v := (Value.bool (decide (a.natAbs ≤ b.natAbs)))) rfl rfl) rfl ?_)))))
   refine al tZ75 rfl fun b5 => stW0' rfl Tryz.sizeOf75 rfl (asg' rfl (q3 (sL [2, 3, 4, 5, 7] rfl) (st' (v := (pP b2 2)) (ex_fieldAddr rfl Tryz.underlying79 rfl Tryz.sizeOf4 rfl) rfl (ldO' 3 (Value.bool (decide (b < 0))) tO4 rfl ?_))))
   refine ldW' 0 tA75 rfl (ck' Tryz.call140 (From_ok (decide (b < 0)) (b.natAbs - a.natAbs)) rfl (stW2' rfl Tryz.sizeOf79 rfl (OkL.nil (OkQ.subF (sL [2, 3, 4, 5, 7] rfl) (OkQ.then_ ?_)))))
   exact OkC.ret (ret_one rfl (rd_agg (i := 2) (cs := intL (mkI (decide (b < 0)) (b.natAbs - a.natAbs))) rfl rfl Tryz.isAgg79 Tryz.sizeOf79 rfl) (fun w hw => ⟨by rw [he], hw.out⟩))
theorem times_ok (a b : Int) (ha : nw a.natAbs ≤ 1099511627776) (hb : nw b.natAbs ≤ 1099511627776) (w : World)  : Calls Tryz.prog 134 #[(aG (intL a)), (aG (intL b))] w (Gives w (aG (intL (a * b)))) := by
 refine calls_of (args := [(aG (intL a)), (aG (intL b))]) Tryz.func134 rfl rfl (leB rfl) (OkC.subF (sL [0, 1] rfl) (q4 (bx' (cs := intL a) rfl fun b1 => bx' (cs := intL b) rfl fun b2 => al tZ79 rfl fun b3 => ?_)))
 refine q6 (sL [2, 3, 4] rfl) (rG' [(0, true), (1, true), (2, true), (3, true), (4, true), (5, true), (6, true), (7, true), (8, true), (9, true), (10, true), (11, false), (12, false), (13, false)] (sl sr) (pE' (v := (pP b1 2)) rfl (ex_fieldAddr rfl Tryz.underlying79 rfl Tryz.sizeOf4 rfl) (pO'' 1 (Value.bool (decide (a < 0))) tO4 rfl (pE' (v := (pP b2 2)) rfl (ex_fieldAddr rfl Tryz.underlying79 rfl Tryz.sizeOf4 rfl) (pO'' 0 (Value.bool (decide (b < 0))) tO4 rfl ?_)))))
 refine pE' rfl (ex_neq_bool (c := (!(decide (a < 0) == decide (b < 0)))) rfl rfl Tryz.underlying4 rfl) (pE' (v := (pP b1 0)) rfl (ex_fieldAddr rfl Tryz.underlying79 rfl Tryz.sizeOf77 rfl) (pE' (v := (pP b1 0)) rfl (ex_fieldAddr rfl Tryz.underlying77 rfl Tryz.sizeOf75 rfl) (pA' 1 (natL a.natAbs) tA75 rfl (pE' (v := (pP b2 0)) rfl (ex_fieldAddr rfl Tryz.underlying79 rfl Tryz.sizeOf77 rfl) (pE' (v := (pP b2 0)) rfl (ex_fieldAddr rfl Tryz.underlying77 rfl Tryz.sizeOf75 rfl) ?_)))))
 refine pA' 0 (natL b.natAbs) tA75 rfl (OkE.imp rfl (ck' Tryz.call89 (Mul_ok a.natAbs b.natAbs (by omega) (by omega)) rfl (OkE.back (sl sr) (OkE.imp rfl (ck' Tryz.call140 (From_ok (!(decide (a < 0) == decide (b < 0))) (a.natAbs * b.natAbs)) rfl ?_)))))
 refine OkE.back (sl sr) (OkE.imp rfl (stW0' rfl Tryz.sizeOf79 rfl (OkE.back (sl sr) (OkE.nil (OkQ.subF (sL [4] rfl) ?_)))))
 exact OkQ.then_ (OkC.ret (ret_one rfl (rd_agg (i := 0) (cs := intL (mkI (!(decide (a < 0) == decide (b < 0))) (a.natAbs * b.natAbs))) rfl rfl Tryz.isAgg79 Tryz.sizeOf79 rfl) (fun w hw => ⟨by rw [mkI_mul], hw.out⟩)))
theorem told_plus_ok (a b : Int) (ha : nw a.natAbs ≤ 1099511627776) (hb : nw b.natAbs ≤ 1099511627776) (w : World)  : Calls Tryz.prog 133 #[(Value.func (.func 149) #[] #[]), (aG (intL a)), (aG (intL b))] w (Gives w (aG (intL (a + b)))) := by
 refine calls_of (args := [(Value.func (.func 149) #[] #[]), (aG (intL a)), (aG (intL b))]) Tryz.func133 rfl rfl (leB rfl) (OkC.subF (sL [0, 1, 2] rfl) (q4 (bx' (cs := intL a) rfl fun b1 => bx' (cs := intL b) rfl fun b2 => al tZ79 rfl fun b3 => ?_)))
 refine q3 (sL [0, 4, 5, 6] rfl) (mv' rfl (ldW' 2 tA79 rfl (ldW' 1 tA79 rfl (ck' Tryz.call149 (plus_ok a b (by first | omega | (simp only [Int.natAbs_neg, mkI_natAbs, Int.natAbs_natCast]; omega)) (by first | omega | (simp only [Int.natAbs_neg, mkI_natAbs, Int.natAbs_natCast]; omega))) rfl (stW0' rfl Tryz.sizeOf79 rfl ?_)))))
 exact OkL.nil (OkQ.subF (sL [6] rfl) (OkQ.then_ (OkC.ret (ret_one rfl (rd_agg (i := 0) (cs := intL (a + b)) rfl rfl Tryz.isAgg79 Tryz.sizeOf79 rfl) (fun w hw => ⟨rfl, hw.out⟩)))))
theorem told_times_ok (a b : Int) (ha : nw a.natAbs ≤ 1099511627776) (hb : nw b.natAbs ≤ 1099511627776) (w : World)  : Calls Tryz.prog 133 #[(Value.func (.func 134) #[] #[]), (aG (intL a)), (aG (intL b))] w (Gives w (aG (intL (a * b)))) := by
 refine calls_of (args := [(Value.func (.func 134) #[] #[]), (aG (intL a)), (aG (intL b))]) Tryz.func133 rfl rfl (leB rfl) (OkC.subF (sL [0, 1, 2] rfl) (q4 (bx' (cs := intL a) rfl fun b1 => bx' (cs := intL b) rfl fun b2 => al tZ79 rfl fun b3 => ?_)))
 refine q3 (sL [0, 4, 5, 6] rfl) (mv' rfl (ldW' 2 tA79 rfl (ldW' 1 tA79 rfl (ck' Tryz.call134 (times_ok a b (by first | omega | (simp only [Int.natAbs_neg, mkI_natAbs, Int.natAbs_natCast]; omega)) (by first | omega | (simp only [Int.natAbs_neg, mkI_natAbs, Int.natAbs_natCast]; omega))) rfl (stW0' rfl Tryz.sizeOf79 rfl ?_)))))
 exact OkL.nil (OkQ.subF (sL [6] rfl) (OkQ.then_ (OkC.ret (ret_one rfl (rd_agg (i := 0) (cs := intL (a * b)) rfl rfl Tryz.isAgg79 Tryz.sizeOf79 rfl) (fun w hw => ⟨rfl, hw.out⟩)))))
theorem iAdd_ok (a b : Int) (ha : nw a.natAbs ≤ 1099511627776) (hb : nw b.natAbs ≤ 1099511627776) (w : World)  : Calls Tryz.prog 95 #[(aG (intL a)), (aG (intL b))] w (Gives w (aG (intL (a + b)))) := by
 refine calls_of (args := [(aG (intL a)), (aG (intL b))]) Tryz.func95 rfl rfl (leB rfl) (OkC.subF (sL [0, 1] rfl) (q4 (bx' (cs := intL a) rfl fun b1 => bx' (cs := intL b) rfl fun b2 => al tZ79 rfl fun b3 => ?_)))
 refine q3 (sL [2, 3, 4] rfl) (ldW' 2 tA79 rfl (ldW' 1 tA79 rfl (ck' Tryz.call133 (told_plus_ok a b (by first | omega | (simp only [Int.natAbs_neg, mkI_natAbs, Int.natAbs_natCast]; omega)) (by first | omega | (simp only [Int.natAbs_neg, mkI_natAbs, Int.natAbs_natCast]; omega))) rfl (stW0' rfl Tryz.sizeOf79 rfl (OkL.nil ?_)))))
 exact OkQ.subF (sL [4] rfl) (OkQ.then_ (OkC.ret (ret_one rfl (rd_agg (i := 0) (cs := intL (a + b)) rfl rfl Tryz.isAgg79 Tryz.sizeOf79 rfl) (fun w hw => ⟨rfl, hw.out⟩))))
theorem iSub_ok (a b : Int) (ha : nw a.natAbs ≤ 1099511627776) (hb : nw b.natAbs ≤ 1099511627776) (w : World)  : Calls Tryz.prog 193 #[(aG (intL a)), (aG (intL b))] w (Gives w (aG (intL (a - b)))) := by
 refine calls_of (args := [(aG (intL a)), (aG (intL b))]) Tryz.func193 rfl rfl (leB rfl) (OkC.subF (sL [0, 1] rfl) (q4 (bx' (cs := intL a) rfl fun b1 => bx' (cs := intL b) rfl fun b2 => al tZ79 rfl fun b3 => ?_)))
 refine q6 (sL [2, 3, 4] rfl) (rG' [(0, true), (1, true), (2, false), (3, false), (4, false)] (sl sr) (pW' 1 tA79 rfl (pW' 0 tA79 rfl (OkE.imp rfl (ck' Tryz.call184 (iNeg_ok b) rfl ?_)))))
 refine OkE.back (sl sr) (OkE.imp rfl (ck' Tryz.call133 (told_plus_ok a (-b) (by first | omega | (simp only [Int.natAbs_neg, mkI_natAbs, Int.natAbs_natCast]; omega)) (by first | omega | (simp only [Int.natAbs_neg, mkI_natAbs, Int.natAbs_natCast]; omega))) rfl (OkE.back (sl sr) (OkE.imp rfl (stW0' rfl Tryz.sizeOf79 rfl ?_)))))
 exact OkE.back (sl sr) (OkE.nil (OkQ.subF (sL [4] rfl) (OkQ.then_ (OkC.ret (ret_one rfl (rd_agg (i := 0) (cs := intL (a + (-b))) rfl rfl Tryz.isAgg79 Tryz.sizeOf79 rfl) (fun w hw => ⟨by rw [Int.sub_eq_add_neg], hw.out⟩))))))
theorem iMul_ok (a b : Int) (ha : nw a.natAbs ≤ 1099511627776) (hb : nw b.natAbs ≤ 1099511627776) (w : World)  : Calls Tryz.prog 87 #[(aG (intL a)), (aG (intL b))] w (Gives w (aG (intL (a * b)))) := by
 refine calls_of (args := [(aG (intL a)), (aG (intL b))]) Tryz.func87 rfl rfl (leB rfl) (OkC.subF (sL [0, 1] rfl) (q4 (bx' (cs := intL a) rfl fun b1 => bx' (cs := intL b) rfl fun b2 => al tZ79 rfl fun b3 => ?_)))
 refine q3 (sL [2, 3, 4] rfl) (ldW' 2 tA79 rfl (ldW' 1 tA79 rfl (ck' Tryz.call133 (told_times_ok a b (by first | omega | (simp only [Int.natAbs_neg, mkI_natAbs, Int.natAbs_natCast]; omega)) (by first | omega | (simp only [Int.natAbs_neg, mkI_natAbs, Int.natAbs_natCast]; omega))) rfl (stW0' rfl Tryz.sizeOf79 rfl (OkL.nil ?_)))))
 exact OkQ.subF (sL [4] rfl) (OkQ.then_ (OkC.ret (ret_one rfl (rd_agg (i := 0) (cs := intL (a * b)) rfl rfl Tryz.isAgg79 Tryz.sizeOf79 rfl) (fun w hw => ⟨rfl, hw.out⟩))))
theorem iCmp_ok (a b : Int) (ha : nw a.natAbs ≤ 1099511627776) (hb : nw b.natAbs ≤ 1099511627776) (w : World)  : Calls Tryz.prog 153 #[(aG (intL a)), (aG (intL b))] w (Gives w (vI ((a - b).sign))) := by
 refine calls_of (args := [(aG (intL a)), (aG (intL b))]) Tryz.func153 rfl rfl (leB rfl) (OkC.subF (sL [0, 1] rfl) (q4 (bx' (cs := intL a) rfl fun b1 => bx' (cs := intL b) rfl fun b2 => asg' rfl ?_)))
 refine q3 (sL [2, 3, 4] rfl) (ldW' 1 tA79 rfl (ldW' 0 tA79 rfl (ck' Tryz.call193 (iSub_ok a b (by first | omega | (simp only [Int.natAbs_neg, mkI_natAbs, Int.natAbs_natCast]; omega)) (by first | omega | (simp only [Int.natAbs_neg, mkI_natAbs, Int.natAbs_natCast]; omega))) rfl (ck' Tryz.call141 (iSign_ok (a - b)) rfl (asg' rfl ?_)))))
 exact OkL.nil (OkQ.subF (sL [4] rfl) (OkQ.then_ (OkC.ret (ret_one rfl (rd_tmp (v := (vI ((a - b).sign))) rfl) (fun w hw => ⟨rfl, hw.out⟩)))))
end
def Sz (q : Rat) : Nat := max (nw q.num.natAbs) (nw q.den)
theorem Sz_num (q : Rat) : nw q.num.natAbs ≤ Sz q := Nat.le_max_left ..
theorem Sz_den (q : Rat) : nw q.den ≤ Sz q := Nat.le_max_right ..
theorem Sz_le {q : Rat} {k : Nat} (h1 : nw q.num.natAbs ≤ k) (h2 : nw q.den ≤ k) : Sz q ≤ k := Nat.max_le.2 ⟨h1, h2⟩
theorem nw_one : nw 1 = 1 := by decide
theorem Sz_pos (q : Rat) : 1 ≤ Sz q := Nat.le_trans (by rw [← nw_one]; exact nw_mono q.den_pos) (Sz_den q)
theorem Sz_mkRat {n : Int} {d k : Nat} (h1 : nw n.natAbs ≤ k) (h2 : nw d ≤ k) (hk : 1 ≤ k) : Sz (mkRat n d) ≤ k := by
  refine Sz_le ?_ ?_
  · rw [Rat.num_mkRat]
    split
    · exact Nat.zero_le _
    · refine Nat.le_trans (nw_mono ?_) h1
      rw [Int.natAbs_ediv_of_dvd (by rw [Int.ofNat_dvd_left]; exact Nat.gcd_dvd_right ..)]
      exact Nat.div_le_self _ _
  · rw [Rat.den_mkRat]
    split
    · rw [nw_one]; exact hk
    · exact Nat.le_trans (nw_mono (Nat.div_le_self _ _)) h2
theorem nwI_mul (a b : Int) : nw (a * b).natAbs ≤ nw a.natAbs + nw b.natAbs := by rw [Int.natAbs_mul]; exact nw_mul _ _
theorem nwI_add (a b : Int) : nw (a + b).natAbs ≤ max (nw a.natAbs) (nw b.natAbs) + 1 := Nat.le_trans (nw_mono (Int.natAbs_add_le a b)) (nw_add _ _)
theorem cross_nw (a b : Rat) : nw (a.num * ((b.den : Nat) : Int)).natAbs ≤ Sz a + Sz b := by
  have h1 := nwI_mul a.num ((b.den : Nat) : Int)
  have h2 := Sz_num a
  have h3 := Sz_den b
  rw [Int.natAbs_natCast] at h1
  omega
theorem den_nw (a b : Rat) : nw (a.den * b.den) ≤ Sz a + Sz b := by
  have h1 := nw_mul a.den b.den
  have h2 := Sz_den a
  have h3 := Sz_den b
  omega
theorem num_nw (a b : Rat) : nw (a.num * b.num).natAbs ≤ Sz a + Sz b := by
  have h1 := nwI_mul a.num b.num
  have h2 := Sz_num a
  have h3 := Sz_num b
  omega
theorem add_mkRat (a b : Rat) : mkRat (a.num * ((b.den : Nat) : Int) + b.num * ((a.den : Nat) : Int)) (a.den * b.den) = a + b := by rw [Rat.add_def, Rat.normalize_eq_mkRat]
theorem mul_mkRat (a b : Rat) : mkRat (a.num * b.num) (a.den * b.den) = a * b := by rw [Rat.mul_def, Rat.normalize_eq_mkRat]
theorem whole_eq {a : Rat} (h : a.den - 1 = 0) : a = ((a.num : Int) : Rat) := by
  have h1 : a.den = 1 := by have := a.den_pos; omega
  exact Rat.ext rfl h1
theorem add_whole {a b : Rat} (ha : a.den - 1 = 0) (hb : b.den - 1 = 0) : ((a.num + b.num : Int) : Rat) = a + b := by
  rw [Rat.intCast_add, ← whole_eq ha, ← whole_eq hb]
theorem mul_whole {a b : Rat} (ha : a.den - 1 = 0) (hb : b.den - 1 = 0) : ((a.num * b.num : Int) : Rat) = a * b := by
  rw [Rat.intCast_mul, ← whole_eq ha, ← whole_eq hb]
theorem den_same {a b : Rat} (h : a.den - 1 = b.den - 1) : a.den = b.den := by
  have h1 := a.den_pos
  have h2 := b.den_pos
  omega
theorem add_same {a b : Rat} (h : a.den - 1 = b.den - 1) : mkRat (a.num + b.num) a.den = a + b := by
  have h1 := den_same h
  have h2 : a + b = mkRat a.num a.den + mkRat b.num a.den := by rw [Rat.mkRat_self]; conv => lhs; rw [← Rat.mkRat_self b, ← h1]
  rw [h2, Rat.mkRat_eq_div, Rat.mkRat_eq_div, Rat.mkRat_eq_div, Rat.intCast_add, Rat.div_def, Rat.div_def, Rat.div_def, Rat.add_mul]
theorem Sz_add (a b : Rat) : Sz (a + b) ≤ Sz a + Sz b + 1 := by
  rw [← add_mkRat]
  have h1 := cross_nw a b
  have h2 := cross_nw b a
  have h3 := nwI_add (a.num * ((b.den : Nat) : Int)) (b.num * ((a.den : Nat) : Int))
  have h4 := den_nw a b
  exact Sz_mkRat (by omega) (by omega) (by omega)
theorem Sz_mul (a b : Rat) : Sz (a * b) ≤ Sz a + Sz b := by
  rw [← mul_mkRat]
  have := Sz_pos a
  exact Sz_mkRat (num_nw a b) (den_nw a b) (by omega)
theorem Sz_neg (a : Rat) : Sz (-a) = Sz a := by unfold Sz; rw [Rat.neg_num, Rat.neg_den, Int.natAbs_neg]
theorem Sz_sub (a b : Rat) : Sz (a - b) ≤ Sz a + Sz b + 1 := by rw [Rat.sub_eq_add_neg, ← Sz_neg b]; exact Sz_add a (-b)
theorem inv_mkRat {b : Rat} (h : b ≠ 0) : mkRat (mkI (decide (b.num.sign < 0)) b.den) b.num.natAbs = b⁻¹ := by
  have hn : b.num ≠ 0 := fun e => h (Rat.num_eq_zero.1 e)
  have hb : b = (b.num : Rat) / ((b.den : Nat) : Rat) := by rw [← Rat.mkRat_eq_div, Rat.mkRat_self]
  have hd : ((b.den : Nat) : Rat) ≠ 0 := by
    intro e
    have := b.den_pos
    have h2 : b.den = 0 := by exact_mod_cast e
    omega
  have hn2 : ((b.num : Int) : Rat) ≠ 0 := by
    intro e
    exact hn (by exact_mod_cast e)
  rw [Rat.mkRat_eq_div]
  conv => rhs; rw [hb]
  by_cases hs : b.num < 0
  · have e1 : decide (b.num.sign < 0) = true := by simp [Int.sign_eq_neg_one_of_neg hs]
    have e2 : ((b.num.natAbs : Nat) : Rat) = -((b.num : Int) : Rat) := by
      have : ((b.num.natAbs : Nat) : Int) = -b.num := by omega
      rw [← Rat.intCast_natCast, this, Rat.intCast_neg]
    rw [e1, e2]
    simp only [mkI, if_true, Rat.intCast_neg, Rat.intCast_natCast]
    grind
  · have e1 : decide (b.num.sign < 0) = false := by
      have : 0 ≤ b.num.sign := Int.sign_nonneg_iff.2 (by omega)
      exact decide_eq_false (by omega)
    have e2 : ((b.num.natAbs : Nat) : Rat) = ((b.num : Int) : Rat) := by
      have : ((b.num.natAbs : Nat) : Int) = b.num := by omega
      rw [← Rat.intCast_natCast, this]
    rw [e1, e2]
    simp only [mkI, Bool.false_eq_true, if_false, Rat.intCast_natCast]
    grind
theorem Sz_inv {b : Rat} (h : b ≠ 0) : Sz b⁻¹ ≤ Sz b := by
  rw [← inv_mkRat h]
  exact Sz_mkRat (by rw [mkI_natAbs]; exact Sz_den b) (Sz_num b) (Sz_pos b)
theorem Sz_div {a b : Rat} (h : b ≠ 0) : Sz (a / b) ≤ Sz a + Sz b := by
  rw [Rat.div_def]
  have h1 := Sz_mul a b⁻¹
  have h2 := Sz_inv h
  omega
def cmpQ (a b : Rat) : Int := if a < b then -1 else if a = b then 0 else 1
theorem cmpQ_cross (a b : Rat) : (a.num * ((b.den : Nat) : Int) - b.num * ((a.den : Nat) : Int)).sign = cmpQ a b := by
  have h1 := Rat.lt_iff a b
  have h2 := @Rat.eq_iff_mul_eq_mul a b
  unfold cmpQ
  split
  · rename_i h; exact Int.sign_eq_neg_one_of_neg (by have := h1.1 h; omega)
  · rename_i h
    split
    · rename_i h'; rw [h2.1 h']; simp
    · rename_i h'
      have h3 : ¬ a.num * ((b.den : Nat) : Int) < b.num * ((a.den : Nat) : Int) := fun e => h (h1.2 e)
      have h4 : ¬ a.num * ((b.den : Nat) : Int) = b.num * ((a.den : Nat) : Int) := fun e => h' (h2.2 e)
      exact Int.sign_eq_one_of_pos (by omega)
theorem cmpQ_same {a b : Rat} (h : a.den - 1 = b.den - 1) : (a.num - b.num).sign = cmpQ a b := by
  rw [← cmpQ_cross, ← den_same h, ← Int.sub_mul, Int.sign_mul]
  have := a.den_pos
  rw [show ((a.den : Nat) : Int).sign = 1 from Int.sign_eq_one_of_pos (by omega)]
  simp
theorem cmpQ_lt {a b : Rat} : cmpQ a b < 0 ↔ a < b := by
  unfold cmpQ; split
  · simp [*]
  · split <;> simp [*]
theorem cmpQ_eq {a b : Rat} : cmpQ a b = 0 ↔ a = b := by
  unfold cmpQ; split
  · rename_i h
    constructor
    · intro e; cases e
    · intro e; subst e; exact absurd h (by simp)
  · split <;> simp [*]
theorem fracL_parts (q : Rat) : fracL q = intL q.num ++ natL (q.den - 1) := rfl
theorem low_num {n : Int} {d : Nat} (hd : d ≠ 0) : (mkRat n d).num = mkI (decide (n.sign < 0)) (n.natAbs / Nat.gcd n.natAbs d) := by
  rw [Rat.num_mkRat, if_neg hd, Nat.gcd_comm]
  unfold mkI
  by_cases h : n < 0
  · rw [Int.sign_eq_neg_one_of_neg h]
    have e : n = -((n.natAbs : Nat) : Int) := by omega
    simp only [show decide ((-1 : Int) < 0) = true from rfl, if_true]
    conv => lhs; rw [e]
    rw [Int.natAbs_neg, Int.natAbs_natCast, Int.neg_ediv_of_dvd (by rw [Int.natCast_dvd_natCast]; exact Nat.gcd_dvd_left ..)]
    rfl
  · have h0 : 0 ≤ n.sign := Int.sign_nonneg_iff.2 (by omega)
    have e : n = ((n.natAbs : Nat) : Int) := by omega
    rw [if_neg (by simp; omega)]
    conv => lhs; rw [e]
    rw [Int.natAbs_natCast]
    rfl
theorem low_den {n : Int} {d : Nat} (hd : d ≠ 0) : (mkRat n d).den = d / Nat.gcd n.natAbs d := by rw [Rat.den_mkRat, if_neg hd, Nat.gcd_comm]
end Go.Proofs.YtgiacpkjnikjdaaGreat
