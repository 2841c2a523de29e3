import Derived.Test.YtpkoldfmbebmgaaGreatDoorPart07
import Derived.Test.YtpkoldfmbebmgaaGreatDoorPart11
import Derived.Test.YtpkoldfmbebmgaaGreatDoorPart19
namespace Go.Proofs.YtpkoldfmbebmgaaGreatDoor
open Go Go.RowKit
set_option linter.unusedVariables false
set_option linter.unusedSimpArgs false
section
set_option maxRecDepth 100000
theorem fill_numk_32_  : Instr.fill ([(0, 2)].toArray[·]?) (natL 0).toArray [] = some (natL 0).toArray := by kernel_rfl
theorem size_zero_ok (n : Nat) (w : World)  : Calls Tryz.prog 105 #[(aG (natL n))] w (Gives w (Value.bool (decide (n = 0)))) := by
 refine calls_of (args := [(aG (natL n))]) Tryz.func105 rfl rfl (leB rfl) (OkC.subF (sC 0 rfl (sN)) (q4 (bx (cs := natL n) rfl rfl rfl fun b1 => asg rfl rfl (q3 (sC 1 rfl (sC 2 rfl (sN))) ?_))))
 refine ldW 0 tA32 rfl rfl rfl rfl (st (v := (aG (natL 0))) (ex_build_struct (zs := natL 0) (vs := natL 0) (pv := []) (places := [(0, 2)]) Tryz.zeroValue32 Tryz.underlying32 (fun w => by simp [Tryz.sizeOf30]) rfl (fill_numk_32_ )) (leB rfl) (st (ex_eql_agg (c := (decide (n = 0))) rfl rfl Tryz.eqGuardType32 (eqB_size 9997 n 0)) (leB rfl) (asg rfl rfl (OkL.nil (OkQ.subF (sC 2 rfl (sN)) ?_)))))
 exact OkQ.then_ (OkC.ret (ret_one rfl (rd_tmp (v := (Value.bool (decide (n = 0)))) rfl) (fun w hw => ⟨rfl, hw.out⟩)))
theorem fill_numk_32_0natL (x0 : Nat) : Instr.fill ([(0, 2)].toArray[·]?) (natL 0).toArray [(0, .agg (natL x0).toArray)] = some (natL x0).toArray := by kernel_rfl
theorem From_true (n : Nat) (w : World)  : Calls Tryz.prog 91 #[(Value.bool true), (aG (natL n))] w (Gives w (aG (intL (mkI true n)))) := by
 refine calls_of (args := [(Value.bool true), (aG (natL n))]) Tryz.func91 rfl rfl (leB rfl) (OkC.subF (sC 0 rfl (sC 1 rfl (sN))) (q4 (bx (cs := natL n) rfl rfl rfl fun b1 => al tZ34 rfl fun b2 => q3 (sC 0 rfl (sC 3 rfl (sC 4 rfl (sN)))) ?_)))
 refine ldW 1 tA30 rfl rfl rfl rfl (st (v := (aG (natL n))) (ex_build_struct (zs := natL 0) (vs := natL n) (pv := [(0, (aG (natL n)))]) (places := [(0, 2)]) Tryz.zeroValue32 Tryz.underlying32 (fun w => by simp [Tryz.sizeOf30]) rfl (fill_numk_32_0natL n)) (leB rfl) (al tZ32 rfl fun b3 => stW0 rfl rfl rfl Tryz.sizeOf32 rfl rfl (q6 (sC 0 rfl (sC 4 rfl (sC 5 rfl (sN)))) (rG [(0, true), (1, true), (2, true), (3, true), (4, false), (5, true), (6, true), (7, true), (8, false)] (sk (sl sr)) (by kernel_rfl) (fun _ _ d _ _ h => by cases d <;> exact h) ?_))))
 refine pW 0 tA32 rfl rfl rfl rfl rfl (pM rfl rfl rfl (pM rfl rfl rfl (OkE.pas (v := (aG (natL n))) rfl (wt_some rfl rfl rfl) (ex_load_agg (i := 0) (vs := natL n) rfl rfl tA32.a tA32.s rfl rfl) rfl rfl (OkE.imp rfl (OkL.call (v := (Value.bool (decide (n = 0)))) (wt_some rfl rfl rfl) (op_call0 (args := [(aG (natL n))]) rfl rfl Tryz.call105) (fun w hw => size_zero_ok n w) rfl (leB rfl) ?_)))))
 refine OkE.back (sk (sl sr)) (OkE.pas (v := (Value.bool (!(decide (n = 0))))) rfl (wt_some rfl rfl rfl) (ex_not (c := (!(decide (n = 0)))) rfl rfl) rfl rfl (pE (v := (Value.bool (!(decide (n = 0))))) rfl (ex_pick_true rfl rfl) rfl (pE (v := (aG (natL n ++ [(Value.bool (!(decide (n = 0))))]))) rfl (ex_build_struct (zs := intL 0) (vs := natL n ++ [(Value.bool (!(decide (n = 0))))]) (pv := [(0, (aG (natL n))), (1, (Value.bool (!(decide (n = 0)))))]) (places := [(0, 2), (2, 1)]) Tryz.zeroValue34 Tryz.underlying34 (fun w => by simp [Tryz.sizeOf4, Tryz.sizeOf32]) rfl rfl) rfl (OkE.imp rfl (stW1 rfl rfl rfl Tryz.sizeOf34 rfl rfl ?_)))))
 exact OkE.back (sk (sl sr)) (OkE.nil (OkQ.subF (sC 4 rfl (sC 5 rfl (sN))) (OkQ.then_ (OkC.ret (ret_one rfl (rd_agg (i := 1) (cs := natL n ++ [(Value.bool (!(decide (n = 0))))]) rfl rfl Tryz.isAgg34 Tryz.sizeOf34 rfl) (fun w hw => ⟨by rw [intL_neg], hw.out⟩))))))
theorem From_false (n : Nat) (w : World)  : Calls Tryz.prog 91 #[(Value.bool false), (aG (natL n))] w (Gives w (aG (intL (mkI false n)))) := by
 refine calls_of (args := [(Value.bool false), (aG (natL n))]) Tryz.func91 rfl rfl (leB rfl) (OkC.subF (sC 0 rfl (sC 1 rfl (sN))) (q4 (bx (cs := natL n) rfl rfl rfl fun b1 => al tZ34 rfl fun b2 => q3 (sC 0 rfl (sC 3 rfl (sC 4 rfl (sN)))) ?_)))
 refine ldW 1 tA30 rfl rfl rfl rfl (st (v := (aG (natL n))) (ex_build_struct (zs := natL 0) (vs := natL n) (pv := [(0, (aG (natL n)))]) (places := [(0, 2)]) Tryz.zeroValue32 Tryz.underlying32 (fun w => by simp [Tryz.sizeOf30]) rfl (fill_numk_32_0natL n)) (leB rfl) (al tZ32 rfl fun b3 => stW0 rfl rfl rfl Tryz.sizeOf32 rfl rfl (q6 (sC 0 rfl (sC 4 rfl (sC 5 rfl (sN)))) (rG [(0, true), (1, true), (2, true), (3, true), (4, false), (5, true), (6, true), (7, true), (8, false)] (sk (sl sr)) (by kernel_rfl) (fun _ _ d _ _ h => by cases d <;> exact h) ?_))))
 refine pW 0 tA32 rfl rfl rfl rfl rfl (pM rfl rfl rfl (pM rfl rfl rfl (OkE.skp rfl (wt_not rfl rfl rfl) rfl rfl (OkE.imp rfl (OkL.skip (wt_not rfl rfl rfl) rfl (leB rfl) ?_)))))
 refine OkE.back (sk (sl sr)) (OkE.skp rfl (wt_not rfl rfl rfl) rfl rfl (pE (v := (Value.bool false)) rfl (ex_pick_false rfl rfl) rfl (pE (v := (aG (natL n ++ [(Value.bool false)]))) rfl (ex_build_struct (zs := intL 0) (vs := natL n ++ [(Value.bool false)]) (pv := [(0, (aG (natL n))), (1, (Value.bool false))]) (places := [(0, 2), (2, 1)]) Tryz.zeroValue34 Tryz.underlying34 (fun w => by simp [Tryz.sizeOf4, Tryz.sizeOf32]) rfl rfl) rfl (OkE.imp rfl (stW1 rfl rfl rfl Tryz.sizeOf34 rfl rfl ?_)))))
 exact OkE.back (sk (sl sr)) (OkE.nil (OkQ.subF (sC 4 rfl (sC 5 rfl (sN))) (OkQ.then_ (OkC.ret (ret_one rfl (rd_agg (i := 1) (cs := natL n ++ [(Value.bool false)]) rfl rfl Tryz.isAgg34 Tryz.sizeOf34 rfl) (fun w hw => ⟨by rw [intL_pos], hw.out⟩))))))
theorem From_ok (neg : Bool) (n : Nat) (w : World) : Calls Tryz.prog 91 #[.bool neg, .agg (natL n).toArray] w (Gives w (.agg (intL (mkI neg n)).toArray)) := by
 cases neg
 ·exact From_false n w
 ·exact From_true n w
theorem iOf_ok (z : Int) (hz : -9223372036854775808 ≤ z) (hz2 : z < 9223372036854775808) (w : World)  : Calls Tryz.prog 90 #[(vI z)] w (Gives w (aG (intL z))) := by
 refine calls_of (args := [(vI z)]) Tryz.func90 rfl rfl (leB rfl) (OkC.subF (sC 0 rfl (sN)) (q4 (al tZ34 rfl fun b1 => OkL.nil (q1 ?_))))
 refine q4 (mv rfl rfl (st (ex_lss (c := (decide (z < (0 : Int)))) rfl rfl rfl) (leB rfl) (OkL.nil (OkQ.subF (sC 0 rfl (sC 2 rfl (sC 4 rfl (sN)))) (OkQ.then_ ?_)))))
 refine OkC.cond rfl (fun hc0 => ?_) (fun hc0 => ?_)
 ·replace hc0 := of_decide_eq_true hc0
  have he := mkI_natAbs_neg hc0
  refine q4 (mv rfl rfl (st (ex_conv (c := (IntKind.u64.wrap z)) rfl Tryz.underlying2 Tryz.underlying28 (rfl)) (leB rfl) (st (ex_neg (c := ((z.natAbs : Nat) : Int)) rfl (by rw [Int.zero_sub]; exact negU hc0 hz)) (leB rfl) (cl Tryz.call118 (fun w hw => of64_ok z.natAbs (by omega) w) rfl rfl rfl (cl Tryz.call91 (fun w hw => From_ok true z.natAbs w) rfl rfl rfl ?_)))))
  exact stW0 rfl rfl rfl Tryz.sizeOf34 rfl rfl (OkL.nil (OkQ.subF (sC 0 rfl (sC 2 rfl (sN))) (OkQ.then_ (OkC.ret (OkQ.then_ret (ret_one rfl (rd_agg (i := 0) (cs := intL (mkI true z.natAbs)) rfl rfl Tryz.isAgg34 Tryz.sizeOf34 rfl) (fun w hw => ⟨by rw [he], hw.out⟩)))))))
 ·replace hc0 := of_decide_eq_false hc0
  have he := mkI_toNat hc0
  refine OkC.skip (q2 (mv rfl rfl (st (ex_conv (c := ((z.natAbs : Nat) : Int)) rfl Tryz.underlying2 Tryz.underlying28 (by rw [wrap_u64 (by omega) (by omega)]; omega)) (leB rfl) (cl Tryz.call118 (fun w hw => of64_ok z.natAbs (by omega) w) rfl rfl rfl (cl Tryz.call91 (fun w hw => From_ok false z.natAbs w) rfl rfl rfl ?_)))))
  exact stW0 rfl rfl rfl Tryz.sizeOf34 rfl rfl (OkL.nil (OkQ.subF (sC 0 rfl (sC 2 rfl (sN))) (OkQ.then_ (OkC.ret (ret_one rfl (rd_agg (i := 0) (cs := intL (mkI false z.natAbs)) rfl rfl Tryz.isAgg34 Tryz.sizeOf34 rfl) (fun w hw => ⟨by rw [he], hw.out⟩))))))
theorem iAbs_ok (a : Int) (w : World)  : Calls Tryz.prog 92 #[(aG (intL a))] w (Gives w (aG (natL a.natAbs))) := by
 refine calls_of (args := [(aG (intL a))]) Tryz.func92 rfl rfl (leB rfl) (OkC.subF (sC 0 rfl (sN)) (q4 (bx (cs := intL a) rfl rfl rfl fun b1 => al tZ30 rfl fun b2 => q3 (sC 1 rfl (sC 2 rfl (sN))) ?_)))
 refine st (v := (pP b1 0)) (ex_fieldAddr rfl Tryz.underlying34 rfl Tryz.sizeOf32 rfl) (leB rfl) (st (v := (pP b1 0)) (ex_fieldAddr rfl Tryz.underlying32 rfl Tryz.sizeOf30 rfl) (leB rfl) (ldA 1 (natL a.natAbs) tA30 rfl rfl rfl rfl rfl (stW0 rfl rfl rfl Tryz.sizeOf30 rfl rfl (OkL.nil (OkQ.subF (sC 2 rfl (sN)) ?_)))))
 exact OkQ.then_ (OkC.ret (ret_one rfl (rd_agg (i := 0) (cs := natL a.natAbs) rfl rfl Tryz.isAgg30 Tryz.sizeOf30 rfl) (fun w hw => ⟨rfl, hw.out⟩)))
theorem iSign_ok (a : Int) (w : World)  : Calls Tryz.prog 65 #[(aG (intL a))] w (Gives w (vI a.sign)) := by
 refine calls_of (args := [(aG (intL a))]) Tryz.func65 rfl rfl (leB rfl) (OkC.subF (sC 0 rfl (sN)) (q4 (bx (cs := intL a) rfl rfl rfl fun b1 => asg rfl rfl (q6 (sC 1 rfl (sC 2 rfl (sN))) ?_))))
 refine OkC.block (q4 (st (v := (pP b1 0)) (ex_fieldAddr rfl Tryz.underlying34 rfl Tryz.sizeOf32 rfl) (leB rfl) (ldA 0 (natL a.natAbs) tA32 rfl rfl rfl rfl rfl (cl Tryz.call105 (fun w hw => size_zero_ok a.natAbs w) rfl rfl rfl (asg rfl rfl ?_)))))
 refine OkL.nil (OkQ.subF (sC 1 rfl (sC 2 rfl (sC 3 rfl (sN)))) (OkQ.then_ ?_))
 refine OkC.cond rfl (fun hc0 => ?_) (fun hc0 => ?_)
 ·replace hc0 := of_decide_eq_true hc0
  have he : a.sign = 0 := by rw [show a = 0 by omega]; rfl
  refine q4 (asg rfl rfl (OkL.nil (OkQ.then_ (OkC.ret (OkQ.in_ret ?_)))))
  exact OkQ.then_ret (ret_one rfl (rd_tmp (v := (vI 0)) rfl) (fun w hw => ⟨by rw [he], hw.out⟩))
 ·replace hc0 := of_decide_eq_false hc0
  refine q4 (st (v := (pP b1 2)) (ex_fieldAddr rfl Tryz.underlying34 rfl Tryz.sizeOf4 rfl) (leB rfl) (ldO 0 (Value.bool (decide (a < 0))) tO4 rfl rfl rfl rfl (asg rfl rfl (OkL.nil (OkQ.subF (sC 1 rfl (sC 2 rfl (sC 7 rfl (sN)))) ?_)))))
  refine OkQ.then_ ?_
  refine OkC.cond rfl (fun hc1 => ?_) (fun hc1 => ?_)
  ·replace hc1 := of_decide_eq_true hc1
   have he : a.sign = -1 := Int.sign_eq_neg_one_of_neg hc1
   refine q4 (asg rfl rfl (OkL.nil (OkQ.then_ (OkC.ret (OkQ.in_ret ?_)))))
   exact OkQ.then_ret (ret_one rfl (rd_tmp (v := (vI (-1 : Int))) rfl) (fun w hw => ⟨by rw [he], hw.out⟩))
  ·replace hc1 := of_decide_eq_false hc1
   have he : a.sign = 1 := Int.sign_eq_one_of_pos (by omega)
   refine OkC.skip (OkQ.in_normal (q2 (asg rfl rfl (OkL.nil (OkQ.then_ ?_)))))
   exact OkC.ret (ret_one rfl (rd_tmp (v := (vI 1)) rfl) (fun w hw => ⟨by rw [he], hw.out⟩))
theorem iNeg_ok (a : Int) (w : World)  : Calls Tryz.prog 78 #[(aG (intL a))] w (Gives w (aG (intL (-a)))) := by
 refine calls_of (args := [(aG (intL a))]) Tryz.func78 rfl rfl (leB rfl) (OkC.subF (sC 0 rfl (sN)) (q4 (bx (cs := intL a) rfl rfl rfl fun b1 => al tZ34 rfl fun b2 => q3 (sC 1 rfl (sC 2 rfl (sN))) ?_)))
 refine st (v := (pP b1 2)) (ex_fieldAddr rfl Tryz.underlying34 rfl Tryz.sizeOf4 rfl) (leB rfl) (ldO 1 (Value.bool (decide (a < 0))) tO4 rfl rfl rfl rfl (st (ex_not (c := (!(decide (a < 0)))) rfl rfl) (leB rfl) (st (v := (pP b1 0)) (ex_fieldAddr rfl Tryz.underlying34 rfl Tryz.sizeOf32 rfl) (leB rfl) (st (v := (pP b1 0)) (ex_fieldAddr rfl Tryz.underlying32 rfl Tryz.sizeOf30 rfl) (leB rfl) (ldA 1 (natL a.natAbs) tA30 rfl rfl rfl rfl rfl ?_)))))
 exact cl Tryz.call91 (fun w hw => From_ok (!(decide (a < 0))) a.natAbs w) rfl rfl rfl (stW0 rfl rfl rfl Tryz.sizeOf34 rfl rfl (OkL.nil (OkQ.subF (sC 2 rfl (sN)) (OkQ.then_ (OkC.ret (ret_one rfl (rd_agg (i := 0) (cs := intL (mkI (!(decide (a < 0))) a.natAbs)) rfl rfl Tryz.isAgg34 Tryz.sizeOf34 rfl) (fun w hw => ⟨by rw [mkI_not], hw.out⟩)))))))
theorem plus_ok (a b : Int) (ha : nw a.natAbs ≤ 1099511627776) (hb : nw b.natAbs ≤ 1099511627776) (w : World)  : Calls Tryz.prog 123 #[(aG (intL a)), (aG (intL b))] w (Gives w (aG (intL (a + b)))) := by
 refine calls_of (args := [(aG (intL a)), (aG (intL b))]) Tryz.func123 rfl rfl (leB rfl) (OkC.subF (sC 0 rfl (sC 1 rfl (sN))) (q4 (bx (cs := intL a) rfl rfl rfl fun b1 => bx (cs := intL b) rfl rfl rfl fun b2 => al tZ34 rfl fun b3 => ?_)))
 refine q6 (sC 2 rfl (sC 3 rfl (sC 4 rfl (sN)))) (q4 (st (v := (pP b1 2)) (ex_fieldAddr rfl Tryz.underlying34 rfl Tryz.sizeOf4 rfl) (leB rfl) (ldO 2 (Value.bool (decide (a < 0))) tO4 rfl rfl rfl rfl (st (v := (pP b2 2)) (ex_fieldAddr rfl Tryz.underlying34 rfl Tryz.sizeOf4 rfl) (leB rfl) (ldO 1 (Value.bool (decide (b < 0))) tO4 rfl rfl rfl rfl ?_)))))
 refine st (ex_eql_bool (c := (decide (a < 0) == decide (b < 0))) rfl rfl Tryz.underlying4 rfl) (leB rfl) (OkL.nil (OkQ.subF (sC 2 rfl (sC 3 rfl (sC 4 rfl (sC 13 rfl (sN))))) (OkQ.then_ ?_)))
 refine OkC.cond rfl (fun hc0 => ?_) (fun hc0 => ?_)
 ·skip
  have he := mkI_add_same hc0
  refine OkC.seq (rG [(0, true), (1, true), (2, true), (3, true), (4, true), (5, true), (6, true), (7, true), (8, false), (9, false), (10, false)] (sl sr) (by kernel_rfl) (fun _ _ d _ _ h => by cases d <;> exact h) (pE (v := (pP b1 2)) rfl (ex_fieldAddr rfl Tryz.underlying34 rfl Tryz.sizeOf4 rfl) rfl (pO' 1 (Value.bool (decide (a < 0))) tO4 rfl rfl rfl rfl rfl (pE (v := (pP b1 0)) rfl (ex_fieldAddr rfl Tryz.underlying34 rfl Tryz.sizeOf32 rfl) rfl (pE (v := (pP b1 0)) rfl (ex_fieldAddr rfl Tryz.underlying32 rfl Tryz.sizeOf30 rfl) rfl ?_)))))
  refine pA 1 (natL a.natAbs) tA30 rfl rfl rfl rfl rfl rfl (pE (v := (pP b2 0)) rfl (ex_fieldAddr rfl Tryz.underlying34 rfl Tryz.sizeOf32 rfl) rfl (pE (v := (pP b2 0)) rfl (ex_fieldAddr rfl Tryz.underlying32 rfl Tryz.sizeOf30 rfl) rfl (pA 0 (natL b.natAbs) tA30 rfl rfl rfl rfl rfl rfl (OkE.imp rfl (cl Tryz.call122 (fun w hw => Add_ok a.natAbs b.natAbs (by omega) (by omega) w) rfl rfl rfl ?_)))))
  refine OkE.back (sl sr) (OkE.imp rfl (cl Tryz.call91 (fun w hw => From_ok (decide (a < 0)) (a.natAbs + b.natAbs) w) rfl rfl rfl (OkE.back (sl sr) (OkE.imp rfl (stW0 rfl rfl rfl Tryz.sizeOf34 rfl rfl ?_)))))
  exact OkE.back (sl sr) (OkE.nil (OkQ.subF (sC 2 rfl (sC 3 rfl (sC 4 rfl (sN)))) (OkQ.then_ (OkC.ret (OkQ.then_ret (ret_one rfl (rd_agg (i := 0) (cs := intL (mkI (decide (a < 0)) (a.natAbs + b.natAbs))) rfl rfl Tryz.isAgg34 Tryz.sizeOf34 rfl) (fun w hw => ⟨by rw [he], hw.out⟩)))))))
 ·skip
  refine OkC.skip (q1 (q4 (st (v := (pP b1 0)) (ex_fieldAddr rfl Tryz.underlying34 rfl Tryz.sizeOf32 rfl) (leB rfl) (st (v := (pP b1 0)) (ex_fieldAddr rfl Tryz.underlying32 rfl Tryz.sizeOf30 rfl) (leB rfl) (ldA 2 (natL a.natAbs) tA30 rfl rfl rfl rfl rfl ?_)))))
  refine st (v := (pP b2 0)) (ex_fieldAddr rfl Tryz.underlying34 rfl Tryz.sizeOf32 rfl) (leB rfl) (st (v := (pP b2 0)) (ex_fieldAddr rfl Tryz.underlying32 rfl Tryz.sizeOf30 rfl) (leB rfl) (ldA 1 (natL b.natAbs) tA30 rfl rfl rfl rfl rfl (cl Tryz.call117 (fun w hw => Sub_ok a.natAbs b.natAbs (by omega) (by omega) w) rfl rfl rfl (mv rfl rfl (st (ex_extract (v := (aG (natL (a.natAbs - b.natAbs)))) rfl rfl) (leB rfl) ?_)))))
  refine st (ex_extract (v := (Value.bool (decide (b.natAbs ≤ a.natAbs)))) rfl rfl) (leB rfl) (al tZ30 rfl fun b4 => stW0 rfl rfl rfl Tryz.sizeOf30 rfl rfl (asg rfl rfl (q3 (sC 2 rfl (sC 3 rfl (sC 4 rfl (sC 5 rfl (sC 6 rfl (sN)))))) (mv rfl rfl ?_))))
  refine OkL.nil (OkQ.subF (sC 2 rfl (sC 3 rfl (sC 4 rfl (sC 5 rfl (sC 34 rfl (sN)))))) (OkQ.then_ ?_))
  refine OkC.cond rfl (fun hc1 => ?_) (fun hc1 => ?_)
  ·replace hc1 := of_decide_eq_true hc1
   have he := mkI_add_ge hc0 hc1
   refine q4 (st (v := (pP b1 2)) (ex_fieldAddr rfl Tryz.underlying34 rfl Tryz.sizeOf4 rfl) (leB rfl) (ldO 3 (Value.bool (decide (a < 0))) tO4 rfl rfl rfl rfl (ldW 0 tA30 rfl rfl rfl rfl (cl Tryz.call91 (fun w hw => From_ok (decide (a < 0)) (a.natAbs - b.natAbs) w) rfl rfl rfl (stW1 rfl rfl rfl Tryz.sizeOf34 rfl rfl ?_)))))
   exact OkL.nil (OkQ.subF (sC 2 rfl (sC 3 rfl (sC 4 rfl (sC 5 rfl (sN))))) (OkQ.then_ (OkC.ret (OkQ.then_ret (ret_one rfl (rd_agg (i := 1) (cs := intL (mkI (decide (a < 0)) (a.natAbs - b.natAbs))) rfl rfl Tryz.isAgg34 Tryz.sizeOf34 rfl) (fun w hw => ⟨by rw [he], hw.out⟩))))))
  ·replace hc1 := of_decide_eq_false hc1
   have he := mkI_add_lt hc0 hc1
   refine OkC.skip (q2 (st (v := (pP b2 0)) (ex_fieldAddr rfl Tryz.underlying34 rfl Tryz.sizeOf32 rfl) (leB rfl) (st (v := (pP b2 0)) (ex_fieldAddr rfl Tryz.underlying32 rfl Tryz.sizeOf30 rfl) (leB rfl) (ldA 2 (natL b.natAbs) tA30 rfl rfl rfl rfl rfl (st (v := (pP b1 0)) (ex_fieldAddr rfl Tryz.underlying34 rfl Tryz.sizeOf32 rfl) (leB rfl) ?_)))))
   refine st (v := (pP b1 0)) (ex_fieldAddr rfl Tryz.underlying32 rfl Tryz.sizeOf30 rfl) (leB rfl) (ldA 3 (natL a.natAbs) tA30 rfl rfl rfl rfl rfl (cl Tryz.call117 (fun w hw => Sub_ok b.natAbs a.natAbs (by omega) (by omega) w) rfl rfl rfl (mv rfl rfl (st (ex_extract (v := (aG (natL (b.natAbs - a.natAbs)))) rfl rfl) (leB rfl) (st (ex_extract (v := (Value.bool (decide (a.natAbs ≤ b.natAbs)))) rfl rfl) (leB rfl) ?_)))))
   refine al tZ30 rfl fun b5 => stW0 rfl rfl rfl Tryz.sizeOf30 rfl rfl (asg rfl rfl (q3 (sC 2 rfl (sC 3 rfl (sC 4 rfl (sC 5 rfl (sC 7 rfl (sN)))))) (st (v := (pP b2 2)) (ex_fieldAddr rfl Tryz.underlying34 rfl Tryz.sizeOf4 rfl) (leB rfl) (ldO 3 (Value.bool (decide (b < 0))) tO4 rfl rfl rfl rfl ?_))))
   refine ldW 0 tA30 rfl rfl rfl rfl (cl Tryz.call91 (fun w hw => From_ok (decide (b < 0)) (b.natAbs - a.natAbs) w) rfl rfl rfl (stW2 rfl rfl rfl Tryz.sizeOf34 rfl rfl (OkL.nil (OkQ.subF (sC 2 rfl (sC 3 rfl (sC 4 rfl (sC 5 rfl (sC 7 rfl (sN)))))) (OkQ.then_ ?_)))))
   exact OkC.ret (ret_one rfl (rd_agg (i := 2) (cs := intL (mkI (decide (b < 0)) (b.natAbs - a.natAbs))) rfl rfl Tryz.isAgg34 Tryz.sizeOf34 rfl) (fun w hw => ⟨by rw [he], hw.out⟩))
theorem times_ok (a b : Int) (ha : nw a.natAbs ≤ 1099511627776) (hb : nw b.natAbs ≤ 1099511627776) (w : World)  : Calls Tryz.prog 114 #[(aG (intL a)), (aG (intL b))] w (Gives w (aG (intL (a * b)))) := by
 refine calls_of (args := [(aG (intL a)), (aG (intL b))]) Tryz.func114 rfl rfl (leB rfl) (OkC.subF (sC 0 rfl (sC 1 rfl (sN))) (q4 (bx (cs := intL a) rfl rfl rfl fun b1 => bx (cs := intL b) rfl rfl rfl fun b2 => al tZ34 rfl fun b3 => ?_)))
 refine q6 (sC 2 rfl (sC 3 rfl (sC 4 rfl (sN)))) (rG [(0, true), (1, true), (2, true), (3, true), (4, true), (5, true), (6, true), (7, true), (8, true), (9, true), (10, true), (11, false), (12, false), (13, false)] (sl sr) (by kernel_rfl) (fun _ _ d _ _ h => by cases d <;> exact h) (pE (v := (pP b1 2)) rfl (ex_fieldAddr rfl Tryz.underlying34 rfl Tryz.sizeOf4 rfl) rfl (pO' 1 (Value.bool (decide (a < 0))) tO4 rfl rfl rfl rfl rfl (pE (v := (pP b2 2)) rfl (ex_fieldAddr rfl Tryz.underlying34 rfl Tryz.sizeOf4 rfl) rfl (pO' 0 (Value.bool (decide (b < 0))) tO4 rfl rfl rfl rfl rfl ?_)))))
 refine pE rfl (ex_neq_bool (c := (!(decide (a < 0) == decide (b < 0)))) rfl rfl Tryz.underlying4 rfl) rfl (pE (v := (pP b1 0)) rfl (ex_fieldAddr rfl Tryz.underlying34 rfl Tryz.sizeOf32 rfl) rfl (pE (v := (pP b1 0)) rfl (ex_fieldAddr rfl Tryz.underlying32 rfl Tryz.sizeOf30 rfl) rfl (pA 1 (natL a.natAbs) tA30 rfl rfl rfl rfl rfl rfl (pE (v := (pP b2 0)) rfl (ex_fieldAddr rfl Tryz.underlying34 rfl Tryz.sizeOf32 rfl) rfl (pE (v := (pP b2 0)) rfl (ex_fieldAddr rfl Tryz.underlying32 rfl Tryz.sizeOf30 rfl) rfl ?_)))))
 refine pA 0 (natL b.natAbs) tA30 rfl rfl rfl rfl rfl rfl (OkE.imp rfl (cl Tryz.call84 (fun w hw => Mul_ok a.natAbs b.natAbs (by omega) (by omega) w) rfl rfl rfl (OkE.back (sl sr) (OkE.imp rfl (cl Tryz.call91 (fun w hw => From_ok (!(decide (a < 0) == decide (b < 0))) (a.natAbs * b.natAbs) w) rfl rfl rfl ?_)))))
 refine OkE.back (sl sr) (OkE.imp rfl (stW0 rfl rfl rfl Tryz.sizeOf34 rfl rfl (OkE.back (sl sr) (OkE.nil (OkQ.subF (sC 4 rfl (sN)) ?_)))))
 exact OkQ.then_ (OkC.ret (ret_one rfl (rd_agg (i := 0) (cs := intL (mkI (!(decide (a < 0) == decide (b < 0))) (a.natAbs * b.natAbs))) rfl rfl Tryz.isAgg34 Tryz.sizeOf34 rfl) (fun w hw => ⟨by rw [mkI_mul], hw.out⟩)))
theorem told_plus_ok (a b : Int) (ha : nw a.natAbs ≤ 1099511627776) (hb : nw b.natAbs ≤ 1099511627776) (w : World)  : Calls Tryz.prog 113 #[(Value.func (.func 123) #[] #[]), (aG (intL a)), (aG (intL b))] w (Gives w (aG (intL (a + b)))) := by
 refine calls_of (args := [(Value.func (.func 123) #[] #[]), (aG (intL a)), (aG (intL b))]) Tryz.func113 rfl rfl (leB rfl) (OkC.subF (sC 0 rfl (sC 1 rfl (sC 2 rfl (sN)))) (q4 (bx (cs := intL a) rfl rfl rfl fun b1 => bx (cs := intL b) rfl rfl rfl fun b2 => al tZ34 rfl fun b3 => ?_)))
 refine q3 (sC 0 rfl (sC 4 rfl (sC 5 rfl (sC 6 rfl (sN))))) (mv rfl rfl (ldW 2 tA34 rfl rfl rfl rfl (ldW 1 tA34 rfl rfl rfl rfl (cl Tryz.call123 (fun w hw => plus_ok a b (by first | omega | (simp only [Int.natAbs_neg, mkI_natAbs, Int.natAbs_natCast]; omega)) (by first | omega | (simp only [Int.natAbs_neg, mkI_natAbs, Int.natAbs_natCast]; omega)) w) rfl rfl rfl (stW0 rfl rfl rfl Tryz.sizeOf34 rfl rfl ?_)))))
 exact OkL.nil (OkQ.subF (sC 6 rfl (sN)) (OkQ.then_ (OkC.ret (ret_one rfl (rd_agg (i := 0) (cs := intL (a + b)) rfl rfl Tryz.isAgg34 Tryz.sizeOf34 rfl) (fun w hw => ⟨rfl, hw.out⟩)))))
theorem told_times_ok (a b : Int) (ha : nw a.natAbs ≤ 1099511627776) (hb : nw b.natAbs ≤ 1099511627776) (w : World)  : Calls Tryz.prog 113 #[(Value.func (.func 114) #[] #[]), (aG (intL a)), (aG (intL b))] w (Gives w (aG (intL (a * b)))) := by
 refine calls_of (args := [(Value.func (.func 114) #[] #[]), (aG (intL a)), (aG (intL b))]) Tryz.func113 rfl rfl (leB rfl) (OkC.subF (sC 0 rfl (sC 1 rfl (sC 2 rfl (sN)))) (q4 (bx (cs := intL a) rfl rfl rfl fun b1 => bx (cs := intL b) rfl rfl rfl fun b2 => al tZ34 rfl fun b3 => ?_)))
 refine q3 (sC 0 rfl (sC 4 rfl (sC 5 rfl (sC 6 rfl (sN))))) (mv rfl rfl (ldW 2 tA34 rfl rfl rfl rfl (ldW 1 tA34 rfl rfl rfl rfl (cl Tryz.call114 (fun w hw => times_ok a b (by first | omega | (simp only [Int.natAbs_neg, mkI_natAbs, Int.natAbs_natCast]; omega)) (by first | omega | (simp only [Int.natAbs_neg, mkI_natAbs, Int.natAbs_natCast]; omega)) w) rfl rfl rfl (stW0 rfl rfl rfl Tryz.sizeOf34 rfl rfl ?_)))))
 exact OkL.nil (OkQ.subF (sC 6 rfl (sN)) (OkQ.then_ (OkC.ret (ret_one rfl (rd_agg (i := 0) (cs := intL (a * b)) rfl rfl Tryz.isAgg34 Tryz.sizeOf34 rfl) (fun w hw => ⟨rfl, hw.out⟩)))))
theorem iAdd_ok (a b : Int) (ha : nw a.natAbs ≤ 1099511627776) (hb : nw b.natAbs ≤ 1099511627776) (w : World)  : Calls Tryz.prog 86 #[(aG (intL a)), (aG (intL b))] w (Gives w (aG (intL (a + b)))) := by
 refine calls_of (args := [(aG (intL a)), (aG (intL b))]) Tryz.func86 rfl rfl (leB rfl) (OkC.subF (sC 0 rfl (sC 1 rfl (sN))) (q4 (bx (cs := intL a) rfl rfl rfl fun b1 => bx (cs := intL b) rfl rfl rfl fun b2 => al tZ34 rfl fun b3 => ?_)))
 refine q3 (sC 2 rfl (sC 3 rfl (sC 4 rfl (sN)))) (ldW 2 tA34 rfl rfl rfl rfl (ldW 1 tA34 rfl rfl rfl rfl (cl Tryz.call113 (fun w hw => told_plus_ok a b (by first | omega | (simp only [Int.natAbs_neg, mkI_natAbs, Int.natAbs_natCast]; omega)) (by first | omega | (simp only [Int.natAbs_neg, mkI_natAbs, Int.natAbs_natCast]; omega)) w) rfl rfl rfl (stW0 rfl rfl rfl Tryz.sizeOf34 rfl rfl (OkL.nil ?_)))))
 exact OkQ.subF (sC 4 rfl (sN)) (OkQ.then_ (OkC.ret (ret_one rfl (rd_agg (i := 0) (cs := intL (a + b)) rfl rfl Tryz.isAgg34 Tryz.sizeOf34 rfl) (fun w hw => ⟨rfl, hw.out⟩))))
theorem iSub_ok (a b : Int) (ha : nw a.natAbs ≤ 1099511627776) (hb : nw b.natAbs ≤ 1099511627776) (w : World)  : Calls Tryz.prog 124 #[(aG (intL a)), (aG (intL b))] w (Gives w (aG (intL (a - b)))) := by
 refine calls_of (args := [(aG (intL a)), (aG (intL b))]) Tryz.func124 rfl rfl (leB rfl) (OkC.subF (sC 0 rfl (sC 1 rfl (sN))) (q4 (bx (cs := intL a) rfl rfl rfl fun b1 => bx (cs := intL b) rfl rfl rfl fun b2 => al tZ34 rfl fun b3 => ?_)))
 refine q6 (sC 2 rfl (sC 3 rfl (sC 4 rfl (sN)))) (rG [(0, true), (1, true), (2, false), (3, false), (4, false)] (sl sr) (by kernel_rfl) (fun _ _ d _ _ h => by cases d <;> exact h) (pW 1 tA34 rfl rfl rfl rfl rfl (pW 0 tA34 rfl rfl rfl rfl rfl (OkE.imp rfl (cl Tryz.call78 (fun w hw => iNeg_ok b w) rfl rfl rfl ?_)))))
 refine OkE.back (sl sr) (OkE.imp rfl (cl Tryz.call113 (fun w hw => told_plus_ok a (-b) (by first | omega | (simp only [Int.natAbs_neg, mkI_natAbs, Int.natAbs_natCast]; omega)) (by first | omega | (simp only [Int.natAbs_neg, mkI_natAbs, Int.natAbs_natCast]; omega)) w) rfl rfl rfl (OkE.back (sl sr) (OkE.imp rfl (stW0 rfl rfl rfl Tryz.sizeOf34 rfl rfl ?_)))))
 exact OkE.back (sl sr) (OkE.nil (OkQ.subF (sC 4 rfl (sN)) (OkQ.then_ (OkC.ret (ret_one rfl (rd_agg (i := 0) (cs := intL (a + (-b))) rfl rfl Tryz.isAgg34 Tryz.sizeOf34 rfl) (fun w hw => ⟨by rw [Int.sub_eq_add_neg], hw.out⟩))))))
theorem iMul_ok (a b : Int) (ha : nw a.natAbs ≤ 1099511627776) (hb : nw b.natAbs ≤ 1099511627776) (w : World)  : Calls Tryz.prog 82 #[(aG (intL a)), (aG (intL b))] w (Gives w (aG (intL (a * b)))) := by
 refine calls_of (args := [(aG (intL a)), (aG (intL b))]) Tryz.func82 rfl rfl (leB rfl) (OkC.subF (sC 0 rfl (sC 1 rfl (sN))) (q4 (bx (cs := intL a) rfl rfl rfl fun b1 => bx (cs := intL b) rfl rfl rfl fun b2 => al tZ34 rfl fun b3 => ?_)))
 refine q3 (sC 2 rfl (sC 3 rfl (sC 4 rfl (sN)))) (ldW 2 tA34 rfl rfl rfl rfl (ldW 1 tA34 rfl rfl rfl rfl (cl Tryz.call113 (fun w hw => told_times_ok a b (by first | omega | (simp only [Int.natAbs_neg, mkI_natAbs, Int.natAbs_natCast]; omega)) (by first | omega | (simp only [Int.natAbs_neg, mkI_natAbs, Int.natAbs_natCast]; omega)) w) rfl rfl rfl (stW0 rfl rfl rfl Tryz.sizeOf34 rfl rfl (OkL.nil ?_)))))
 exact OkQ.subF (sC 4 rfl (sN)) (OkQ.then_ (OkC.ret (ret_one rfl (rd_agg (i := 0) (cs := intL (a * b)) rfl rfl Tryz.isAgg34 Tryz.sizeOf34 rfl) (fun w hw => ⟨rfl, hw.out⟩))))
theorem iCmp_ok (a b : Int) (ha : nw a.natAbs ≤ 1099511627776) (hb : nw b.natAbs ≤ 1099511627776) (w : World)  : Calls Tryz.prog 89 #[(aG (intL a)), (aG (intL b))] w (Gives w (vI ((a - b).sign))) := by
 refine calls_of (args := [(aG (intL a)), (aG (intL b))]) Tryz.func89 rfl rfl (leB rfl) (OkC.subF (sC 0 rfl (sC 1 rfl (sN))) (q4 (bx (cs := intL a) rfl rfl rfl fun b1 => bx (cs := intL b) rfl rfl rfl fun b2 => asg rfl rfl ?_)))
 refine q3 (sC 2 rfl (sC 3 rfl (sC 4 rfl (sN)))) (ldW 1 tA34 rfl rfl rfl rfl (ldW 0 tA34 rfl rfl rfl rfl (cl Tryz.call124 (fun w hw => iSub_ok a b (by first | omega | (simp only [Int.natAbs_neg, mkI_natAbs, Int.natAbs_natCast]; omega)) (by first | omega | (simp only [Int.natAbs_neg, mkI_natAbs, Int.natAbs_natCast]; omega)) w) rfl rfl rfl (cl Tryz.call65 (fun w hw => iSign_ok (a - b) w) rfl rfl rfl (asg rfl rfl ?_)))))
 exact OkL.nil (OkQ.subF (sC 4 rfl (sN)) (OkQ.then_ (OkC.ret (ret_one rfl (rd_tmp (v := (vI ((a - b).sign))) rfl) (fun w hw => ⟨rfl, hw.out⟩)))))
end
end Go.Proofs.YtpkoldfmbebmgaaGreatDoor
