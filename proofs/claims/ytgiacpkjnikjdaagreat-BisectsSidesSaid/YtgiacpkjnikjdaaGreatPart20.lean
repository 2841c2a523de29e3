import Derived.Test.YtgiacpkjnikjdaaGreatPart06
import Derived.Test.YtgiacpkjnikjdaaGreatPart19
namespace Go.Proofs.YtgiacpkjnikjdaaGreat
open Go Go.RowKit
set_option linter.unusedVariables false
set_option linter.unusedSimpArgs false
section
set_option maxRecDepth 100000
theorem fill_numl_81_0intL_1natL (x0 : Int) (x1 : Nat) : Instr.fill ([(0, 3), (3, 2)].toArray[·]?) (fracL (0 : Rat)).toArray [(0, .agg (intL x0).toArray), (1, .agg (natL x1).toArray)] = some (intL x0 ++ natL x1).toArray := by kernel_rfl
theorem lowest_ok (n : Int) (d : Nat) (hn : nw n.natAbs ≤ 1099511627776) (hd : nw d ≤ 1099511627776) (hd0 : d ≠ 0) (w : World)  : Calls Tryz.prog 88 #[(aG (intL n)), (aG (natL d))] w (Gives w (aG (fracL (mkRat n d)))) := by
 have hg : Nat.gcd n.natAbs d ≠ 0 := fun h => hd0 (Nat.eq_zero_of_gcd_eq_zero_right h)
 have hgw : nw (Nat.gcd n.natAbs d) ≤ nw d := nw_mono (Nat.gcd_le_right _ (Nat.pos_of_ne_zero hd0))
 have hqw : nw (d / Nat.gcd n.natAbs d) ≤ nw d := nw_mono (Nat.div_le_self _ _)
 have h1w := nw_one
 refine calls_of (args := [(aG (intL n)), (aG (natL d))]) Tryz.func88 rfl rfl (leB rfl) (OkC.subF (sL [0, 1] rfl) (q4 (bx' (cs := intL n) rfl fun b1 => bx' (cs := natL d) rfl fun b2 => al tZ81 rfl fun b3 => ?_)))
 refine q6 (sL [2, 3, 4] rfl) (rN [(0, true), (2, true), (1, false), (3, false)] [⟨4, 5, 75, natL 0⟩] [(5, false)] sr (by kernel_rfl) (fun _ _ d _ _ h => by cases d <;> exact h) (newC rfl rfl tZ75 rfl (newN)) rfl (uW' 2 tA79 rfl (uW' 1 tA75 rfl (OkN.imp rfl fun EF EL => ck' Tryz.call136 (iAbs_ok n) rfl ?_))))
 refine OkN.back0 sr rfl (OkN.imp rfl fun EF EL => ck' Tryz.call135 (Gcd_ok n.natAbs d (by omega) (by omega)) rfl (OkN.back0 sr rfl (OkN.news1 fun b4 => OkE.imp rfl ?_)))
 refine stW0' rfl Tryz.sizeOf75 rfl (OkE.back (sl sr) (OkE.nil (OkQ.subF (sL [2, 3, 4, 5] rfl) (q1 (rN [(0, true), (2, true), (1, false), (3, false), (4, true), (5, true), (6, true), (7, true)] [⟨8, 6, 75, natL 0⟩, ⟨9, 7, 75, natL 0⟩] [(10, false), (11, false), (12, true)] sr (by kernel_rfl) (fun _ _ d _ _ h => by cases d <;> exact h) (newC rfl rfl tZ75 rfl (newC rfl rfl tZ75 rfl (newN))) rfl ?_)))))
 refine uW' 3 tA79 rfl (uW' 0 tA75 rfl (OkN.imp rfl fun EF EL => ck' Tryz.call136 (iAbs_ok n) rfl (OkN.back0 sr rfl (OkN.imp rfl fun EF EL => ?_))))
 refine ck' Tryz.call137 (Div_ok n.natAbs (Nat.gcd n.natAbs d) (by omega) (by omega) (by omega)) rfl (OkN.back0 sr rfl (uM' rfl (uE' rfl (ex_extract (v := (aG (natL (n.natAbs / (Nat.gcd n.natAbs d))))) rfl rfl) rfl (uE' rfl (ex_extract (v := (aG (natL (n.natAbs % (Nat.gcd n.natAbs d))))) rfl rfl) rfl (uE' rfl (ex_extract (v := (Value.bool true)) rfl rfl) rfl ?_)))))
 refine OkN.news2 fun b5 b6 => OkE.imp rfl (stW0' rfl Tryz.sizeOf75 rfl (OkE.back (sl (sl sr)) (OkE.imp rfl (stW1' rfl Tryz.sizeOf75 rfl ?_))))
 refine OkE.back (sl (sl sr)) (pS' rfl (OkE.nil (OkQ.subF (sL [2, 3, 4, 5, 6] rfl) (q2 (ldW' 4 tA75 rfl ?_)))))
 refine ldW' 2 tA75 rfl (ck' Tryz.call137 (Div_ok d (Nat.gcd n.natAbs d) (by omega) (by omega) (by omega)) rfl (mv' rfl (st' (ex_extract (v := (aG (natL (d / (Nat.gcd n.natAbs d))))) rfl rfl) rfl (st' (ex_extract (v := (aG (natL (d % (Nat.gcd n.natAbs d))))) rfl rfl) rfl (st' (ex_extract (v := (Value.bool true)) rfl rfl) rfl ?_)))))
 refine al tZ75 rfl fun b7 => al tZ75 rfl fun b8 => stW1' rfl Tryz.sizeOf75 rfl (stW0' rfl Tryz.sizeOf75 rfl (asg' rfl (q6 (sL [2, 3, 4, 5, 6, 9] rfl) ?_)))
 refine dA (sk (sl sr)) (dC (dC (dC (dC (dC (dC (dN))))))) (fun _ => vC (vc_look0 (v := fun β => (aG (natL (d / (Nat.gcd n.natAbs d))))) (ks := []) (G := fun β => [(9, (pP b7 0))]) (fun β => sF (by kernel_rfl)) (fun β => ex_load_agg (i := 1) (vs := natL (d / (Nat.gcd n.natAbs d))) rfl rfl tA75.a tA75.s rfl rfl)) (vC (vc_call0 (v := fun β => (aG (natL 1))) (ks := []) (G := fun β => []) (fun β => sN) (fun β => op_call0 (args := [(Value.int .u64 (1 : Int))]) rfl rfl Tryz.call139) (fun β w hw => of64_ok 1 (by omega) w)) (vC (vcK [32, 33] Tryz.call138 (fun w hw => Sub_ok (d / (Nat.gcd n.natAbs d)) 1 (by omega) (by omega) w) rfl rfl (fun _ => by kernel_rfl)) (vC (vcM 34 (Value.tuple #[(aG (natL ((d / (Nat.gcd n.natAbs d)) - 1))), (Value.bool (decide (1 ≤ d / (Nat.gcd n.natAbs d))))]) (fun _ => by kernel_rfl)) (vC (vcP (G := [(31, (Value.tuple #[(aG (natL ((d / (Nat.gcd n.natAbs d)) - 1))), (Value.bool (decide (1 ≤ d / (Nat.gcd n.natAbs d))))]))]) (fun _ => by kernel_rfl) (fun _ => ex_extract (v := (aG (natL ((d / (Nat.gcd n.natAbs d)) - 1)))) rfl rfl)) (vC (vcP (G := [(31, (Value.tuple #[(aG (natL ((d / (Nat.gcd n.natAbs d)) - 1))), (Value.bool (decide (1 ≤ d / (Nat.gcd n.natAbs d))))]))]) (fun _ => by kernel_rfl) (fun _ => ex_extract (v := (Value.bool (decide (1 ≤ d / (Nat.gcd n.natAbs d))))) rfl rfl)) (VcAll.nil))))))) (by kernel_rfl) (by kernel_rfl) (fun _ _ d _ _ h => by cases d <;> exact h) (fun β _ => ?_)
 refine hS0 (F' := [(2, (pP b1 0)), (3, (pP b2 0)), (4, (pP b3 0)), (5, (pP b4 0)), (6, (pP b5 0)), (9, (pP b7 0)), (35, (aG (natL ((d / (Nat.gcd n.natAbs d)) - 1))))]) rfl rfl (stH1 (sk (sl sr)) rfl rfl rfl Tryz.sizeOf75 rfl rfl (q7 (sL [2, 3, 4, 5, 6, 9] rfl) (rG' [(0, true), (3, true), (5, true), (1, false), (2, true), (4, false), (6, true), (7, false)] (sk (sk (sk (sk (sk (sl sr)))))) (pW' 6 tA79 rfl (pW' 2 tA75 rfl ?_)))))
 refine pW' 1 tA75 rfl (OkE.imp rfl (ck' Tryz.call141 (iSign_ok n) rfl (OkE.back (sk (sk (sk (sk (sk (sl sr)))))) (pE' rfl (ex_lss (c := (decide (n.sign < (0 : Int)))) rfl rfl rfl) (OkE.imp rfl ?_)))))
 refine ck' Tryz.call140 (From_ok (decide (n.sign < (0 : Int))) (n.natAbs / (Nat.gcd n.natAbs d))) rfl (OkE.back (sk (sk (sk (sk (sk (sl sr)))))) (pE' (v := (aG (intL (mkI (decide (n.sign < (0 : Int))) (n.natAbs / (Nat.gcd n.natAbs d))) ++ natL ((d / (Nat.gcd n.natAbs d)) - 1)))) rfl (ex_build_struct (zs := fracL (0 : Rat)) (vs := intL (mkI (decide (n.sign < (0 : Int))) (n.natAbs / (Nat.gcd n.natAbs d))) ++ natL ((d / (Nat.gcd n.natAbs d)) - 1)) (pv := [(0, (aG (intL (mkI (decide (n.sign < (0 : Int))) (n.natAbs / (Nat.gcd n.natAbs d)))))), (1, (aG (natL ((d / (Nat.gcd n.natAbs d)) - 1))))]) (places := [(0, 3), (3, 2)]) Tryz.zeroValue81 Tryz.underlying81 (fun w => by simp [Tryz.sizeOf75, Tryz.sizeOf79]) rfl (fill_numl_81_0intL_1natL (mkI (decide (n.sign < (0 : Int))) (n.natAbs / (Nat.gcd n.natAbs d))) ((d / (Nat.gcd n.natAbs d)) - 1))) (OkE.imp rfl (stX 5 (off := 0) (vs := intL (mkI (decide (n.sign < (0 : Int))) (n.natAbs / (Nat.gcd n.natAbs d))) ++ natL ((d / (Nat.gcd n.natAbs d)) - 1)) (cs' := intL (mkI (decide (n.sign < (0 : Int))) (n.natAbs / (Nat.gcd n.natAbs d))) ++ natL ((d / (Nat.gcd n.natAbs d)) - 1)) (wt_none rfl) rfl Tryz.sizeOf81 rfl (OkE.back (sk (sk (sk (sk (sk (sl sr)))))) ?_)))))
 exact OkE.nil (OkQ.subF (sL [2, 3, 4, 5, 6, 9] rfl) (OkQ.then_ (OkC.ret (ret_one rfl (rd_agg (i := 5) (cs := intL (mkI (decide (n.sign < (0 : Int))) (n.natAbs / (Nat.gcd n.natAbs d))) ++ natL ((d / (Nat.gcd n.natAbs d)) - 1)) rfl rfl Tryz.isAgg81 Tryz.sizeOf81 rfl) (fun w hw => ⟨by rw [fracL_parts, low_num hd0, low_den hd0], hw.out⟩)))))
theorem fill_numl_81_0intL (x0 : Int) : Instr.fill ([(0, 3), (3, 2)].toArray[·]?) (fracL (0 : Rat)).toArray [(0, .agg (intL x0).toArray)] = some (intL x0 ++ natL ((0 : Rat).den - 1)).toArray := by kernel_rfl
theorem whole_ok (n : Int) (w : World)  : Calls Tryz.prog 86 #[(aG (intL n))] w (Gives w (aG (fracL ((n : Int) : Rat)))) := by
 refine calls_of (args := [(aG (intL n))]) Tryz.func86 rfl rfl (leB rfl) (OkC.subF (sL [0] rfl) (q4 (bx' (cs := intL n) rfl fun b1 => al tZ81 rfl fun b2 => q3 (sL [1, 2] rfl) ?_)))
 refine ldW' 1 tA79 rfl (st' (v := (aG (intL n ++ natL ((0 : Rat).den - 1)))) (ex_build_struct (zs := fracL (0 : Rat)) (vs := intL n ++ natL ((0 : Rat).den - 1)) (pv := [(0, (aG (intL n)))]) (places := [(0, 3), (3, 2)]) Tryz.zeroValue81 Tryz.underlying81 (fun w => by simp [Tryz.sizeOf75, Tryz.sizeOf79]) rfl (fill_numl_81_0intL n)) rfl (stW0' rfl Tryz.sizeOf81 rfl (OkL.nil (OkQ.subF (sL [2] rfl) (OkQ.then_ ?_)))))
 exact OkC.ret (ret_one rfl (rd_agg (i := 0) (cs := intL n ++ natL ((0 : Rat).den - 1)) rfl rfl Tryz.isAgg81 Tryz.sizeOf81 rfl) (fun w hw => ⟨rfl, hw.out⟩))
theorem fill_numl_75_  : Instr.fill ([(0, 1), (1, 1)].toArray[·]?) (natL 0).toArray [] = some (natL 0).toArray := by kernel_rfl
theorem Whole_ok (a : Rat) (w : World)  : Calls Tryz.prog 85 #[(aG (fracL a))] w (Gives w (Value.bool (decide (a.den - 1 = 0)))) := by
 refine calls_of (args := [(aG (fracL a))]) Tryz.func85 rfl rfl (leB rfl) (OkC.subF (sL [0] rfl) (q4 (bx' (cs := fracL a) rfl fun b1 => asg' rfl (q3 (sL [1, 2] rfl) ?_))))
 refine st' (v := (pP b1 3)) (ex_fieldAddr rfl Tryz.underlying81 rfl Tryz.sizeOf75 rfl) rfl (ldA' 0 (natL (a.den - 1)) tA75 rfl (st' (v := (aG (natL 0))) (ex_build_struct (zs := natL 0) (vs := natL 0) (pv := []) (places := [(0, 1), (1, 1)]) Tryz.zeroValue75 Tryz.underlying75 (fun w => by simp [Tryz.sizeOf9, Tryz.sizeOf73]) rfl (fill_numl_75_ )) rfl (st' (ex_eql_agg (c := (decide (a.den - 1 = 0))) rfl rfl Tryz.eqGuardType75 (eqB_nat 9998 (a.den - 1) 0)) rfl (asg' rfl (OkL.nil ?_)))))
 exact OkQ.subF (sL [2] rfl) (OkQ.then_ (OkC.ret (ret_one rfl (rd_tmp (v := (Value.bool (decide (a.den - 1 = 0)))) rfl) (fun w hw => ⟨rfl, hw.out⟩))))
theorem den_ok (a : Rat) (ha : nw a.den ≤ 1099511627776) (w : World)  : Calls Tryz.prog 90 #[(aG (fracL a))] w (Gives w (aG (natL a.den))) := by
 have h1w := nw_one
 have h2w := nw_mono (Nat.sub_le a.den 1)
 refine calls_of (args := [(aG (fracL a))]) Tryz.func90 rfl rfl (leB rfl) (OkC.subF (sL [0] rfl) (q4 (bx' (cs := fracL a) rfl fun b1 => al tZ75 rfl fun b2 => q6 (sL [1, 2] rfl) ?_)))
 refine rG' [(0, true), (1, true), (2, false), (3, false), (4, false)] (sl sr) (pE' (v := (pP b1 3)) rfl (ex_fieldAddr rfl Tryz.underlying81 rfl Tryz.sizeOf75 rfl) (pA' 0 (natL (a.den - 1)) tA75 rfl (OkE.imp rfl (ck' Tryz.call139 (of64_ok 1 (by omega)) rfl (OkE.back (sl sr) ?_)))))
 refine OkE.imp rfl (ck' Tryz.call145 (Add_ok (a.den - 1) 1 (by omega) (by omega)) rfl (OkE.back (sl sr) (OkE.imp rfl (stW0' rfl Tryz.sizeOf75 rfl (OkE.back (sl sr) ?_)))))
 exact OkE.nil (OkQ.subF (sL [2] rfl) (OkQ.then_ (OkC.ret (ret_one rfl (rd_agg (i := 0) (cs := natL ((a.den - 1) + 1)) rfl rfl Tryz.isAgg75 Tryz.sizeOf75 rfl) (fun w hw => ⟨by rw [Nat.sub_add_cancel a.den_pos], hw.out⟩)))))
theorem signed_ok (a : Rat) (ha : nw a.den ≤ 1099511627776) (w : World)  : Calls Tryz.prog 96 #[(aG (fracL a))] w (Gives w (aG (intL ((a.den : Nat) : Int)))) := by
 refine calls_of (args := [(aG (fracL a))]) Tryz.func96 rfl rfl (leB rfl) (OkC.subF (sL [0] rfl) (q4 (bx' (cs := fracL a) rfl fun b1 => al tZ79 rfl fun b2 => q3 (sL [1, 2] rfl) ?_)))
 refine ldW' 1 tA81 rfl (ck' Tryz.call90 (den_ok a (by omega)) rfl (ck' Tryz.call140 (From_ok false a.den) rfl (stW0' rfl Tryz.sizeOf79 rfl (OkL.nil (OkQ.subF (sL [2] rfl) ?_)))))
 exact OkQ.then_ (OkC.ret (ret_one rfl (rd_agg (i := 0) (cs := intL (mkI false a.den)) rfl rfl Tryz.isAgg79 Tryz.sizeOf79 rfl) (fun w hw => ⟨rfl, hw.out⟩)))
theorem fNeg_ok (a : Rat) (w : World)  : Calls Tryz.prog 150 #[(aG (fracL a))] w (Gives w (aG (fracL (-a)))) := by
 refine calls_of (args := [(aG (fracL a))]) Tryz.func150 rfl rfl (leB rfl) (OkC.subF (sL [0] rfl) (q4 (bx' (cs := fracL a) rfl fun b1 => al tZ81 rfl fun b2 => q6 (sL [1, 2] rfl) ?_)))
 refine rG' [(0, true), (1, true), (3, true), (4, true), (2, false), (5, true), (6, false)] (sl sr) (pE' (v := (pP b1 0)) rfl (ex_fieldAddr rfl Tryz.underlying81 rfl Tryz.sizeOf79 rfl) (pA' 0 (intL a.num) tA79 rfl (pE' (v := (pP b1 3)) rfl (ex_fieldAddr rfl Tryz.underlying81 rfl Tryz.sizeOf75 rfl) (pA' 0 (natL (a.den - 1)) tA75 rfl (OkE.imp rfl ?_)))))
 refine ck' Tryz.call184 (iNeg_ok a.num) rfl (OkE.back (sl sr) (pE' (v := (aG (intL (-a.num) ++ natL (a.den - 1)))) rfl (ex_build_struct (zs := fracL (0 : Rat)) (vs := intL (-a.num) ++ natL (a.den - 1)) (pv := [(0, (aG (intL (-a.num)))), (1, (aG (natL (a.den - 1))))]) (places := [(0, 3), (3, 2)]) Tryz.zeroValue81 Tryz.underlying81 (fun w => by simp [Tryz.sizeOf75, Tryz.sizeOf79]) rfl (fill_numl_81_0intL_1natL (-a.num) (a.den - 1))) (OkE.imp rfl (stW0' rfl Tryz.sizeOf81 rfl (OkE.back (sl sr) ?_)))))
 exact OkE.nil (OkQ.subF (sL [2] rfl) (OkQ.then_ (OkC.ret (ret_one rfl (rd_agg (i := 0) (cs := intL (-a.num) ++ natL (a.den - 1)) rfl rfl Tryz.isAgg81 Tryz.sizeOf81 rfl) (fun w hw => ⟨by rw [fracL_parts, Rat.neg_num, Rat.neg_den], hw.out⟩)))))
theorem fSign_ok (a : Rat) (w : World)  : Calls Tryz.prog 100 #[(aG (fracL a))] w (Gives w (vI a.num.sign)) := by
 refine calls_of (args := [(aG (fracL a))]) Tryz.func100 rfl rfl (leB rfl) (OkC.subF (sL [0] rfl) (q4 (bx' (cs := fracL a) rfl fun b1 => asg' rfl (q3 (sL [1, 2] rfl) ?_))))
 refine st' (v := (pP b1 0)) (ex_fieldAddr rfl Tryz.underlying81 rfl Tryz.sizeOf79 rfl) rfl (ldA' 0 (intL a.num) tA79 rfl (ck' Tryz.call141 (iSign_ok a.num) rfl (asg' rfl (OkL.nil (OkQ.subF (sL [2] rfl) ?_)))))
 exact OkQ.then_ (OkC.ret (ret_one rfl (rd_tmp (v := (vI a.num.sign)) rfl) (fun w hw => ⟨rfl, hw.out⟩)))
theorem fCmp_ok (a b : Rat) (hs : Sz a + Sz b ≤ 549755813888) (w : World)  : Calls Tryz.prog 103 #[(aG (fracL a)), (aG (fracL b))] w (Gives w (vI (cmpQ a b))) := by
 have s1 := Sz_num a
 have s2 := Sz_den a
 have s3 := Sz_num b
 have s4 := Sz_den b
 have s5 := cross_nw a b
 have s6 := cross_nw b a
 have s7 := den_nw a b
 have s8 := num_nw a b
 have s9 := nwI_add a.num b.num
 have s10 := nwI_add (a.num * ((b.den : Nat) : Int)) (b.num * ((a.den : Nat) : Int))
 have hda := a.den_nz
 have hdb := b.den_nz
 have hdab : a.den * b.den ≠ 0 := Nat.mul_ne_zero hda hdb
 refine calls_of (args := [(aG (fracL a)), (aG (fracL b))]) Tryz.func103 rfl rfl (leB rfl) (OkC.subF (sL [0, 1] rfl) (q4 (bx' (cs := fracL a) rfl fun b1 => bx' (cs := fracL b) rfl fun b2 => asg' rfl ?_)))
 refine q6 (sL [2, 3, 4] rfl) (q4 (st' (v := (pP b1 3)) (ex_fieldAddr rfl Tryz.underlying81 rfl Tryz.sizeOf75 rfl) rfl (ldA' 1 (natL (a.den - 1)) tA75 rfl (st' (v := (pP b2 3)) (ex_fieldAddr rfl Tryz.underlying81 rfl Tryz.sizeOf75 rfl) rfl (ldA' 0 (natL (b.den - 1)) tA75 rfl ?_)))))
 refine st' (ex_eql_agg (c := (decide (a.den - 1 = b.den - 1))) rfl rfl Tryz.eqGuardType75 (eqB_nat 9998 (a.den - 1) (b.den - 1))) rfl (OkL.nil (OkQ.subF (sL [2, 3, 4, 9] rfl) (OkQ.then_ ?_)))
 refine OkC.cond rfl (fun hc0 => ?_) (fun hc0 => ?_)
 ·replace hc0 := of_decide_eq_true hc0
  have he := cmpQ_same hc0
  refine q4 (st' (v := (pP b1 0)) (ex_fieldAddr rfl Tryz.underlying81 rfl Tryz.sizeOf79 rfl) rfl (ldA' 1 (intL a.num) tA79 rfl (st' (v := (pP b2 0)) (ex_fieldAddr rfl Tryz.underlying81 rfl Tryz.sizeOf79 rfl) rfl (ldA' 0 (intL b.num) tA79 rfl (ck' Tryz.call153 (iCmp_ok a.num b.num (by first | omega | (simp only [Int.natAbs_neg, mkI_natAbs, Int.natAbs_natCast]; omega)) (by first | omega | (simp only [Int.natAbs_neg, mkI_natAbs, Int.natAbs_natCast]; omega))) rfl ?_)))))
  exact asg' rfl (OkL.nil (OkQ.subF (sL [2, 3, 4] rfl) (OkQ.then_ (OkC.ret (OkQ.then_ret (ret_one rfl (rd_tmp (v := (vI ((a.num - b.num).sign))) rfl) (fun w hw => ⟨by rw [he], hw.out⟩)))))))
 ·replace hc0 := of_decide_eq_false hc0
  have he := cmpQ_cross a b
  refine OkC.skip (q1 (rG' [(0, true), (1, true), (2, true), (5, true), (6, true), (7, true), (3, false), (4, false), (8, false), (9, false), (10, false), (11, true)] sr (pE' (v := (pP b1 0)) rfl (ex_fieldAddr rfl Tryz.underlying81 rfl Tryz.sizeOf79 rfl) (pA' 1 (intL a.num) tA79 rfl (pW' 0 tA81 rfl ?_)))))
  refine pE' (v := (pP b2 0)) rfl (ex_fieldAddr rfl Tryz.underlying81 rfl Tryz.sizeOf79 rfl) (pA' 0 (intL b.num) tA79 rfl (pW' 1 tA81 rfl (OkE.imp rfl (ck' Tryz.call96 (signed_ok b (by omega)) rfl (OkE.back sr ?_)))))
  refine OkE.imp rfl (ck' Tryz.call87 (iMul_ok a.num ((b.den : Nat) : Int) (by first | omega | (simp only [Int.natAbs_neg, mkI_natAbs, Int.natAbs_natCast]; omega)) (by first | omega | (simp only [Int.natAbs_neg, mkI_natAbs, Int.natAbs_natCast]; omega))) rfl (OkE.back sr (OkE.imp rfl (ck' Tryz.call96 (signed_ok a (by omega)) rfl (OkE.back sr ?_)))))
  refine OkE.imp rfl (ck' Tryz.call87 (iMul_ok b.num ((a.den : Nat) : Int) (by first | omega | (simp only [Int.natAbs_neg, mkI_natAbs, Int.natAbs_natCast]; omega)) (by first | omega | (simp only [Int.natAbs_neg, mkI_natAbs, Int.natAbs_natCast]; omega))) rfl (OkE.back sr (OkE.imp rfl (ck' Tryz.call153 (iCmp_ok (a.num * ((b.den : Nat) : Int)) (b.num * ((a.den : Nat) : Int)) (by first | omega | (simp only [Int.natAbs_neg, mkI_natAbs, Int.natAbs_natCast]; omega)) (by first | omega | (simp only [Int.natAbs_neg, mkI_natAbs, Int.natAbs_natCast]; omega))) rfl (OkE.back sr ?_)))))
  exact pS' rfl (OkE.nil (OkQ.subF (sL [2, 3, 4] rfl) (OkQ.then_ (OkC.ret (ret_one rfl (rd_tmp (v := (vI (((a.num * ((b.den : Nat) : Int)) - (b.num * ((a.den : Nat) : Int))).sign))) rfl) (fun w hw => ⟨by rw [he], hw.out⟩))))))
theorem fAdd_ok (a b : Rat) (hs : Sz a + Sz b ≤ 549755813888) (w : World)  : Calls Tryz.prog 40 #[(aG (fracL a)), (aG (fracL b))] w (Gives w (aG (fracL (a + b)))) := by
 have s1 := Sz_num a
 have s2 := Sz_den a
 have s3 := Sz_num b
 have s4 := Sz_den b
 have s5 := cross_nw a b
 have s6 := cross_nw b a
 have s7 := den_nw a b
 have s8 := num_nw a b
 have s9 := nwI_add a.num b.num
 have s10 := nwI_add (a.num * ((b.den : Nat) : Int)) (b.num * ((a.den : Nat) : Int))
 have hda := a.den_nz
 have hdb := b.den_nz
 have hdab : a.den * b.den ≠ 0 := Nat.mul_ne_zero hda hdb
 refine calls_of (args := [(aG (fracL a)), (aG (fracL b))]) Tryz.func40 rfl rfl (leB rfl) (OkC.subF (sL [0, 1] rfl) (q4 (bx' (cs := fracL a) rfl fun b1 => bx' (cs := fracL b) rfl fun b2 => al tZ81 rfl fun b3 => ?_)))
 refine q6 (sL [2, 3, 4] rfl) (OkC.block (q4 (ldW' 2 tA81 rfl (ck' Tryz.call85 (Whole_ok a) rfl (mv' rfl ?_)))))
 refine OkL.mid (FM := [(2, (pP b1 0)), (3, (pP b2 0)), (4, (pP b3 0)), (6, (aG (fracL a))), (7, (Value.bool (decide (a.den - 1 = 0)))), (8, (Value.bool (decide (a.den - 1 = 0)))), (11, (Value.bool ((decide (a.den - 1 = 0)) && (decide (b.den - 1 = 0)))))]) (LM := [blk b3 81 (fracL (0 : Rat)), blk b2 81 (fracL b), blk b1 81 (fracL a)]) 3 ?_ ?_
 ·rcases Bool.eq_false_or_eq_true (decide (a.den - 1 = 0)) with hg1 | hg1
  ·skip
   refine OkL.retell (k := 8) (u := Value.bool true) rfl (by rw [hg1]) ?_
   have hg1' := hg1
   replace hg1' := of_decide_eq_true hg1'
   exact OkL.step (v := (aG (fracL b))) (wt_some' rfl) (ex_load_agg (i := 1) (vs := fracL b) rfl rfl tA81.a tA81.s rfl rfl) rfl (leB rfl) (OkL.call (v := (Value.bool (decide (b.den - 1 = 0)))) (wt_some' rfl) (op_call0 (args := [(aG (fracL b))]) rfl rfl Tryz.call85) (fun w hw => Whole_ok b w) rfl (leB rfl) (st' (v := (Value.bool (decide (b.den - 1 = 0)))) (ex_pick_true rfl rfl) rfl (OkL.nil (OkQ.mid (sS rfl (sS rfl (sS rfl (sS rfl (sS rfl (sS (by first | rfl | (rw [hg1]; rfl) | rw [hg1]) (sS (by first | rfl | (rw [hg1]; rfl) | rw [hg1]) (sN)))))))) (List.Sublist.refl _)))))
  ·skip
   refine OkL.retell (k := 8) (u := Value.bool false) rfl (by rw [hg1]) ?_
   have hg1' := hg1
   replace hg1' := of_decide_eq_false hg1'
   exact OkL.skip (wt_not' rfl) rfl (leB rfl) (OkL.skip (wt_not' rfl) rfl (leB rfl) (st' (v := (Value.bool false)) (ex_pick_false rfl rfl) rfl (OkL.nil (OkQ.mid (sS rfl (sS rfl (sS rfl (sS rfl (sS rfl (sS (by first | rfl | (rw [hg1]; rfl) | rw [hg1]) (sS (by first | rfl | (rw [hg1]; rfl) | rw [hg1]) (sN)))))))) (List.Sublist.refl _)))))
 refine asg' rfl (OkL.nil (OkQ.subF (sL [2, 3, 4, 5] rfl) (OkQ.then_ ?_)))
 refine OkC.cond rfl (fun hc0 => ?_) (fun hc0 => ?_)
 ·simp only [Bool.and_eq_true, Bool.or_eq_true, Bool.and_eq_false_iff, Bool.or_eq_false_iff, Bool.not_eq_true', Bool.not_eq_false', decide_eq_true_eq, decide_eq_false_iff_not] at hc0
  have he := add_whole hc0.1 hc0.2
  refine q4 (st' (v := (pP b1 0)) (ex_fieldAddr rfl Tryz.underlying81 rfl Tryz.sizeOf79 rfl) rfl (ldA' 2 (intL a.num) tA79 rfl (st' (v := (pP b2 0)) (ex_fieldAddr rfl Tryz.underlying81 rfl Tryz.sizeOf79 rfl) rfl (ldA' 1 (intL b.num) tA79 rfl (ck' Tryz.call95 (iAdd_ok a.num b.num (by first | omega | (simp only [Int.natAbs_neg, mkI_natAbs, Int.natAbs_natCast]; omega)) (by first | omega | (simp only [Int.natAbs_neg, mkI_natAbs, Int.natAbs_natCast]; omega))) rfl ?_)))))
  refine ck' Tryz.call86 (whole_ok (a.num + b.num)) rfl (stW0' rfl Tryz.sizeOf81 rfl (OkL.nil (OkQ.subF (sL [2, 3, 4] rfl) (OkQ.then_ (OkC.ret ?_)))))
  exact OkQ.in_ret (OkQ.then_ret (ret_one rfl (rd_agg (i := 0) (cs := fracL ((a.num + b.num : Int) : Rat)) rfl rfl Tryz.isAgg81 Tryz.sizeOf81 rfl) (fun w hw => ⟨by rw [he], hw.out⟩)))
 ·simp only [Bool.and_eq_true, Bool.or_eq_true, Bool.and_eq_false_iff, Bool.or_eq_false_iff, Bool.not_eq_true', Bool.not_eq_false', decide_eq_true_eq, decide_eq_false_iff_not] at hc0
  have he := add_mkRat a b
  refine q4 (st' (v := (pP b1 3)) (ex_fieldAddr rfl Tryz.underlying81 rfl Tryz.sizeOf75 rfl) rfl (ldA' 2 (natL (a.den - 1)) tA75 rfl (st' (v := (pP b2 3)) (ex_fieldAddr rfl Tryz.underlying81 rfl Tryz.sizeOf75 rfl) rfl (ldA' 1 (natL (b.den - 1)) tA75 rfl (st' (ex_eql_agg (c := (decide (a.den - 1 = b.den - 1))) rfl rfl Tryz.eqGuardType75 (eqB_nat 9998 (a.den - 1) (b.den - 1))) rfl ?_)))))
  refine asg' rfl (OkL.nil (OkQ.subF (sL [2, 3, 4, 18] rfl) (OkQ.then_ ?_)))
  refine OkC.cond rfl (fun hc1 => ?_) (fun hc1 => ?_)
  ·replace hc1 := of_decide_eq_true hc1
   have he := add_same hc1
   refine OkC.seq (rG' [(0, true), (1, true), (2, true), (3, true), (5, true), (4, false), (6, false), (7, false), (8, false)] (sl sr) (pE' (v := (pP b1 0)) rfl (ex_fieldAddr rfl Tryz.underlying81 rfl Tryz.sizeOf79 rfl) (pA' 1 (intL a.num) tA79 rfl (pE' (v := (pP b2 0)) rfl (ex_fieldAddr rfl Tryz.underlying81 rfl Tryz.sizeOf79 rfl) (pA' 0 (intL b.num) tA79 rfl ?_)))))
   refine pW' 1 tA81 rfl (OkE.imp rfl (ck' Tryz.call95 (iAdd_ok a.num b.num (by first | omega | (simp only [Int.natAbs_neg, mkI_natAbs, Int.natAbs_natCast]; omega)) (by first | omega | (simp only [Int.natAbs_neg, mkI_natAbs, Int.natAbs_natCast]; omega))) rfl (OkE.back (sl sr) (OkE.imp rfl (ck' Tryz.call90 (den_ok a (by omega)) rfl ?_)))))
   refine OkE.back (sl sr) (OkE.imp rfl (ck' Tryz.call88 (lowest_ok (a.num + b.num) a.den (by omega) (by omega) (by first | omega | assumption)) rfl (OkE.back (sl sr) (OkE.imp rfl (stW0' rfl Tryz.sizeOf81 rfl ?_)))))
   refine OkE.back (sl sr) (OkE.nil (OkQ.subF (sL [2, 3, 4] rfl) (OkQ.then_ (OkC.ret (OkQ.in_ret ?_)))))
   exact OkQ.then_ret (ret_one rfl (rd_agg (i := 0) (cs := fracL (mkRat (a.num + b.num) a.den)) rfl rfl Tryz.isAgg81 Tryz.sizeOf81 rfl) (fun w hw => ⟨by rw [he], hw.out⟩))
  ·replace hc1 := of_decide_eq_false hc1
   refine OkC.skip (OkQ.in_normal (q1 (rG' [(0, true), (1, true), (2, true), (5, true), (6, true), (7, true), (11, true), (13, true), (3, false), (4, false), (8, false), (9, false), (10, false), (12, false), (14, false), (15, false), (16, false), (17, false)] (sl sr) (pE' (v := (pP b1 0)) rfl (ex_fieldAddr rfl Tryz.underlying81 rfl Tryz.sizeOf79 rfl) (pA' 1 (intL a.num) tA79 rfl ?_)))))
   refine pW' 0 tA81 rfl (pE' (v := (pP b2 0)) rfl (ex_fieldAddr rfl Tryz.underlying81 rfl Tryz.sizeOf79 rfl) (pA' 0 (intL b.num) tA79 rfl (pW' 1 tA81 rfl (pW' 1 tA81 rfl (pW' 0 tA81 rfl ?_)))))
   refine OkE.imp rfl (ck' Tryz.call96 (signed_ok b (by omega)) rfl (OkE.back (sl sr) (OkE.imp rfl (ck' Tryz.call87 (iMul_ok a.num ((b.den : Nat) : Int) (by first | omega | (simp only [Int.natAbs_neg, mkI_natAbs, Int.natAbs_natCast]; omega)) (by first | omega | (simp only [Int.natAbs_neg, mkI_natAbs, Int.natAbs_natCast]; omega))) rfl (OkE.back (sl sr) ?_)))))
   refine OkE.imp rfl (ck' Tryz.call96 (signed_ok a (by omega)) rfl (OkE.back (sl sr) (OkE.imp rfl (ck' Tryz.call87 (iMul_ok b.num ((a.den : Nat) : Int) (by first | omega | (simp only [Int.natAbs_neg, mkI_natAbs, Int.natAbs_natCast]; omega)) (by first | omega | (simp only [Int.natAbs_neg, mkI_natAbs, Int.natAbs_natCast]; omega))) rfl (OkE.back (sl sr) ?_)))))
   refine OkE.imp rfl (ck' Tryz.call95 (iAdd_ok (a.num * ((b.den : Nat) : Int)) (b.num * ((a.den : Nat) : Int)) (by first | omega | (simp only [Int.natAbs_neg, mkI_natAbs, Int.natAbs_natCast]; omega)) (by first | omega | (simp only [Int.natAbs_neg, mkI_natAbs, Int.natAbs_natCast]; omega))) rfl (OkE.back (sl sr) (OkE.imp rfl (ck' Tryz.call90 (den_ok a (by omega)) rfl (OkE.back (sl sr) ?_)))))
   refine OkE.imp rfl (ck' Tryz.call90 (den_ok b (by omega)) rfl (OkE.back (sl sr) (OkE.imp rfl (ck' Tryz.call89 (Mul_ok a.den b.den (by omega) (by omega)) rfl (OkE.back (sl sr) ?_)))))
   refine OkE.imp rfl (ck' Tryz.call88 (lowest_ok ((a.num * ((b.den : Nat) : Int)) + (b.num * ((a.den : Nat) : Int))) (a.den * b.den) (by omega) (by omega) (by first | omega | assumption)) rfl (OkE.back (sl sr) (OkE.imp rfl (stW0' rfl Tryz.sizeOf81 rfl (OkE.back (sl sr) ?_)))))
   exact OkE.nil (OkQ.subF (sL [2, 3, 4] rfl) (OkQ.then_ (OkC.ret (ret_one rfl (rd_agg (i := 0) (cs := fracL (mkRat ((a.num * ((b.den : Nat) : Int)) + (b.num * ((a.den : Nat) : Int))) (a.den * b.den))) rfl rfl Tryz.isAgg81 Tryz.sizeOf81 rfl) (fun w hw => ⟨by rw [he], hw.out⟩)))))
theorem fSub_ok (a b : Rat) (hs : Sz a + Sz b ≤ 549755813888) (w : World)  : Calls Tryz.prog 97 #[(aG (fracL a)), (aG (fracL b))] w (Gives w (aG (fracL (a - b)))) := by
 refine calls_of (args := [(aG (fracL a)), (aG (fracL b))]) Tryz.func97 rfl rfl (leB rfl) (OkC.subF (sL [0, 1] rfl) (q4 (bx' (cs := fracL a) rfl fun b1 => bx' (cs := fracL b) rfl fun b2 => al tZ81 rfl fun b3 => ?_)))
 refine q6 (sL [2, 3, 4] rfl) (rG' [(0, true), (1, true), (2, false), (3, false), (4, false)] (sl sr) (pW' 1 tA81 rfl (pW' 0 tA81 rfl (OkE.imp rfl (ck' Tryz.call150 (fNeg_ok b) rfl ?_)))))
 refine OkE.back (sl sr) (OkE.imp rfl ?_)
 have hz1 := Sz_add a (-b)
 refine ck' Tryz.call40 (fAdd_ok a (-b) (by (try simp only [Sz_neg]); omega)) rfl (OkE.back (sl sr) (OkE.imp rfl (stW0' rfl Tryz.sizeOf81 rfl (OkE.back (sl sr) (OkE.nil ?_)))))
 exact OkQ.subF (sL [4] rfl) (OkQ.then_ (OkC.ret (ret_one rfl (rd_agg (i := 0) (cs := fracL (a + (-b))) rfl rfl Tryz.isAgg81 Tryz.sizeOf81 rfl) (fun w hw => ⟨by rw [Rat.sub_eq_add_neg], hw.out⟩))))
theorem fMul_ok (a b : Rat) (hs : Sz a + Sz b ≤ 549755813888) (w : World)  : Calls Tryz.prog 33 #[(aG (fracL a)), (aG (fracL b))] w (Gives w (aG (fracL (a * b)))) := by
 have s1 := Sz_num a
 have s2 := Sz_den a
 have s3 := Sz_num b
 have s4 := Sz_den b
 have s5 := cross_nw a b
 have s6 := cross_nw b a
 have s7 := den_nw a b
 have s8 := num_nw a b
 have s9 := nwI_add a.num b.num
 have s10 := nwI_add (a.num * ((b.den : Nat) : Int)) (b.num * ((a.den : Nat) : Int))
 have hda := a.den_nz
 have hdb := b.den_nz
 have hdab : a.den * b.den ≠ 0 := Nat.mul_ne_zero hda hdb
 refine calls_of (args := [(aG (fracL a)), (aG (fracL b))]) Tryz.func33 rfl rfl (leB rfl) (OkC.subF (sL [0, 1] rfl) (q4 (bx' (cs := fracL a) rfl fun b1 => bx' (cs := fracL b) rfl fun b2 => al tZ81 rfl fun b3 => ?_)))
 refine q6 (sL [2, 3, 4] rfl) (q4 (ldW' 2 tA81 rfl (ck' Tryz.call85 (Whole_ok a) rfl (mv' rfl ?_))))
 refine OkL.mid (FM := [(2, (pP b1 0)), (3, (pP b2 0)), (4, (pP b3 0)), (5, (aG (fracL a))), (6, (Value.bool (decide (a.den - 1 = 0)))), (7, (Value.bool (decide (a.den - 1 = 0)))), (10, (Value.bool ((decide (a.den - 1 = 0)) && (decide (b.den - 1 = 0)))))]) (LM := [blk b3 81 (fracL (0 : Rat)), blk b2 81 (fracL b), blk b1 81 (fracL a)]) 3 ?_ ?_
 ·rcases Bool.eq_false_or_eq_true (decide (a.den - 1 = 0)) with hg1 | hg1
  ·skip
   refine OkL.retell (k := 7) (u := Value.bool true) rfl (by rw [hg1]) ?_
   have hg1' := hg1
   replace hg1' := of_decide_eq_true hg1'
   exact OkL.step (v := (aG (fracL b))) (wt_some' rfl) (ex_load_agg (i := 1) (vs := fracL b) rfl rfl tA81.a tA81.s rfl rfl) rfl (leB rfl) (OkL.call (v := (Value.bool (decide (b.den - 1 = 0)))) (wt_some' rfl) (op_call0 (args := [(aG (fracL b))]) rfl rfl Tryz.call85) (fun w hw => Whole_ok b w) rfl (leB rfl) (st' (v := (Value.bool (decide (b.den - 1 = 0)))) (ex_pick_true rfl rfl) rfl (OkL.nil (OkQ.mid (sS rfl (sS rfl (sS rfl (sS rfl (sS rfl (sS (by first | rfl | (rw [hg1]; rfl) | rw [hg1]) (sS (by first | rfl | (rw [hg1]; rfl) | rw [hg1]) (sN)))))))) (List.Sublist.refl _)))))
  ·skip
   refine OkL.retell (k := 7) (u := Value.bool false) rfl (by rw [hg1]) ?_
   have hg1' := hg1
   replace hg1' := of_decide_eq_false hg1'
   exact OkL.skip (wt_not' rfl) rfl (leB rfl) (OkL.skip (wt_not' rfl) rfl (leB rfl) (st' (v := (Value.bool false)) (ex_pick_false rfl rfl) rfl (OkL.nil (OkQ.mid (sS rfl (sS rfl (sS rfl (sS rfl (sS rfl (sS (by first | rfl | (rw [hg1]; rfl) | rw [hg1]) (sS (by first | rfl | (rw [hg1]; rfl) | rw [hg1]) (sN)))))))) (List.Sublist.refl _)))))
 refine OkL.nil (OkQ.subF (sL [2, 3, 4, 10] rfl) (OkQ.then_ ?_))
 refine OkC.cond rfl (fun hc0 => ?_) (fun hc0 => ?_)
 ·simp only [Bool.and_eq_true, Bool.or_eq_true, Bool.and_eq_false_iff, Bool.or_eq_false_iff, Bool.not_eq_true', Bool.not_eq_false', decide_eq_true_eq, decide_eq_false_iff_not] at hc0
  have he := mul_whole hc0.1 hc0.2
  refine q4 (st' (v := (pP b1 0)) (ex_fieldAddr rfl Tryz.underlying81 rfl Tryz.sizeOf79 rfl) rfl (ldA' 2 (intL a.num) tA79 rfl (st' (v := (pP b2 0)) (ex_fieldAddr rfl Tryz.underlying81 rfl Tryz.sizeOf79 rfl) rfl (ldA' 1 (intL b.num) tA79 rfl (ck' Tryz.call87 (iMul_ok a.num b.num (by first | omega | (simp only [Int.natAbs_neg, mkI_natAbs, Int.natAbs_natCast]; omega)) (by first | omega | (simp only [Int.natAbs_neg, mkI_natAbs, Int.natAbs_natCast]; omega))) rfl ?_)))))
  refine ck' Tryz.call86 (whole_ok (a.num * b.num)) rfl (stW0' rfl Tryz.sizeOf81 rfl (OkL.nil (OkQ.subF (sL [2, 3, 4] rfl) (OkQ.then_ (OkC.ret ?_)))))
  exact OkQ.then_ret (ret_one rfl (rd_agg (i := 0) (cs := fracL ((a.num * b.num : Int) : Rat)) rfl rfl Tryz.isAgg81 Tryz.sizeOf81 rfl) (fun w hw => ⟨by rw [he], hw.out⟩))
 ·simp only [Bool.and_eq_true, Bool.or_eq_true, Bool.and_eq_false_iff, Bool.or_eq_false_iff, Bool.not_eq_true', Bool.not_eq_false', decide_eq_true_eq, decide_eq_false_iff_not] at hc0
  have he := mul_mkRat a b
  refine OkC.skip (q1 (rG' [(0, true), (1, true), (2, true), (3, true), (5, true), (7, true), (4, false), (6, false), (8, false), (9, false), (10, false), (11, false)] (sl sr) (pE' (v := (pP b1 0)) rfl (ex_fieldAddr rfl Tryz.underlying81 rfl Tryz.sizeOf79 rfl) (pA' 1 (intL a.num) tA79 rfl (pE' (v := (pP b2 0)) rfl (ex_fieldAddr rfl Tryz.underlying81 rfl Tryz.sizeOf79 rfl) ?_)))))
  refine pA' 0 (intL b.num) tA79 rfl (pW' 1 tA81 rfl (pW' 0 tA81 rfl (OkE.imp rfl (ck' Tryz.call87 (iMul_ok a.num b.num (by first | omega | (simp only [Int.natAbs_neg, mkI_natAbs, Int.natAbs_natCast]; omega)) (by first | omega | (simp only [Int.natAbs_neg, mkI_natAbs, Int.natAbs_natCast]; omega))) rfl (OkE.back (sl sr) ?_)))))
  refine OkE.imp rfl (ck' Tryz.call90 (den_ok a (by omega)) rfl (OkE.back (sl sr) (OkE.imp rfl (ck' Tryz.call90 (den_ok b (by omega)) rfl (OkE.back (sl sr) ?_)))))
  refine OkE.imp rfl (ck' Tryz.call89 (Mul_ok a.den b.den (by omega) (by omega)) rfl (OkE.back (sl sr) (OkE.imp rfl (ck' Tryz.call88 (lowest_ok (a.num * b.num) (a.den * b.den) (by omega) (by omega) (by first | omega | assumption)) rfl (OkE.back (sl sr) ?_)))))
  refine OkE.imp rfl (stW0' rfl Tryz.sizeOf81 rfl (OkE.back (sl sr) (OkE.nil (OkQ.subF (sL [2, 3, 4] rfl) (OkQ.then_ ?_)))))
  exact OkC.ret (ret_one rfl (rd_agg (i := 0) (cs := fracL (mkRat (a.num * b.num) (a.den * b.den))) rfl rfl Tryz.isAgg81 Tryz.sizeOf81 rfl) (fun w hw => ⟨by rw [he], hw.out⟩))
theorem fDiv_ok (a b : Rat) (hs : Sz a + Sz b ≤ 549755813888) (hb : b ≠ 0) (w : World)  : Calls Tryz.prog 104 #[(aG (fracL a)), (aG (fracL b))] w (Gives w (Value.tuple #[(aG (fracL (a / b))), (vI 0)])) := by
 have s1 := Sz_num a
 have s2 := Sz_den a
 have s3 := Sz_num b
 have s4 := Sz_den b
 have s5 := cross_nw a b
 have s6 := cross_nw b a
 have s7 := den_nw a b
 have s8 := num_nw a b
 have s9 := nwI_add a.num b.num
 have s10 := nwI_add (a.num * ((b.den : Nat) : Int)) (b.num * ((a.den : Nat) : Int))
 have hda := a.den_nz
 have hdb := b.den_nz
 have hdab : a.den * b.den ≠ 0 := Nat.mul_ne_zero hda hdb
 have hbn : b.num ≠ 0 := fun e => hb (Rat.num_eq_zero.1 e)
 have hbs : b.num.sign ≠ 0 := fun e => hbn (Int.sign_eq_zero_iff_zero.1 e)
 have hmi : nw (mkI (decide (b.num.sign < (0 : Int))) b.den).natAbs = nw b.den := by rw [mkI_natAbs]
 have hinv := inv_mkRat hb
 have hsi := Sz_inv hb
 rw [← hinv] at hsi
 refine calls_of (args := [(aG (fracL a)), (aG (fracL b))]) Tryz.func104 rfl rfl (leB rfl) (OkC.subF (sL [0, 1] rfl) (q4 (bx' (cs := fracL a) rfl fun b1 => bx' (cs := fracL b) rfl fun b2 => al tZ81 rfl fun b3 => ?_)))
 refine asg' rfl (q6 (sL [2, 3, 4, 5] rfl) (q4 (ldW' 1 tA81 rfl (ck' Tryz.call100 (fSign_ok b) rfl (st' (ex_eql (c := (decide (b.num.sign = (0 : Int)))) rfl rfl rfl) rfl ?_)))))
 refine OkL.nil (OkQ.subF (sL [2, 3, 4, 5, 9] rfl) (OkQ.then_ ?_))
 refine OkC.cond rfl (fun hc0 => ?_) (fun hc0 => ?_)
 ·replace hc0 := of_decide_eq_true hc0
  exact absurd hc0 hbs
 ·replace hc0 := of_decide_eq_false hc0
  refine OkC.skip (q1 (rN [(0, true), (3, true), (6, true), (7, true), (1, false), (2, true), (4, false), (5, false), (8, false), (9, false)] [⟨10, 6, 81, fracL (0 : Rat)⟩] [(11, false)] sr (by kernel_rfl) (fun _ _ d _ _ h => by cases d <;> exact h) (newC rfl rfl tZ81 rfl (newN)) rfl (uW' 1 tA81 rfl (uW' 1 tA81 rfl (uE' (v := (pP b2 0)) rfl (ex_fieldAddr rfl Tryz.underlying81 rfl Tryz.sizeOf79 rfl) rfl ?_)))))
  refine uA' 1 (intL b.num) tA79 rfl (OkN.imp rfl fun EF EL => ck' Tryz.call100 (fSign_ok b) rfl (OkN.back0 sr rfl (uE' rfl (ex_lss (c := (decide (b.num.sign < (0 : Int)))) rfl rfl rfl) rfl (OkN.imp rfl fun EF EL => ?_))))
  refine ck' Tryz.call90 (den_ok b (by omega)) rfl (OkN.back0 sr rfl (OkN.imp rfl fun EF EL => ck' Tryz.call140 (From_ok (decide (b.num.sign < (0 : Int))) b.den) rfl (OkN.back0 sr rfl (OkN.imp rfl fun EF EL => ?_))))
  refine ck' Tryz.call136 (iAbs_ok b.num) rfl (OkN.back0 sr rfl (OkN.imp rfl fun EF EL => ck' Tryz.call88 (lowest_ok (mkI (decide (b.num.sign < (0 : Int))) b.den) b.num.natAbs (by omega) (by omega) (by first | omega | assumption)) rfl (OkN.back0 sr rfl (OkN.news1 fun b4 => ?_))))
  refine OkE.imp rfl (stW0' rfl Tryz.sizeOf81 rfl (OkE.back (sl sr) (OkE.nil (OkQ.subF (sL [2, 3, 4, 5, 6] rfl) (q2 ?_)))))
  refine ldW' 3 tA81 rfl (ldW' 0 tA81 rfl ?_)
  have hz1 := Sz_mul a (mkRat (mkI (decide (b.num.sign < (0 : Int))) b.den) b.num.natAbs)
  refine ck' Tryz.call33 (fMul_ok a (mkRat (mkI (decide (b.num.sign < (0 : Int))) b.den) b.num.natAbs) (by (try simp only [Sz_neg]); omega)) rfl (stW1' rfl Tryz.sizeOf81 rfl (asg' rfl (OkL.nil (OkQ.subF (sL [3, 4, 5, 6] rfl) (OkQ.then_ ?_)))))
  exact OkC.ret (ret_two rfl (rd_agg (i := 1) (cs := fracL (a * (mkRat (mkI (decide (b.num.sign < (0 : Int))) b.den) b.num.natAbs))) rfl rfl Tryz.isAgg81 Tryz.sizeOf81 rfl) (rd_tmp (v := (vI 0)) rfl) (fun w hw => ⟨by rw [hinv, Rat.div_def], hw.out⟩))
theorem fInt_ok (z : Int) (hz : -9223372036854775808 ≤ z) (hz2 : z < 9223372036854775808) (w : World)  : Calls Tryz.prog 34 #[(vI z)] w (Gives w (aG (fracL ((z : Int) : Rat)))) := by
 refine calls_of (args := [(vI z)]) Tryz.func34 rfl rfl (leB rfl) (OkC.subF (sL [0] rfl) (q4 (al tZ81 rfl fun b1 => OkL.nil (q2 ?_))))
 refine mv' rfl (ck' Tryz.call91 (iOf_ok z (by omega) (by omega)) rfl (ck' Tryz.call86 (whole_ok z) rfl (stW0' rfl Tryz.sizeOf81 rfl (OkL.nil (OkQ.subF (sL [2] rfl) ?_)))))
 exact OkQ.then_ (OkC.ret (ret_one rfl (rd_agg (i := 0) (cs := fracL ((z : Int) : Rat)) rfl rfl Tryz.isAgg81 Tryz.sizeOf81 rfl) (fun w hw => ⟨rfl, hw.out⟩)))
end
section
instance : Add Pt := ⟨fun a b => ⟨a.x + b.x, a.y + b.y⟩⟩
instance : Sub Pt := ⟨fun a b => ⟨a.x - b.x, a.y - b.y⟩⟩
def scaleP (a : Pt) (k : Rat) : Pt := ⟨a.x * k, a.y * k⟩
def crossP (a b : Pt) : Rat := a.x * b.y - a.y * b.x
def dotP (a b : Pt) : Rat := a.x * b.x + a.y * b.y
def turnP (a b c : Pt) : Rat := crossP (b - a) (c - a)
def SzP (p : Pt) : Nat := max (Sz p.x) (Sz p.y)
theorem SzP_x (p : Pt) : Sz p.x ≤ SzP p := Nat.le_max_left ..
theorem SzP_y (p : Pt) : Sz p.y ≤ SzP p := Nat.le_max_right ..
theorem SzP_le {p : Pt} {k : Nat} (h1 : Sz p.x ≤ k) (h2 : Sz p.y ≤ k) : SzP p ≤ k := Nat.max_le.2 ⟨h1, h2⟩
theorem SzP_add (a b : Pt) : SzP (a + b) ≤ SzP a + SzP b + 1 := by
  have h1 := SzP_x a; have h2 := SzP_y a; have h3 := SzP_x b; have h4 := SzP_y b
  refine SzP_le ?_ ?_
  · exact Nat.le_trans (Sz_add a.x b.x) (by omega)
  · exact Nat.le_trans (Sz_add a.y b.y) (by omega)
theorem SzP_sub (a b : Pt) : SzP (a - b) ≤ SzP a + SzP b + 1 := by
  have h1 := SzP_x a; have h2 := SzP_y a; have h3 := SzP_x b; have h4 := SzP_y b
  refine SzP_le ?_ ?_
  · exact Nat.le_trans (Sz_sub a.x b.x) (by omega)
  · exact Nat.le_trans (Sz_sub a.y b.y) (by omega)
theorem SzP_scale (a : Pt) (k : Rat) : SzP (scaleP a k) ≤ SzP a + Sz k := by
  have h1 := SzP_x a; have h2 := SzP_y a
  refine SzP_le ?_ ?_
  · exact Nat.le_trans (Sz_mul a.x k) (by omega)
  · exact Nat.le_trans (Sz_mul a.y k) (by omega)
theorem Sz_cross (a b : Pt) : Sz (crossP a b) ≤ 2 * SzP a + 2 * SzP b + 1 := by
  have h1 := SzP_x a; have h2 := SzP_y a; have h3 := SzP_x b; have h4 := SzP_y b
  have h5 := Sz_mul a.x b.y; have h6 := Sz_mul a.y b.x
  exact Nat.le_trans (Sz_sub _ _) (by omega)
theorem Sz_dot (a b : Pt) : Sz (dotP a b) ≤ 2 * SzP a + 2 * SzP b + 1 := by
  have h1 := SzP_x a; have h2 := SzP_y a; have h3 := SzP_x b; have h4 := SzP_y b
  have h5 := Sz_mul a.x b.x; have h6 := Sz_mul a.y b.y
  exact Nat.le_trans (Sz_add _ _) (by omega)
theorem Sz_half : Sz (1 / 2 : Rat) ≤ 1 := by decide +kernel
theorem half_of : ((1 : Int) : Rat) / ((2 : Int) : Rat) = 1 / 2 := by decide +kernel
theorem Sz_int {z : Int} (h1 : -9223372036854775808 ≤ z) (h2 : z < 9223372036854775808) : Sz ((z : Int) : Rat) ≤ 2 := Sz_le (nw_small (by show z.natAbs < _; omega)) (by show nw 1 ≤ 2; rw [nw_one]; omega)
theorem ptL_add (a b : Pt) : ptL (a + b) = fracL (a.x + b.x) ++ fracL (a.y + b.y) := rfl
theorem ptL_sub (a b : Pt) : ptL (a - b) = fracL (a.x - b.x) ++ fracL (a.y - b.y) := rfl
theorem ptL_scale (a : Pt) (k : Rat) : ptL (scaleP a k) = fracL (a.x * k) ++ fracL (a.y * k) := rfl
theorem ptL_mk (x y : Rat) : ptL ⟨x, y⟩ = fracL x ++ fracL y := rfl
section
variable {P : Program} {Q : Exit → Act → World → Prop} {n : Nat} {F : List (Nat × Value)} {w0 : Base} {L : List As} {c : Code}
def OkR (P : Program) (c : Code) (Q : Exit → Act → World → Prop) (k n : Nat) (F : List (Nat × Value)) (w0 : Base) (L : List As) : Prop := ∀ a w, Frm n a F → Own w0 w L → Code.rounds P c Q k a w
theorem OkC.unroll (k : Nat) (h : OkR P c Q k n F w0 L) : OkC P (.loop c) Q n F w0 L := fun a w ha hw => wp_loop_rounds k (h a w ha hw)
theorem OkR.step {k : Nat} (h : OkC P c (Exit.then (Code.rounds P c Q k) Q) n F w0 L) : OkR P c Q (k + 1) n F w0 L := fun a w ha hw => by
  rw [rounds_succ]; exact h a w ha hw
theorem OkQ.again {k : Nat} (h : OkR P c Q k n F w0 L) : OkQ (Exit.then (Code.rounds P c Q k) Q) .normal n F w0 L := h
end
end
end Go.Proofs.YtgiacpkjnikjdaaGreat
