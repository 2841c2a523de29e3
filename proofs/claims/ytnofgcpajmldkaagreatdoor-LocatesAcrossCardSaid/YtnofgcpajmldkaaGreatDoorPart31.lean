import Derived.Test.YtnofgcpajmldkaaGreatDoorPart05
import Derived.Test.YtnofgcpajmldkaaGreatDoorPart06
import Derived.Test.YtnofgcpajmldkaaGreatDoorPart07
import Derived.Test.YtnofgcpajmldkaaGreatDoorPart30
namespace Go.Proofs.YtnofgcpajmldkaaGreatDoor
open Go Go.RowKit
set_option linter.unusedVariables false
set_option linter.unusedSimpArgs false
section
set_option maxRecDepth 100000
theorem fDivT_ok (a b : Rat) (hs : Sz a + Sz b ≤ 1000000) (w : World) : Calls Tryz.prog 33 #[aG (fracL a), aG (fracL b)] w (Gives w (.tuple #[aG (fracL (a / b)), vN (if b = 0 then 5 else 0)])) := by
 by_cases h : b = 0
 ·subst h
  rw [if_pos rfl, show a / 0 = 0 by rw [Rat.div_def, Rat.inv_zero, Rat.mul_zero]]
  exact fDiv0_ok a w
 ·rw [if_neg h]
  exact fDiv_ok a b (by omega) h w
theorem greater_ok (x y : Rat) (hs : Sz x + Sz y ≤ 1000000) (w : World)  : Calls Tryz.prog 48 #[(aG (fracL x)), (aG (fracL y))] w (Gives w (aG (fracL (gtQ x y)))) := by
 refine calls_of (args := [(aG (fracL x)), (aG (fracL y))]) Tryz.func48 rfl rfl (leB rfl) (OkC.subF (sL [0, 1] rfl) (q4 (bx' (cs := fracL x) rfl fun b1 => bx' (cs := fracL y) rfl fun b2 => al tZ47 rfl fun b3 => ?_)))
 refine q6 (sL [2, 3, 4] rfl) (q4 (ldW' 2 tA47 rfl (ldW' 1 tA47 rfl (ck' Tryz.call26 (fCmp_ok x y (by omega)) rfl (st' (ex_lss (c := (decide ((cmpQ x y) < (0 : Int)))) rfl rfl rfl) rfl ?_)))))
 refine OkL.nil (OkQ.subF (sL [2, 3, 4, 8] rfl) (OkQ.then_ ?_))
 refine OkC.cond rfl (fun hc0 => ?_) (fun hc0 => ?_)
 ·replace hc0 := of_decide_eq_true hc0
  have hr : gtQ x y = y := if_pos hc0
  refine q4 (ldW' 1 tA47 rfl (stW0' rfl Tryz.sizeOf47 rfl (OkL.nil (OkQ.subF (sL [2, 3, 4] rfl) (OkQ.then_ ?_)))))
  exact OkC.ret (OkQ.then_ret (ret_one rfl (rd_agg (i := 0) (cs := fracL y) rfl rfl Tryz.isAgg47 Tryz.sizeOf47 rfl) (fun w hw => ⟨by rw [hr], hw.out⟩)))
 ·replace hc0 := of_decide_eq_false hc0
  have hr : gtQ x y = x := if_neg hc0
  refine OkC.skip (q2 (ldW' 2 tA47 rfl (stW0' rfl Tryz.sizeOf47 rfl (OkL.nil (OkQ.subF (sL [2, 3, 4] rfl) ?_)))))
  exact OkQ.then_ (OkC.ret (ret_one rfl (rd_agg (i := 0) (cs := fracL x) rfl rfl Tryz.isAgg47 Tryz.sizeOf47 rfl) (fun w hw => ⟨by rw [hr], hw.out⟩)))
theorem spanU_ok (c0 c1 c2 a b : Pt) (s0 : SzP c0 ≤ 6) (s1 : SzP c1 ≤ 6) (s2 : SzP c2 ≤ 6) (sa : SzP a ≤ 6) (sb : SzP b ≤ 6) (hT : turnP c0 c1 c2 ≠ 0) (w : World)  : Calls Tryz.prog 16 #[(aG (cnL (c0, c1, c2))), (aG (ptL a)), (aG (ptL b))] w (Gives w (Value.tuple #[(aG (fracL ((spanV (c0, c1, c2) a b).1))), (aG (fracL ((spanV (c0, c1, c2) a b).2.1))), (Value.bool ((spanV (c0, c1, c2) a b).2.2))])) := by
 obtain ⟨u0, hu0⟩ : ∃ u, u = turnP a c1 c2 / turnP c0 c1 c2 := ⟨_, rfl⟩
 obtain ⟨u1, hu1⟩ : ∃ u, u = turnP c0 a c2 / turnP c0 c1 c2 := ⟨_, rfl⟩
 obtain ⟨u2, hu2⟩ : ∃ u, u = turnP c0 c1 a / turnP c0 c1 c2 := ⟨_, rfl⟩
 obtain ⟨v0, hv0⟩ : ∃ u, u = turnP b c1 c2 / turnP c0 c1 c2 := ⟨_, rfl⟩
 obtain ⟨v1, hv1⟩ : ∃ u, u = turnP c0 b c2 / turnP c0 c1 c2 := ⟨_, rfl⟩
 obtain ⟨v2, hv2⟩ : ∃ u, u = turnP c0 c1 b / turnP c0 c1 c2 := ⟨_, rfl⟩
 have zu0 : Sz u0 ≤ 106 := by rw [hu0]; exact Sz_bary hT (by assumption) (by assumption) (by assumption) (by assumption) (by assumption) (by assumption)
 have zu1 : Sz u1 ≤ 106 := by rw [hu1]; exact Sz_bary hT (by assumption) (by assumption) (by assumption) (by assumption) (by assumption) (by assumption)
 have zu2 : Sz u2 ≤ 106 := by rw [hu2]; exact Sz_bary hT (by assumption) (by assumption) (by assumption) (by assumption) (by assumption) (by assumption)
 have zv0 : Sz v0 ≤ 106 := by rw [hv0]; exact Sz_bary hT (by assumption) (by assumption) (by assumption) (by assumption) (by assumption) (by assumption)
 have zv1 : Sz v1 ≤ 106 := by rw [hv1]; exact Sz_bary hT (by assumption) (by assumption) (by assumption) (by assumption) (by assumption) (by assumption)
 have zv2 : Sz v2 ≤ 106 := by rw [hv2]; exact Sz_bary hT (by assumption) (by assumption) (by assumption) (by assumption) (by assumption) (by assumption)
 have zq0 : Sz (0 : Rat) ≤ 400 := by decide +kernel
 have zq1 : Sz (1 : Rat) ≤ 400 := by decide +kernel
 have hS : spanV (c0, c1, c2) a b = spanQ u0 v0 u1 v1 u2 v2 := by rw [hu0, hu1, hu2, hv0, hv1, hv2]; rfl
 refine calls_of (args := [(aG (cnL (c0, c1, c2))), (aG (ptL a)), (aG (ptL b))]) Tryz.func16 rfl rfl (leB rfl) (OkC.subF (sL [0, 1, 2] rfl) (q4 (bx' (cs := cnL (c0, c1, c2)) rfl fun b1 => bx' (cs := ptL a) rfl fun b2 => bx' (cs := ptL b) rfl fun b3 => ?_)))
 refine al tZ47 rfl fun b4 => al tZ47 rfl fun b5 => asg' rfl (q3 (sL [3, 4, 5, 6, 7, 8] rfl) (st' (v := (pP b1 0)) (ex_indexAddr_array (j := 0) rfl rfl Tryz.underlying82 Tryz.sizeOf49 rfl (by decide) rfl) rfl (ldA' 4 (ptL c0) tA49 rfl ?_)))
 refine st' (v := (pP b1 10)) (ex_indexAddr_array (j := 1) rfl rfl Tryz.underlying82 Tryz.sizeOf49 rfl (by decide) rfl) rfl (ldA' 4 (ptL c1) tA49 rfl (st' (v := (pP b1 20)) (ex_indexAddr_array (j := 2) rfl rfl Tryz.underlying82 Tryz.sizeOf49 rfl (by decide) rfl) rfl (ldA' 4 (ptL c2) tA49 rfl (ldW' 3 tA49 rfl (cl' (args := [(aG (ptL c0)), (aG (ptL c1)), (aG (ptL c2)), (aG (ptL a))]) (v := (Value.tuple #[(aG (fracL u0 ++ fracL u1 ++ fracL u2)), (vI 0)])) Tryz.call45 (fun w hw => (by rw [hu0, hu1, hu2]; exact Bary_ok c0 c1 c2 a (by omega) hT w)) rfl ?_)))))
 refine mv' rfl (st' (ex_extract (v := (aG (fracL u0 ++ fracL u1 ++ fracL u2))) rfl rfl) rfl (st' (ex_extract (v := (vI 0)) rfl rfl) rfl (al tZ114 rfl fun b6 => stW0' rfl Tryz.sizeOf114 rfl (asg' rfl ?_))))
 refine q3 (sL [3, 5, 6, 7, 8, 9, 10] rfl) (st' (v := (pP b1 0)) (ex_indexAddr_array (j := 0) rfl rfl Tryz.underlying82 Tryz.sizeOf49 rfl (by decide) rfl) rfl (ldA' 5 (ptL c0) tA49 rfl (st' (v := (pP b1 10)) (ex_indexAddr_array (j := 1) rfl rfl Tryz.underlying82 Tryz.sizeOf49 rfl (by decide) rfl) rfl (ldA' 5 (ptL c1) tA49 rfl (st' (v := (pP b1 20)) (ex_indexAddr_array (j := 2) rfl rfl Tryz.underlying82 Tryz.sizeOf49 rfl (by decide) rfl) rfl ?_)))))
 refine ldA' 5 (ptL c2) tA49 rfl (ldW' 3 tA49 rfl (cl' (args := [(aG (ptL c0)), (aG (ptL c1)), (aG (ptL c2)), (aG (ptL b))]) (v := (Value.tuple #[(aG (fracL v0 ++ fracL v1 ++ fracL v2)), (vI 0)])) Tryz.call45 (fun w hw => (by rw [hv0, hv1, hv2]; exact Bary_ok c0 c1 c2 b (by omega) hT w)) rfl (mv' rfl (st' (ex_extract (v := (aG (fracL v0 ++ fracL v1 ++ fracL v2))) rfl rfl) rfl (st' (ex_extract (v := (vI 0)) rfl rfl) rfl ?_)))))
 refine al tZ114 rfl fun b7 => stW0' rfl Tryz.sizeOf114 rfl (asg' rfl (q3 (sL [3, 6, 7, 8, 9, 10, 11] rfl) (cl' (args := [(vI 0)]) (v := (aG (fracL (0 : Rat)))) Tryz.call11 (fun w hw => (by have h9 := fInt_ok (0 : Int) (by omega) (by omega) w; rw [show ((0 : Int) : Rat) = (0 : Rat) by decide +kernel] at h9; exact h9)) rfl (cl' (args := [(vI 1)]) (v := (aG (fracL (1 : Rat)))) Tryz.call11 (fun w hw => (by have h9 := fInt_ok (1 : Int) (by omega) (by omega) w; rw [show ((1 : Int) : Rat) = (1 : Rat) by decide +kernel] at h9; exact h9)) rfl ?_))))
 refine stW3' rfl Tryz.sizeOf47 rfl (stW2' rfl Tryz.sizeOf47 rfl (q6 (sL [3, 6, 7, 8, 9, 10, 11] rfl) (q4 (mv' rfl (st' (ex_neq (c := false) rfl rfl (by decide)) rfl ?_)))))
 refine OkL.nil (OkQ.subF (sL [3, 6, 7, 8, 9, 11, 42] rfl) (OkQ.then_ (OkC.cond_false rfl (OkC.skip (q1 ?_)))))
 refine q4 (mv' rfl (OkL.nil (OkQ.subF (sL [3, 6, 7, 8, 9, 11, 45] rfl) (OkQ.then_ (OkC.block ?_)))))
 refine OkC.unroll 5 (OkR.step (q4 (st' (ex_lss (c := true) rfl rfl (by decide)) rfl (OkL.nil (q1 ?_)))))
 refine OkC.cond_true rfl (OkC.skip (q1 (OkC.block (q4 (mv' rfl ?_)))))
 refine asg' rfl (q6 (sL [3, 6, 7, 8, 9, 11, 45, 13] rfl) (rN [(0, true), (1, true), (2, true), (3, true), (4, true), (5, true), (6, false)] [⟨7, 14, 47, fracL (0 : Rat)⟩] [(8, false)] sr (by kernel_rfl) (fun _ _ d _ _ h => by cases d <;> exact h) (newC rfl rfl tZ47 rfl (newN)) rfl (uM' rfl (uE' (v := (pP b7 0)) rfl (ex_indexAddr_array (j := 0) rfl rfl Tryz.underlying114 Tryz.sizeOf47 rfl (by decide) rfl) rfl (uA' 0 (fracL v0) tA47 rfl ?_)))))
 refine uM' rfl (uE' (v := (pP b6 0)) rfl (ex_indexAddr_array (j := 0) rfl rfl Tryz.underlying114 Tryz.sizeOf47 rfl (by decide) rfl) rfl (uA' 1 (fracL u0) tA47 rfl (OkN.imp rfl fun EF EL => ?_)))
 have hz1 := Sz_sub v0 u0
 refine ck' Tryz.call36 (fSub_ok v0 u0 (by (try simp only [Sz_neg]); omega)) rfl (OkN.back0 sr rfl (OkN.news1 fun b8 => OkE.imp rfl (stW0' rfl Tryz.sizeOf47 rfl (OkE.back (sl sr) ?_))))
 refine OkE.nil (OkQ.subF (sL [3, 6, 7, 8, 9, 11, 45, 13, 14] rfl) (q1 (rN [(0, true), (1, true), (2, true), (4, true), (3, false), (5, false), (6, true), (7, true), (8, true)] [⟨9, 15, 47, fracL (0 : Rat)⟩] [(10, false), (11, true)] sr (by kernel_rfl) (fun _ _ d _ _ h => by cases d <;> exact h) (newC rfl rfl tZ47 rfl (newN)) rfl (uM' rfl (uE' (v := (pP b6 0)) rfl (ex_indexAddr_array (j := 0) rfl rfl Tryz.underlying114 Tryz.sizeOf47 rfl (by decide) rfl) rfl ?_)))))
 refine uA' 2 (fracL u0) tA47 rfl (uW' 0 tA47 rfl (OkN.imp rfl fun EF EL => ck' Tryz.call46 (fNeg_ok u0) rfl (OkN.back0 sr rfl (OkN.imp rfl fun EF EL => ?_))))
 have hz2 := Sz_div0 (-u0) (v0 - u0)
 refine ck' Tryz.call33 (fDivT_ok (-u0) (v0 - u0) (by (try simp only [Sz_neg] at *); omega)) rfl (OkN.back0 sr rfl (uM' rfl (uE' rfl (ex_extract (v := (aG (fracL ((-u0) / (v0 - u0))))) rfl rfl) rfl (uE' rfl (ex_extract (v := (vN (if v0 - u0 = 0 then 5 else 0))) rfl rfl) rfl (OkN.news1 fun b9 => ?_)))))
 refine OkE.imp rfl (stW0' rfl Tryz.sizeOf47 rfl (OkE.back (sl sr) (pS' rfl (OkE.nil (OkQ.subF (sL [3, 6, 7, 8, 9, 11, 45, 13, 14, 15] rfl) ?_)))))
 refine q2 (ldW' 1 tA47 rfl (ck' Tryz.call47 (fSign_ok (v0 - u0)) rfl (OkL.nil (OkQ.subF (sL [3, 6, 7, 8, 9, 11, 45, 13, 14, 15, 65] rfl) (OkQ.then_ ?_)))))
 refine OkC.jn2 (tg fun (f0 : Rat) (t0 : Rat) => (f0, t0) = stS u0 v0 ((0 : Rat), (1 : Rat)) ∧ badS u0 v0 = false ∧ Sz f0 ≤ 400 ∧ Sz t0 ≤ 400) (tg fun (f0 : Rat) (t0 : Rat) => [(6, (pP b4 0)), (7, (pP b5 0)), (9, (pP b6 0)), (11, (pP b7 0)), (45, (vI 0))]) (tg fun (f0 : Rat) (t0 : Rat) => [blk b9 47 (fracL ((-u0) / (v0 - u0))), blk b8 47 (fracL (v0 - u0)), blk b7 114 (fracL v0 ++ fracL v1 ++ fracL v2), blk b6 114 (fracL u0 ++ fracL u1 ++ fracL u2), blk b5 47 (fracL t0), blk b4 47 (fracL f0), blk b3 49 (ptL b), blk b2 49 (ptL a), blk b1 82 (cnL (c0, c1, c2))]) ?_ ?_
 ·skip
  refine OkC.block (q4 (st' (ex_eql (c := (decide (((v0 - u0).num.sign) = (1 : Int)))) rfl rfl rfl) rfl (asg' rfl (OkL.nil (OkQ.subF (sL [3, 6, 7, 8, 9, 11, 45, 13, 14, 15, 65, 73] rfl) ?_)))))
  refine OkQ.then_ ?_
  refine OkC.cond rfl (fun hc2 => ?_) (fun hc2 => ?_)
  ·replace hc2 := of_decide_eq_true hc2
   refine OkC.region (ldW' 5 tA47 rfl (ldW' 0 tA47 rfl (ck' Tryz.call48 (greater_ok (0 : Rat) ((-u0) / (v0 - u0)) (by (try simp only [Sz_neg] at *); omega)) rfl (stX 5 (off := 0) (vs := fracL (gtQ (0 : Rat) ((-u0) / (v0 - u0)))) (cs' := fracL (gtQ (0 : Rat) ((-u0) / (v0 - u0)))) (wt_none rfl) rfl Tryz.sizeOf47 rfl (OkL.nil ?_)))))
   exact OkQ.subF (sL [3, 6, 7, 8, 9, 11, 45, 13, 14, 15, 65] rfl) (OkQ.in_normal (OkQ.join2 (gtQ (0 : Rat) ((-u0) / (v0 - u0))) (1 : Rat) ((fun e => ⟨e, bad_pos hc2, (by have z := stS_sz (u := u0) (v := v0) (s := ((0 : Rat), (1 : Rat))) (k := 400) (by omega) (by assumption) (by assumption); rw [← e] at z; exact z)⟩) (st_pos hc2)) (sF rfl) sr))
  ·replace hc2 := of_decide_eq_false hc2
   refine q4 (st' (ex_eql (c := (decide (((v0 - u0).num.sign) = (-1 : Int)))) rfl rfl rfl) rfl (asg' rfl (OkL.nil (OkQ.subF (sL [3, 6, 7, 8, 9, 11, 45, 13, 14, 15, 65, 78] rfl) (OkQ.then_ ?_)))))
   refine OkC.cond rfl (fun hc3 => ?_) (fun hc3 => ?_)
   ·replace hc3 := of_decide_eq_true hc3
    refine rG' [(2, true), (0, false), (1, false), (3, false), (4, false), (5, false), (6, false)] (sk (sk (sk (sk (sl sr))))) (pW' 0 tA47 rfl (OkE.imp rfl (ldW' 4 tA47 rfl (OkE.back (sk (sk (sk (sk (sl sr))))) (OkE.imp rfl ?_)))))
    refine ck' Tryz.call46 (fNeg_ok (1 : Rat)) rfl (OkE.back (sk (sk (sk (sk (sl sr))))) (OkE.imp rfl (ck' Tryz.call46 (fNeg_ok ((-u0) / (v0 - u0))) rfl (OkE.back (sk (sk (sk (sk (sl sr))))) (OkE.imp rfl ?_)))))
    refine ck' Tryz.call48 (greater_ok (-(1 : Rat)) (-((-u0) / (v0 - u0))) (by (try simp only [Sz_neg] at *); omega)) rfl (OkE.back (sk (sk (sk (sk (sl sr))))) (OkE.imp rfl (ck' Tryz.call46 (fNeg_ok (gtQ (-(1 : Rat)) (-((-u0) / (v0 - u0))))) rfl (OkE.back (sk (sk (sk (sk (sl sr))))) (OkE.imp rfl ?_)))))
    exact stX 4 (off := 0) (vs := fracL (-(gtQ (-(1 : Rat)) (-((-u0) / (v0 - u0)))))) (cs' := fracL (-(gtQ (-(1 : Rat)) (-((-u0) / (v0 - u0)))))) (wt_none rfl) rfl Tryz.sizeOf47 rfl (OkE.back (sk (sk (sk (sk (sl sr))))) (OkE.nil (OkQ.subF (sL [3, 6, 7, 8, 9, 11, 45, 13, 14, 15, 65] rfl) (OkQ.in_normal (OkQ.join2 (0 : Rat) (-(gtQ (-(1 : Rat)) (-((-u0) / (v0 - u0))))) ((fun e => ⟨e, bad_neg hc3, (by have z := stS_sz (u := u0) (v := v0) (s := ((0 : Rat), (1 : Rat))) (k := 400) (by omega) (by assumption) (by assumption); rw [← e] at z; exact z)⟩) (st_neg hc3)) (sF rfl) sr)))))
   ·replace hc3 := of_decide_eq_false hc3
    refine q4 (mv' rfl (st' (v := (pP b6 0)) (ex_indexAddr_array (j := 0) rfl rfl Tryz.underlying114 Tryz.sizeOf47 rfl (by decide) rfl) rfl (ldA' 3 (fracL u0) tA47 rfl (ck' Tryz.call47 (fSign_ok u0) rfl (st' (ex_lss (c := (decide (u0.num.sign < (0 : Int)))) rfl rfl rfl) rfl ?_)))))
    refine OkL.nil (OkQ.subF (sL [3, 6, 7, 8, 9, 11, 45, 13, 14, 15, 65, 70] rfl) (OkQ.then_ ?_))
    refine OkC.cond rfl (fun hc4 => ?_) (fun hc4 => ?_)
    ·replace hc4 := of_decide_eq_true hc4
     refine OkC.seq (rG' [(0, true), (1, true), (2, false), (3, false), (4, true)] sr (pW' 5 tA47 rfl (pW' 4 tA47 rfl (OkE.imp rfl (stX 5 (off := 0) (vs := fracL (0 : Rat)) (cs' := fracL (0 : Rat)) (wt_none rfl) rfl Tryz.sizeOf47 rfl ?_)))))
     refine OkE.back sr (OkE.imp rfl (stX 4 (off := 0) (vs := fracL (1 : Rat)) (cs' := fracL (1 : Rat)) (wt_none rfl) rfl Tryz.sizeOf47 rfl (OkE.back sr (pS' rfl (OkE.nil ?_)))))
     refine OkQ.subF (sL [3, 6, 7, 8, 9, 11, 45, 13, 14, 15, 65] rfl) (OkQ.then_ (OkC.ret (OkQ.in_ret (OkQ.join2_ret (OkQ.in_ret ?_)))))
     exact OkQ.then_ret (OkQ.then_ret (OkQ.in_ret (OkQ.then_ret (ret_three rfl (rd_agg (i := 5) (cs := fracL (0 : Rat)) rfl rfl Tryz.isAgg47 Tryz.sizeOf47 rfl) (rd_agg (i := 4) (cs := fracL (1 : Rat)) rfl rfl Tryz.isAgg47 Tryz.sizeOf47 rfl) (rd_tmp (v := (Value.bool false)) rfl) (fun w hw => ⟨by rw [hS, span_b0 (bad_yes hc2 hc3 hc4)] <;> rfl, hw.out⟩)))))
    ·replace hc4 := of_decide_eq_false hc4
     exact OkC.skip (OkQ.in_normal (OkQ.join2 (0 : Rat) (1 : Rat) ((fun e => ⟨e, bad_ok hc4, (by have z := stS_sz (u := u0) (v := v0) (s := ((0 : Rat), (1 : Rat))) (k := 400) (by omega) (by assumption) (by assumption); rw [← e] at z; exact z)⟩) (st_zero hc2 hc3)) (sF rfl) sr))
 ·intro f0 t0 hJ
  obtain ⟨e0, h0, zf0, zt0⟩ := hJ
  refine OkQ.in_normal (OkQ.then_ (OkC.region (st' (ex_add (c := (1 : Int)) rfl rfl (by decide)) rfl (mv' rfl (OkL.nil ?_)))))
  refine OkQ.subF (sL [6, 7, 9, 11, 45] rfl) (OkQ.again (OkR.step (q4 (st' (ex_lss (c := true) rfl rfl (by decide)) rfl (OkL.nil ?_)))))
  refine q1 (OkC.cond_true rfl (OkC.skip (q1 (OkC.block (q4 ?_)))))
  refine mv' rfl (asg' rfl (q6 (sL [6, 7, 9, 11, 45, 13] rfl) (rN [(0, true), (1, true), (2, true), (3, true), (4, true), (5, true), (6, false)] [⟨7, 14, 47, fracL (0 : Rat)⟩] [(8, false)] sr (by kernel_rfl) (fun _ _ d _ _ h => by cases d <;> exact h) (newC rfl rfl tZ47 rfl (newN)) rfl (uM' rfl (uE' (v := (pP b7 5)) rfl (ex_indexAddr_array (j := 1) rfl rfl Tryz.underlying114 Tryz.sizeOf47 rfl (by decide) rfl) rfl ?_)))))
  refine uA' 2 (fracL v1) tA47 rfl (uM' rfl (uE' (v := (pP b6 5)) rfl (ex_indexAddr_array (j := 1) rfl rfl Tryz.underlying114 Tryz.sizeOf47 rfl (by decide) rfl) rfl (uA' 3 (fracL u1) tA47 rfl (OkN.imp rfl fun EF EL => ?_))))
  have hz3 := Sz_sub v1 u1
  refine ck' Tryz.call36 (fSub_ok v1 u1 (by (try simp only [Sz_neg]); omega)) rfl (OkN.back0 sr rfl (OkN.news1 fun b10 => OkE.imp rfl (stW0' rfl Tryz.sizeOf47 rfl (OkE.back (sl sr) ?_))))
  refine OkE.nil (OkQ.subF (sL [6, 7, 9, 11, 45, 13, 14] rfl) (q1 (rN [(0, true), (1, true), (2, true), (4, true), (3, false), (5, false), (6, true), (7, true), (8, true)] [⟨9, 15, 47, fracL (0 : Rat)⟩] [(10, false), (11, true)] sr (by kernel_rfl) (fun _ _ d _ _ h => by cases d <;> exact h) (newC rfl rfl tZ47 rfl (newN)) rfl (uM' rfl (uE' (v := (pP b6 5)) rfl (ex_indexAddr_array (j := 1) rfl rfl Tryz.underlying114 Tryz.sizeOf47 rfl (by decide) rfl) rfl ?_)))))
  refine uA' 4 (fracL u1) tA47 rfl (uW' 0 tA47 rfl (OkN.imp rfl fun EF EL => ck' Tryz.call46 (fNeg_ok u1) rfl (OkN.back0 sr rfl (OkN.imp rfl fun EF EL => ?_))))
  have hz4 := Sz_div0 (-u1) (v1 - u1)
  refine ck' Tryz.call33 (fDivT_ok (-u1) (v1 - u1) (by (try simp only [Sz_neg] at *); omega)) rfl (OkN.back0 sr rfl (uM' rfl (uE' rfl (ex_extract (v := (aG (fracL ((-u1) / (v1 - u1))))) rfl rfl) rfl (uE' rfl (ex_extract (v := (vN (if v1 - u1 = 0 then 5 else 0))) rfl rfl) rfl (OkN.news1 fun b11 => ?_)))))
  refine OkE.imp rfl (stW0' rfl Tryz.sizeOf47 rfl (OkE.back (sl sr) (pS' rfl (OkE.nil (OkQ.subF (sL [6, 7, 9, 11, 45, 13, 14, 15] rfl) ?_)))))
  refine q2 (ldW' 1 tA47 rfl (ck' Tryz.call47 (fSign_ok (v1 - u1)) rfl (OkL.nil (OkQ.subF (sL [6, 7, 9, 11, 45, 13, 14, 15, 65] rfl) (OkQ.then_ ?_)))))
  refine OkC.jn2 (tg fun (f1 : Rat) (t1 : Rat) => (f1, t1) = stS u1 v1 (f0, t0) ∧ badS u1 v1 = false ∧ Sz f1 ≤ 400 ∧ Sz t1 ≤ 400) (tg fun (f1 : Rat) (t1 : Rat) => [(6, (pP b4 0)), (7, (pP b5 0)), (9, (pP b6 0)), (11, (pP b7 0)), (45, (vI 1))]) (tg fun (f1 : Rat) (t1 : Rat) => [blk b11 47 (fracL ((-u1) / (v1 - u1))), blk b10 47 (fracL (v1 - u1)), blk b9 47 (fracL ((-u0) / (v0 - u0))), blk b8 47 (fracL (v0 - u0)), blk b7 114 (fracL v0 ++ fracL v1 ++ fracL v2), blk b6 114 (fracL u0 ++ fracL u1 ++ fracL u2), blk b5 47 (fracL t1), blk b4 47 (fracL f1), blk b3 49 (ptL b), blk b2 49 (ptL a), blk b1 82 (cnL (c0, c1, c2))]) ?_ ?_
  ·skip
   refine OkC.block (q4 (st' (ex_eql (c := (decide (((v1 - u1).num.sign) = (1 : Int)))) rfl rfl rfl) rfl (asg' rfl (OkL.nil (OkQ.subF (sL [6, 7, 9, 11, 45, 13, 14, 15, 65, 73] rfl) ?_)))))
   refine OkQ.then_ ?_
   refine OkC.cond rfl (fun hc2 => ?_) (fun hc2 => ?_)
   ·replace hc2 := of_decide_eq_true hc2
    refine OkC.region (ldW' 7 tA47 rfl (ldW' 0 tA47 rfl (ck' Tryz.call48 (greater_ok f0 ((-u1) / (v1 - u1)) (by (try simp only [Sz_neg] at *); omega)) rfl (stX 7 (off := 0) (vs := fracL (gtQ f0 ((-u1) / (v1 - u1)))) (cs' := fracL (gtQ f0 ((-u1) / (v1 - u1)))) (wt_none rfl) rfl Tryz.sizeOf47 rfl (OkL.nil ?_)))))
    exact OkQ.subF (sL [6, 7, 9, 11, 45, 13, 14, 15, 65] rfl) (OkQ.in_normal (OkQ.join2 (gtQ f0 ((-u1) / (v1 - u1))) t0 ((fun e => ⟨e, bad_pos hc2, (by have z := stS_sz (u := u1) (v := v1) (s := (f0, t0)) (k := 400) (by omega) (by assumption) (by assumption); rw [← e] at z; exact z)⟩) (st_pos hc2)) (sF rfl) sr))
   ·replace hc2 := of_decide_eq_false hc2
    refine q4 (st' (ex_eql (c := (decide (((v1 - u1).num.sign) = (-1 : Int)))) rfl rfl rfl) rfl (asg' rfl (OkL.nil (OkQ.subF (sL [6, 7, 9, 11, 45, 13, 14, 15, 65, 78] rfl) (OkQ.then_ ?_)))))
    refine OkC.cond rfl (fun hc3 => ?_) (fun hc3 => ?_)
    ·replace hc3 := of_decide_eq_true hc3
     refine rG' [(2, true), (0, false), (1, false), (3, false), (4, false), (5, false), (6, false)] (sk (sk (sk (sk (sk (sk (sl sr))))))) (pW' 0 tA47 rfl (OkE.imp rfl (ldW' 6 tA47 rfl (OkE.back (sk (sk (sk (sk (sk (sk (sl sr))))))) (OkE.imp rfl ?_)))))
     refine ck' Tryz.call46 (fNeg_ok t0) rfl (OkE.back (sk (sk (sk (sk (sk (sk (sl sr))))))) (OkE.imp rfl (ck' Tryz.call46 (fNeg_ok ((-u1) / (v1 - u1))) rfl (OkE.back (sk (sk (sk (sk (sk (sk (sl sr))))))) (OkE.imp rfl ?_)))))
     refine ck' Tryz.call48 (greater_ok (-t0) (-((-u1) / (v1 - u1))) (by (try simp only [Sz_neg] at *); omega)) rfl (OkE.back (sk (sk (sk (sk (sk (sk (sl sr))))))) (OkE.imp rfl (ck' Tryz.call46 (fNeg_ok (gtQ (-t0) (-((-u1) / (v1 - u1))))) rfl (OkE.back (sk (sk (sk (sk (sk (sk (sl sr))))))) (OkE.imp rfl ?_)))))
     exact stX 6 (off := 0) (vs := fracL (-(gtQ (-t0) (-((-u1) / (v1 - u1)))))) (cs' := fracL (-(gtQ (-t0) (-((-u1) / (v1 - u1)))))) (wt_none rfl) rfl Tryz.sizeOf47 rfl (OkE.back (sk (sk (sk (sk (sk (sk (sl sr))))))) (OkE.nil (OkQ.subF (sL [6, 7, 9, 11, 45, 13, 14, 15, 65] rfl) (OkQ.in_normal (OkQ.join2 f0 (-(gtQ (-t0) (-((-u1) / (v1 - u1))))) ((fun e => ⟨e, bad_neg hc3, (by have z := stS_sz (u := u1) (v := v1) (s := (f0, t0)) (k := 400) (by omega) (by assumption) (by assumption); rw [← e] at z; exact z)⟩) (st_neg hc3)) (sF rfl) sr)))))
    ·replace hc3 := of_decide_eq_false hc3
     refine q4 (mv' rfl (st' (v := (pP b6 5)) (ex_indexAddr_array (j := 1) rfl rfl Tryz.underlying114 Tryz.sizeOf47 rfl (by decide) rfl) rfl (ldA' 5 (fracL u1) tA47 rfl (ck' Tryz.call47 (fSign_ok u1) rfl (st' (ex_lss (c := (decide (u1.num.sign < (0 : Int)))) rfl rfl rfl) rfl ?_)))))
     refine OkL.nil (OkQ.subF (sL [6, 7, 9, 11, 45, 13, 14, 15, 65, 70] rfl) (OkQ.then_ ?_))
     refine OkC.cond rfl (fun hc4 => ?_) (fun hc4 => ?_)
     ·replace hc4 := of_decide_eq_true hc4
      refine OkC.seq (rG' [(0, true), (1, true), (2, false), (3, false), (4, true)] sr (pW' 7 tA47 rfl (pW' 6 tA47 rfl (OkE.imp rfl (stX 7 (off := 0) (vs := fracL f0) (cs' := fracL f0) (wt_none rfl) rfl Tryz.sizeOf47 rfl ?_)))))
      refine OkE.back sr (OkE.imp rfl (stX 6 (off := 0) (vs := fracL t0) (cs' := fracL t0) (wt_none rfl) rfl Tryz.sizeOf47 rfl (OkE.back sr (pS' rfl (OkE.nil ?_)))))
      refine OkQ.subF (sL [6, 7, 9, 11, 45, 13, 14, 15, 65, 8] rfl) (OkQ.then_ (OkC.ret (OkQ.in_ret (OkQ.join2_ret (OkQ.in_ret ?_)))))
      exact OkQ.then_ret (OkQ.then_ret (OkQ.in_ret (OkQ.then_ret (ret_three rfl (rd_agg (i := 7) (cs := fracL f0) rfl rfl Tryz.isAgg47 Tryz.sizeOf47 rfl) (rd_agg (i := 6) (cs := fracL t0) rfl rfl Tryz.isAgg47 Tryz.sizeOf47 rfl) (rd_tmp (v := (Value.bool false)) rfl) (fun w hw => ⟨by rw [hS, span_b1 h0 e0 (bad_yes hc2 hc3 hc4)] <;> rfl, hw.out⟩)))))
     ·replace hc4 := of_decide_eq_false hc4
      exact OkC.skip (OkQ.in_normal (OkQ.join2 f0 t0 ((fun e => ⟨e, bad_ok hc4, (by have z := stS_sz (u := u1) (v := v1) (s := (f0, t0)) (k := 400) (by omega) (by assumption) (by assumption); rw [← e] at z; exact z)⟩) (st_zero hc2 hc3)) (sF rfl) sr))
  ·intro f1 t1 hJ
   obtain ⟨e1, h1, zf1, zt1⟩ := hJ
   refine OkQ.in_normal (OkQ.then_ (OkC.region (st' (ex_add (c := (2 : Int)) rfl rfl (by decide)) rfl (mv' rfl (OkL.nil ?_)))))
   refine OkQ.subF (sL [6, 7, 9, 11, 45] rfl) (OkQ.again (OkR.step (q4 (st' (ex_lss (c := true) rfl rfl (by decide)) rfl (OkL.nil ?_)))))
   refine q1 (OkC.cond_true rfl (OkC.skip (q1 (OkC.block (q4 ?_)))))
   refine mv' rfl (asg' rfl (q6 (sL [6, 7, 9, 11, 45, 13] rfl) (rN [(0, true), (1, true), (2, true), (3, true), (4, true), (5, true), (6, false)] [⟨7, 14, 47, fracL (0 : Rat)⟩] [(8, false)] sr (by kernel_rfl) (fun _ _ d _ _ h => by cases d <;> exact h) (newC rfl rfl tZ47 rfl (newN)) rfl (uM' rfl (uE' (v := (pP b7 10)) rfl (ex_indexAddr_array (j := 2) rfl rfl Tryz.underlying114 Tryz.sizeOf47 rfl (by decide) rfl) rfl ?_)))))
   refine uA' 4 (fracL v2) tA47 rfl (uM' rfl (uE' (v := (pP b6 10)) rfl (ex_indexAddr_array (j := 2) rfl rfl Tryz.underlying114 Tryz.sizeOf47 rfl (by decide) rfl) rfl (uA' 5 (fracL u2) tA47 rfl (OkN.imp rfl fun EF EL => ?_))))
   have hz5 := Sz_sub v2 u2
   refine ck' Tryz.call36 (fSub_ok v2 u2 (by (try simp only [Sz_neg]); omega)) rfl (OkN.back0 sr rfl (OkN.news1 fun b12 => OkE.imp rfl (stW0' rfl Tryz.sizeOf47 rfl (OkE.back (sl sr) ?_))))
   refine OkE.nil (OkQ.subF (sL [6, 7, 9, 11, 45, 13, 14] rfl) (q1 (rN [(0, true), (1, true), (2, true), (4, true), (3, false), (5, false), (6, true), (7, true), (8, true)] [⟨9, 15, 47, fracL (0 : Rat)⟩] [(10, false), (11, true)] sr (by kernel_rfl) (fun _ _ d _ _ h => by cases d <;> exact h) (newC rfl rfl tZ47 rfl (newN)) rfl (uM' rfl (uE' (v := (pP b6 10)) rfl (ex_indexAddr_array (j := 2) rfl rfl Tryz.underlying114 Tryz.sizeOf47 rfl (by decide) rfl) rfl ?_)))))
   refine uA' 6 (fracL u2) tA47 rfl (uW' 0 tA47 rfl (OkN.imp rfl fun EF EL => ck' Tryz.call46 (fNeg_ok u2) rfl (OkN.back0 sr rfl (OkN.imp rfl fun EF EL => ?_))))
   have hz6 := Sz_div0 (-u2) (v2 - u2)
   refine ck' Tryz.call33 (fDivT_ok (-u2) (v2 - u2) (by (try simp only [Sz_neg] at *); omega)) rfl (OkN.back0 sr rfl (uM' rfl (uE' rfl (ex_extract (v := (aG (fracL ((-u2) / (v2 - u2))))) rfl rfl) rfl (uE' rfl (ex_extract (v := (vN (if v2 - u2 = 0 then 5 else 0))) rfl rfl) rfl (OkN.news1 fun b13 => ?_)))))
   refine OkE.imp rfl (stW0' rfl Tryz.sizeOf47 rfl (OkE.back (sl sr) (pS' rfl (OkE.nil (OkQ.subF (sL [6, 7, 9, 11, 45, 13, 14, 15] rfl) ?_)))))
   refine q2 (ldW' 1 tA47 rfl (ck' Tryz.call47 (fSign_ok (v2 - u2)) rfl (OkL.nil (OkQ.subF (sL [6, 7, 9, 11, 45, 13, 14, 15, 65] rfl) (OkQ.then_ ?_)))))
   refine OkC.jn2 (tg fun (f2 : Rat) (t2 : Rat) => (f2, t2) = stS u2 v2 (f1, t1) ∧ badS u2 v2 = false ∧ Sz f2 ≤ 400 ∧ Sz t2 ≤ 400) (tg fun (f2 : Rat) (t2 : Rat) => [(6, (pP b4 0)), (7, (pP b5 0)), (9, (pP b6 0)), (11, (pP b7 0)), (45, (vI 2))]) (tg fun (f2 : Rat) (t2 : Rat) => [blk b13 47 (fracL ((-u2) / (v2 - u2))), blk b12 47 (fracL (v2 - u2)), blk b11 47 (fracL ((-u1) / (v1 - u1))), blk b10 47 (fracL (v1 - u1)), blk b9 47 (fracL ((-u0) / (v0 - u0))), blk b8 47 (fracL (v0 - u0)), blk b7 114 (fracL v0 ++ fracL v1 ++ fracL v2), blk b6 114 (fracL u0 ++ fracL u1 ++ fracL u2), blk b5 47 (fracL t2), blk b4 47 (fracL f2), blk b3 49 (ptL b), blk b2 49 (ptL a), blk b1 82 (cnL (c0, c1, c2))]) ?_ ?_
   ·skip
    refine OkC.block (q4 (st' (ex_eql (c := (decide (((v2 - u2).num.sign) = (1 : Int)))) rfl rfl rfl) rfl (asg' rfl (OkL.nil (OkQ.subF (sL [6, 7, 9, 11, 45, 13, 14, 15, 65, 73] rfl) ?_)))))
    refine OkQ.then_ ?_
    refine OkC.cond rfl (fun hc2 => ?_) (fun hc2 => ?_)
    ·replace hc2 := of_decide_eq_true hc2
     refine OkC.region (ldW' 9 tA47 rfl (ldW' 0 tA47 rfl (ck' Tryz.call48 (greater_ok f1 ((-u2) / (v2 - u2)) (by (try simp only [Sz_neg] at *); omega)) rfl (stX 9 (off := 0) (vs := fracL (gtQ f1 ((-u2) / (v2 - u2)))) (cs' := fracL (gtQ f1 ((-u2) / (v2 - u2)))) (wt_none rfl) rfl Tryz.sizeOf47 rfl (OkL.nil ?_)))))
     exact OkQ.subF (sL [6, 7, 9, 11, 45, 13, 14, 15, 65] rfl) (OkQ.in_normal (OkQ.join2 (gtQ f1 ((-u2) / (v2 - u2))) t1 ((fun e => ⟨e, bad_pos hc2, (by have z := stS_sz (u := u2) (v := v2) (s := (f1, t1)) (k := 400) (by omega) (by assumption) (by assumption); rw [← e] at z; exact z)⟩) (st_pos hc2)) (sF rfl) sr))
    ·replace hc2 := of_decide_eq_false hc2
     refine q4 (st' (ex_eql (c := (decide (((v2 - u2).num.sign) = (-1 : Int)))) rfl rfl rfl) rfl (asg' rfl (OkL.nil (OkQ.subF (sL [6, 7, 9, 11, 45, 13, 14, 15, 65, 78] rfl) (OkQ.then_ ?_)))))
     refine OkC.cond rfl (fun hc3 => ?_) (fun hc3 => ?_)
     ·replace hc3 := of_decide_eq_true hc3
      refine rG' [(2, true), (0, false), (1, false), (3, false), (4, false), (5, false), (6, false)] (sk (sk (sk (sk (sk (sk (sk (sk (sl sr))))))))) (pW' 0 tA47 rfl (OkE.imp rfl (ldW' 8 tA47 rfl (OkE.back (sk (sk (sk (sk (sk (sk (sk (sk (sl sr))))))))) (OkE.imp rfl ?_)))))
      refine ck' Tryz.call46 (fNeg_ok t1) rfl (OkE.back (sk (sk (sk (sk (sk (sk (sk (sk (sl sr))))))))) (OkE.imp rfl (ck' Tryz.call46 (fNeg_ok ((-u2) / (v2 - u2))) rfl (OkE.back (sk (sk (sk (sk (sk (sk (sk (sk (sl sr))))))))) (OkE.imp rfl ?_)))))
      refine ck' Tryz.call48 (greater_ok (-t1) (-((-u2) / (v2 - u2))) (by (try simp only [Sz_neg] at *); omega)) rfl (OkE.back (sk (sk (sk (sk (sk (sk (sk (sk (sl sr))))))))) (OkE.imp rfl (ck' Tryz.call46 (fNeg_ok (gtQ (-t1) (-((-u2) / (v2 - u2))))) rfl (OkE.back (sk (sk (sk (sk (sk (sk (sk (sk (sl sr))))))))) (OkE.imp rfl ?_)))))
      exact stX 8 (off := 0) (vs := fracL (-(gtQ (-t1) (-((-u2) / (v2 - u2)))))) (cs' := fracL (-(gtQ (-t1) (-((-u2) / (v2 - u2)))))) (wt_none rfl) rfl Tryz.sizeOf47 rfl (OkE.back (sk (sk (sk (sk (sk (sk (sk (sk (sl sr))))))))) (OkE.nil (OkQ.subF (sL [6, 7, 9, 11, 45, 13, 14, 15, 65] rfl) (OkQ.in_normal (OkQ.join2 f1 (-(gtQ (-t1) (-((-u2) / (v2 - u2))))) ((fun e => ⟨e, bad_neg hc3, (by have z := stS_sz (u := u2) (v := v2) (s := (f1, t1)) (k := 400) (by omega) (by assumption) (by assumption); rw [← e] at z; exact z)⟩) (st_neg hc3)) (sF rfl) sr)))))
     ·replace hc3 := of_decide_eq_false hc3
      refine q4 (mv' rfl (st' (v := (pP b6 10)) (ex_indexAddr_array (j := 2) rfl rfl Tryz.underlying114 Tryz.sizeOf47 rfl (by decide) rfl) rfl (ldA' 7 (fracL u2) tA47 rfl (ck' Tryz.call47 (fSign_ok u2) rfl (st' (ex_lss (c := (decide (u2.num.sign < (0 : Int)))) rfl rfl rfl) rfl ?_)))))
      refine OkL.nil (OkQ.subF (sL [6, 7, 9, 11, 45, 13, 14, 15, 65, 70] rfl) (OkQ.then_ ?_))
      refine OkC.cond rfl (fun hc4 => ?_) (fun hc4 => ?_)
      ·replace hc4 := of_decide_eq_true hc4
       refine OkC.seq (rG' [(0, true), (1, true), (2, false), (3, false), (4, true)] sr (pW' 9 tA47 rfl (pW' 8 tA47 rfl (OkE.imp rfl (stX 9 (off := 0) (vs := fracL f1) (cs' := fracL f1) (wt_none rfl) rfl Tryz.sizeOf47 rfl ?_)))))
       refine OkE.back sr (OkE.imp rfl (stX 8 (off := 0) (vs := fracL t1) (cs' := fracL t1) (wt_none rfl) rfl Tryz.sizeOf47 rfl (OkE.back sr (pS' rfl (OkE.nil ?_)))))
       refine OkQ.subF (sL [6, 7, 9, 11, 45, 13, 14, 15, 65, 8] rfl) (OkQ.then_ (OkC.ret (OkQ.in_ret (OkQ.join2_ret (OkQ.in_ret ?_)))))
       exact OkQ.then_ret (OkQ.then_ret (OkQ.in_ret (OkQ.then_ret (ret_three rfl (rd_agg (i := 9) (cs := fracL f1) rfl rfl Tryz.isAgg47 Tryz.sizeOf47 rfl) (rd_agg (i := 8) (cs := fracL t1) rfl rfl Tryz.isAgg47 Tryz.sizeOf47 rfl) (rd_tmp (v := (Value.bool false)) rfl) (fun w hw => ⟨by rw [hS, span_b2 h0 e0 h1 e1 (bad_yes hc2 hc3 hc4)] <;> rfl, hw.out⟩)))))
      ·replace hc4 := of_decide_eq_false hc4
       exact OkC.skip (OkQ.in_normal (OkQ.join2 f1 t1 ((fun e => ⟨e, bad_ok hc4, (by have z := stS_sz (u := u2) (v := v2) (s := (f1, t1)) (k := 400) (by omega) (by assumption) (by assumption); rw [← e] at z; exact z)⟩) (st_zero hc2 hc3)) (sF rfl) sr))
   ·intro f2 t2 hJ
    obtain ⟨e2, h2, zf2, zt2⟩ := hJ
    refine OkQ.in_normal (OkQ.then_ (OkC.region (st' (ex_add (c := (3 : Int)) rfl rfl (by decide)) rfl (mv' rfl (OkL.nil ?_)))))
    refine OkQ.subF (sL [6, 7, 9, 11, 45] rfl) (OkQ.again (OkR.step (q4 (st' (ex_lss (c := false) rfl rfl (by decide)) rfl (OkL.nil ?_)))))
    refine q1 (OkC.cond_false rfl (OkC.exit (OkQ.then_exit (OkQ.then_exit (OkQ.in_exit ?_)))))
    refine q1 (rG' [(0, true), (1, true), (2, true), (3, true), (4, false), (5, true), (6, false), (7, false), (8, true)] sr (pW' 9 tA47 rfl (pW' 8 tA47 rfl (pW' 9 tA47 rfl (pW' 8 tA47 rfl ?_)))))
    refine OkE.imp rfl (ck' Tryz.call26 (fCmp_ok f2 t2 (by omega)) rfl (OkE.back sr (pE' rfl (ex_lss (c := (decide ((cmpQ f2 t2) < (0 : Int)))) rfl rfl rfl) (OkE.imp rfl (stX 9 (off := 0) (vs := fracL f2) (cs' := fracL f2) (wt_none rfl) rfl Tryz.sizeOf47 rfl ?_)))))
    refine OkE.back sr (OkE.imp rfl (stX 8 (off := 0) (vs := fracL t2) (cs' := fracL t2) (wt_none rfl) rfl Tryz.sizeOf47 rfl (OkE.back sr (pS' rfl (OkE.nil ?_)))))
    exact OkQ.subF (sL [6, 7, 9, 11, 45, 8] rfl) (OkQ.then_ (OkC.ret (ret_three rfl (rd_agg (i := 9) (cs := fracL f2) rfl rfl Tryz.isAgg47 Tryz.sizeOf47 rfl) (rd_agg (i := 8) (cs := fracL t2) rfl rfl Tryz.isAgg47 Tryz.sizeOf47 rfl) (rd_tmp (v := (Value.bool (decide ((cmpQ f2 t2) < (0 : Int))))) rfl) (fun w hw => ⟨by rw [hS, span_b3 h0 e0 h1 e1 h2 e2] <;> rfl, hw.out⟩))))
end
section
def cmpI (a b : Nat) : Int := if a < b then -1 else if b < a then 1 else 0
theorem cmpI_lt {a b : Nat} (h : a < b) : cmpI a b = -1 := if_pos h
theorem cmpI_gt {a b : Nat} (h : ¬ a < b) (h2 : b < a) : cmpI a b = 1 := by rw [cmpI, if_neg h, if_pos h2]
theorem cmpI_eq {a b : Nat} (h : ¬ a < b) (h2 : ¬ b < a) : cmpI a b = 0 := by rw [cmpI, if_neg h, if_neg h2]
def orI (a b : Int) : Int := if a ≠ 0 then a else if b ≠ 0 then b else 0
section
variable {P : Program} {n : Nat} {F : List (Nat × Value)} {w0 : Base} {L : List As} {d : Option Tmp} {x : Operand} {t : TypeId} {p : String} {af : Array Edge} {g : Option (Nat × Bool)}
theorem ex_slice_clip {tx e : TypeId} {a : Option Addr} {len cap k : Nat} {hi mx : Operand} {ki kj : IntKind} {m : Nat} (hx : evF F x = some (.slice a len cap)) (hh : evF F hi = some (.int ki (m : Nat))) (hj : evF F mx = some (.int kj (m : Nat))) (hu : P.underlying tx = some (.slice e)) (hs : ∀ w, (sizeOf e).run P w = .ok k w) (hm : m ≤ cap) :
    Ex P n F w0 L ⟨d, .slice tx x none (some hi) (some mx), t, p, af, g⟩ (.slice a m m) := fun A w ha _ => by
  simp only [execOp, ha.ev hx, Instr.sliceAt, run_underlying hu, Instr.slice, Option.map_some, Option.map_none, ha.ev hh, ha.ev hj, Instr.sliceBounds, Instr.sliceBound, asIntOf, Sem.run_bind, Result.andThen_ok, Sem.run_pure]
  have h1 : (0 : Int) ≤ (m : Int) ∧ (m : Int) ≤ (cap : Int) := ⟨by omega, by omega⟩
  simp [h1.2, hs]
  cases a <;> simp [Addr.add]
end
theorem own_some {p : Option Addr} {n c : Nat} (h : OwnOk p n c) (hn : n ≠ 0) : ∃ g, p = some ⟨g, 0, none⟩ := by
  cases p with
  | none => exact absurd (h.nil rfl).1 hn
  | some a => exact ⟨a.block, by rw [← h.at0 a rfl]⟩
section
variable {P : Program} {ops : Array Oper} {rest : List Oper} {Q : Exit → Act → World → Prop} {n : Nat} {F : List (Nat × Value)} {w0 : Base} {L L' : List As}
theorem OkL.subL (hs : L'.Sublist L) (h : OkL P ops rest Q n F w0 L') : OkL P ops rest Q n F w0 L := fun a w ha hw => h a w ha (hw.weak hs)
end
end
section
structure Pc where
  tri : Nat
  lo : Rat
  hi : Rat
deriving DecidableEq
def pcL (p : Pc) : List Value := vN p.tri :: (fracL p.lo ++ fracL p.hi)
theorem pcL_len (p : Pc) : (pcL p).length = 11 := rfl
def cmpP (x y : Pc) : Int := if cmpQ x.lo y.lo ≠ 0 then cmpQ x.lo y.lo else cmpI x.tri y.tri
theorem orI_eq (x y : Pc) : orI (cmpQ x.lo y.lo) (cmpI x.tri y.tri) = cmpP x y := by
  unfold orI cmpP
  split
  · rfl
  · split
    · rfl
    · rename_i h; exact (Decidable.of_not_not h).symm
def two2 (x y : Pc) (tl : List Value) : List Value := if cmpP y x < 0 then pcL y ++ (pcL x ++ tl) else pcL x ++ (pcL y ++ tl)
theorem two2_t {x y : Pc} {tl : List Value} (h : cmpP y x < 0) : two2 x y tl = pcL y ++ (pcL x ++ tl) := if_pos h
theorem two2_f {x y : Pc} {tl : List Value} (h : ¬ cmpP y x < 0) : two2 x y tl = pcL x ++ (pcL y ++ tl) := if_neg h
def midR (a b : Pt) (f t : Rat) : Pt := a + scaleP (b - a) ((((1 : Int) : Rat) / ((2 : Int) : Rat)) * (f + t))
def pcAt (ps : List Pt) (a b : Pt) (t : Nat) (T : Nat × Nat × Nat) : List Pc :=
  if (spanV (corT ps T) a b).2.2 = true then (if whereT ps (midR a b (spanV (corT ps T) a b).1 (spanV (corT ps T) a b).2.1) T = 1 then [⟨t, (spanV (corT ps T) a b).1, (spanV (corT ps T) a b).2.1⟩] else []) else []
def rayL (ps : List Pt) (ts : List (Nat × Nat × Nat)) (a b : Pt) : Nat → List Pc
  | 0 => []
  | t + 1 => rayL ps ts a b t ++ pcAt ps a b t (ts.getD t (0, 0, 0))
section
variable {ps : List Pt} {ts : List (Nat × Nat × Nat)} {a b : Pt} {t : Nat} {sv : Rat × Rat × Bool}
theorem rayL_out (h : sv = spanV (corT ps (ts.getD t (0, 0, 0))) a b) (h1 : sv.2.2 = false) : rayL ps ts a b (t + 1) = rayL ps ts a b t := by
  rw [rayL, pcAt, ← h, h1]; simp
theorem rayL_off (h : sv = spanV (corT ps (ts.getD t (0, 0, 0))) a b) (h1 : sv.2.2 = true) (h2 : ¬ whereT ps (midR a b sv.1 sv.2.1) (ts.getD t (0, 0, 0)) = 1) : rayL ps ts a b (t + 1) = rayL ps ts a b t := by
  rw [rayL, pcAt, ← h, if_pos h1, if_neg h2, List.append_nil]
theorem rayL_in (h : sv = spanV (corT ps (ts.getD t (0, 0, 0))) a b) (h1 : sv.2.2 = true) (h2 : whereT ps (midR a b sv.1 sv.2.1) (ts.getD t (0, 0, 0)) = 1) : rayL ps ts a b (t + 1) = rayL ps ts a b t ++ [⟨t, sv.1, sv.2.1⟩] := by
  rw [rayL, pcAt, ← h, if_pos h1, if_pos h2]
theorem pcAt_len (T : Nat × Nat × Nat) : (pcAt ps a b t T).length ≤ 1 := by
  unfold pcAt
  split
  · split <;> simp
  · simp
theorem rayL_len : ∀ t, (rayL ps ts a b t).length ≤ t
  | 0 => Nat.le_refl _
  | t + 1 => by
    have h1 := rayL_len t
    have h2 := pcAt_len (ps := ps) (a := a) (b := b) (t := t) (ts.getD t (0, 0, 0))
    rw [rayL, List.length_append]
    omega
end
theorem spanV_sz {c : P3} {a b : Pt} (h : turnP c.1 c.2.1 c.2.2 ≠ 0) (h1 : SzP c.1 ≤ 6) (h2 : SzP c.2.1 ≤ 6) (h3 : SzP c.2.2 ≤ 6) (ha : SzP a ≤ 6) (hb : SzP b ≤ 6) : Sz (spanV c a b).1 ≤ 400 ∧ Sz (spanV c a b).2.1 ≤ 400 :=
  spanQ_sz (Sz_bary h h1 h2 h3 ha h2 h3) (Sz_bary h h1 h2 h3 hb h2 h3) (Sz_bary h h1 h2 h3 h1 ha h3) (Sz_bary h h1 h2 h3 h1 hb h3) (Sz_bary h h1 h2 h3 h1 h2 ha) (Sz_bary h h1 h2 h3 h1 h2 hb)
def RayI (rl : List Pc) (s : Option Addr × Nat) : Prop := OwnOk s.1 rl.length s.2 ∧ (rl = [] → s = (none, 0))
theorem RayI.more {rl rl' : List Pc} {x : Pc} {p : Option Addr} {c : Nat} (e : rl' = rl ++ [x]) (h : OwnOk p (rl.length + 1) c) : RayI rl' (p, c) := by
  subst e
  exact ⟨by simpa using h, fun e => by simp at e⟩
section
variable {P : Program} {ops : Array Oper} {rest : List Oper} {Q : Exit → Act → World → Prop} {n D : Nat} {F : List (Nat × Value)} {w0 : Base} {L L' : List As} {c : Code}
theorem OkD.castL (e : L = L') (h : OkD D P c Q n F w0 L') : OkD D P c Q n F w0 L := e ▸ h
theorem OkD.subL (hs : L'.Sublist L) (h : OkD D P c Q n F w0 L') : OkD D P c Q n F w0 L := fun a w ha hw => h a w ha (hw.weak hs)
theorem OkL.unrow (i : Nat) {g T z m c : Nat} {cs : List Value} (hi : L[i]? = some (rowW (some ⟨g, 0, none⟩) T z m c cs)) (next : ∀ tl, OkL P ops rest Q n F w0 (L.set i (blk g T (cs ++ tl)))) : OkL P ops rest Q n F w0 L := fun a w ha hw => by
  obtain ⟨o, ho, hp⟩ := hw.at hi rfl
  obtain ⟨cur, rfl, hs, ht⟩ := hp
  refine next (cur.toList.drop (m * z)) a w ha ?_
  have e : cs ++ cur.toList.drop (m * z) = cur.toList := by rw [← ht, List.take_append_drop]
  rw [e]
  exact hw.turn hi rfl rfl ⟨⟨rfl, rfl, rfl, Nat.le_refl _, fun _ _ _ => rfl⟩, Nat.le_refl _⟩ ⟨_, ho, by simp⟩
end
def srt2 (x y : Pc) : List Pc := if cmpP y x < 0 then [y, x] else [x, y]
theorem two2_srt (x y : Pc) (tl : List Value) : (two2 x y tl).take 22 = rowsL pcL (srt2 x y) := by
  unfold two2 srt2
  split <;> rfl
theorem retP {S : Nat → Prop} {W w : World} {L : List As} (hw : Own ⟨W, none⟩ w L) (i : Nat) {g T : Nat} {x y : Pc} {tl : List Value} (hi : L[i]? = some (blk g T (two2 x y tl))) : GivesR (RX (rowsL pcL (srt2 x y)) 2) S W (.returned (.slice (some ⟨g, 0, none⟩) 2 2)) w := by
  have hro : RowOk (some ⟨g, 0, none⟩) 2 2 := ⟨(fun e => by cases e), (fun a e => by injection e with e; rw [← e]), Nat.le_refl _⟩
  obtain ⟨h1, o, ho, hp⟩ := hw.2.1 _ (List.mem_of_getElem? hi) g rfl
  refine ⟨⟨some ⟨g, 0, none⟩, 2, hro⟩, rfl, hw.out, fun z hz => ?_⟩
  rcases List.mem_singleton.1 hz with rfl
  refine ⟨fun b e => ?_, fun b e => ?_⟩
  · injection e with e
    subst e
    refine ⟨o, ho, (two2 x y tl).toArray, T, (0, 0), hp, ?_⟩
    have h2 : (rowsL pcL (srt2 x y)).length = 22 := by unfold srt2; split <;> rfl
    rw [h2, ← two2_srt x y tl]
    simp
    rfl
  · injection e with e
    subst e
    rcases h1 with h1 | h1 | h1
    · cases h1
    · exact .inl h1
    · cases h1
end
end Go.Proofs.YtnofgcpajmldkaaGreatDoor
