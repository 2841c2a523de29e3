/- Walks, printed by gen.py. -/
import Derived.Test.YtpkoldfmbebmgaaGreatDoorNumQ
namespace Go.Proofs.YtpkoldfmbebmgaaGreatDoor
open Go Go.RowKit
set_option maxRecDepth 100000
set_option linter.unusedVariables false
set_option linter.unusedSimpArgs false

set_option maxHeartbeats 2000000 in
theorem Where_ok (a b c p : Pt) (hs : SzP a + SzP b + SzP c + SzP p ≤ 268435456) (h : turnP a b c ≠ 0) (w : World)  : Calls Tryz.prog 34 #[(aG (ptL a)), (aG (ptL b)), (aG (ptL c)), (aG (ptL p))] w (Gives w (vN (whereN (turnP p b c / turnP a b c) (turnP a p c / turnP a b c) (turnP a b p / turnP a b c)))) := by
  obtain ⟨l0, hl0⟩ : ∃ l, l = turnP p b c / turnP a b c := ⟨_, rfl⟩
  obtain ⟨l1, hl1⟩ : ∃ l, l = turnP a p c / turnP a b c := ⟨_, rfl⟩
  obtain ⟨l2, hl2⟩ : ∃ l, l = turnP a b p / turnP a b c := ⟨_, rfl⟩
  refine calls_of (args := [(aG (ptL a)), (aG (ptL b)), (aG (ptL c)), (aG (ptL p))]) Tryz.func34 rfl rfl (leB rfl) ?_
  refine OkC.subF (sC 0 rfl (sC 1 rfl (sC 2 rfl (sC 3 rfl (sN))))) ?_
  refine q4 ?_
  refine OkL.open_ (T := 38) (cs := ptL a) (wt_none rfl) (op_box (cs := ptL a) rfl rfl) rfl (leB rfl) ?_; intro b1
  refine OkL.open_ (T := 38) (cs := ptL b) (wt_none rfl) (op_box (cs := ptL b) rfl rfl) rfl (leB rfl) ?_; intro b2
  refine OkL.open_ (T := 38) (cs := ptL c) (wt_none rfl) (op_box (cs := ptL c) rfl rfl) rfl (leB rfl) ?_; intro b3
  refine OkL.open_ (T := 38) (cs := ptL p) (wt_none rfl) (op_box (cs := ptL p) rfl rfl) rfl (leB rfl) ?_; intro b4
  refine st (ex_assign rfl) (leB rfl) ?_
  refine q3 (sC 4 rfl (sC 5 rfl (sC 6 rfl (sC 7 rfl (sC 8 rfl (sN)))))) ?_
  refine st (ex_load_agg (i := 3) (vs := ptL a) rfl rfl Tryz.isAgg38 Tryz.sizeOf38 rfl rfl) (leB rfl) ?_
  refine st (ex_load_agg (i := 2) (vs := ptL b) rfl rfl Tryz.isAgg38 Tryz.sizeOf38 rfl rfl) (leB rfl) ?_
  refine st (ex_load_agg (i := 1) (vs := ptL c) rfl rfl Tryz.isAgg38 Tryz.sizeOf38 rfl rfl) (leB rfl) ?_
  refine st (ex_load_agg (i := 0) (vs := ptL p) rfl rfl Tryz.isAgg38 Tryz.sizeOf38 rfl rfl) (leB rfl) ?_
  refine OkL.call (v := (Value.tuple #[(aG (fracL l0 ++ fracL l1 ++ fracL l2)), (vI 0)])) (wt_none rfl) (op_call0 (args := [(aG (ptL a)), (aG (ptL b)), (aG (ptL c)), (aG (ptL p))]) rfl rfl Tryz.call26) (fun w hw => (by rw [hl0, hl1, hl2]; exact Bary_ok a b c p (by omega) h w)) rfl (leB rfl) ?_
  refine st (ex_move rfl) (leB rfl) ?_
  refine st (ex_extract (v := (aG (fracL l0 ++ fracL l1 ++ fracL l2))) rfl rfl) (leB rfl) ?_
  refine st (ex_extract (v := (vI 0)) rfl rfl) (leB rfl) ?_
  refine OkL.open_ (T := 56) (cs := fracL (0 : Rat) ++ fracL (0 : Rat) ++ fracL (0 : Rat)) (wt_none rfl) (op_alloc (cs := fracL (0 : Rat) ++ fracL (0 : Rat) ++ fracL (0 : Rat)) Tryz.zeroValue56 rfl) rfl (leB rfl) ?_; intro b5
  refine OkL.store' (i := 0) (off := 0) (vs := fracL l0 ++ fracL l1 ++ fracL l2) (cs' := fracL l0 ++ fracL l1 ++ fracL l2) (L' := [blk b5 56 (fracL l0 ++ fracL l1 ++ fracL l2), blk b4 38 (ptL p), blk b3 38 (ptL c), blk b2 38 (ptL b), blk b1 38 (ptL a)]) (wt_none rfl) rfl rfl rfl rfl rfl Tryz.sizeOf56 rfl rfl rfl rfl ?_
  refine st (ex_assign rfl) (leB rfl) ?_
  refine q6 (sC 8 rfl (sC 9 rfl (sC 10 rfl (sN)))) ?_
  refine q4 ?_
  refine st (ex_move rfl) (leB rfl) ?_
  refine st (ex_neq (c := false) rfl rfl (by decide)) (leB rfl) ?_
  refine OkL.nil ?_
  refine OkQ.subF (sC 8 rfl (sC 9 rfl (sC 22 rfl (sN)))) ?_
  refine OkQ.then_ ?_
  refine OkC.cond_false rfl ?_
  refine OkC.skip ?_
  refine q2 ?_
  refine st (ex_assign rfl) (leB rfl) ?_
  refine OkL.nil ?_
  refine q1 ?_
  refine q4 ?_
  refine st (ex_move rfl) (leB rfl) ?_
  refine OkL.nil ?_
  refine OkQ.then_ ?_
  refine OkC.block ?_
  refine OkC.unroll 5 ?_
  refine OkR.step ?_
  refine q4 ?_
  refine st (ex_lss (c := true) rfl rfl (by decide)) (leB rfl) ?_
  refine OkL.nil ?_
  refine q1 ?_
  refine OkC.cond_true rfl ?_
  refine OkC.skip ?_
  refine q1 ?_
  refine OkC.block ?_
  refine q4 ?_
  refine st (ex_move rfl) (leB rfl) ?_
  refine st (ex_assign rfl) (leB rfl) ?_
  refine OkL.nil ?_
  refine q2 ?_
  refine st (ex_move rfl) (leB rfl) ?_
  refine st (v := (pP b5 0)) (ex_indexAddr_array (j := 0) rfl rfl Tryz.underlying56 Tryz.sizeOf36 rfl (by decide) rfl) (leB rfl) ?_
  refine st (ex_load_agg (i := 0) (vs := fracL l0) rfl rfl Tryz.isAgg36 Tryz.sizeOf36 rfl rfl) (leB rfl) ?_
  refine OkL.call (v := (vI l0.num.sign)) (wt_none rfl) (op_call0 (args := [(aG (fracL l0))]) rfl rfl Tryz.call20) (fun w hw => fSign_ok l0 w) rfl (leB rfl) ?_
  refine OkL.nil ?_
  refine OkQ.then_ ?_
  refine OkC.join1 (J := fun (pl0 : Nat) => pl0 = 1 + zq l0 ∧ ¬ l0.num.sign = -1) (FI := fun (pl0 : Nat) => [(9, (pP b5 0)), (23, (vI 0)), (24, (Value.bool true)), (25, (vI 0)), (12, (vI 0)), (26, (vI 0)), (27, (pP b5 0)), (28, (aG (fracL l0))), (29, (vI l0.num.sign)), (11, (vN pl0))]) (LI := fun (pl0 : Nat) => [blk b5 56 (fracL l0 ++ fracL l1 ++ fracL l2), blk b4 38 (ptL p), blk b3 38 (ptL c), blk b2 38 (ptL b), blk b1 38 (ptL a)]) ?_ ?_
  · skip
    refine OkC.block ?_
    refine q4 ?_
    refine st (ex_eql (c := (decide (l0.num.sign = (-1 : Int)))) rfl rfl rfl) (leB rfl) ?_
    refine st (ex_assign rfl) (leB rfl) ?_
    refine OkL.nil ?_
    refine OkQ.then_ ?_
    refine OkC.cond rfl (fun hc2 => ?_) (fun hc2 => ?_)
    · replace hc2 := of_decide_eq_true hc2
      have hz := where_neg0 (x := l0) (y := l1) (z := l2) hc2
      refine q4 ?_
      refine st (ex_assign rfl) (leB rfl) ?_
      refine OkL.nil ?_
      refine OkQ.then_ ?_
      refine OkC.ret ?_
      refine OkQ.in_ret ?_
      refine OkQ.join1_ret ?_
      refine OkQ.in_ret ?_
      refine OkQ.then_ret ?_
      refine OkQ.then_ret ?_
      refine OkQ.in_ret ?_
      refine OkQ.then_ret ?_
      exact ret_one rfl (rd_tmp (v := (vI 0)) rfl) (fun w hw => ⟨by rw [← hl0, ← hl1, ← hl2, hz]; rfl, hw.out⟩)
    · replace hc2 := of_decide_eq_false hc2
      refine q4 ?_
      refine st (ex_eql (c := (decide (l0.num.sign = (0 : Int)))) rfl rfl rfl) (leB rfl) ?_
      refine st (ex_assign rfl) (leB rfl) ?_
      refine OkL.nil ?_
      refine OkQ.then_ ?_
      refine OkC.cond rfl (fun hc3 => ?_) (fun hc3 => ?_)
      · replace hc3 := of_decide_eq_true hc3
        refine OkC.region ?_
        refine st (ex_move rfl) (leB rfl) ?_
        refine st (ex_add (c := (2 : Int)) rfl rfl (by decide)) (leB rfl) ?_
        refine st (ex_assign rfl) (leB rfl) ?_
        refine OkL.nil ?_
        refine OkQ.in_normal ?_
        exact OkQ.join1 2 (⟨by simp [zq_one hc3], hc2⟩) (sS rfl (sS rfl (sS rfl (sS rfl (sS rfl (sS rfl (sS rfl (sS rfl (sS rfl (sS rfl (sN))))))))))) (List.Sublist.refl _)
      · replace hc3 := of_decide_eq_false hc3
        refine OkC.skip ?_
        refine OkQ.in_normal ?_
        exact OkQ.join1 1 (⟨by simp [zq_zero hc3], hc2⟩) (sS rfl (sS rfl (sS rfl (sS rfl (sS rfl (sS rfl (sS rfl (sS rfl (sS rfl (sS rfl (sN))))))))))) (List.Sublist.refl _)
  · intro pl0 hJ
    replace hJ : pl0 = 1 + zq l0 ∧ ¬ l0.num.sign = -1 := hJ
    obtain ⟨e0, n0⟩ := hJ
    refine OkQ.sub (F' := [(9, (pP b5 0)), (23, (vI 0)), (24, (Value.bool true)), (25, (vI 0)), (12, (vI 0)), (26, (vI 0)), (27, (pP b5 0)), (28, (aG (fracL l0))), (29, (vI l0.num.sign)), (11, (vN pl0))]) (L' := [blk b5 56 (fracL l0 ++ fracL l1 ++ fracL l2), blk b4 38 (ptL p), blk b3 38 (ptL c), blk b2 38 (ptL b), blk b1 38 (ptL a)]) (sF rfl) (List.Sublist.refl _) ?_
    have zz0 := zq_le l0
    refine OkQ.in_normal ?_
    refine OkQ.then_ ?_
    refine OkC.region ?_
    refine st (ex_add (c := (1 : Int)) rfl rfl (by decide)) (leB rfl) ?_
    refine st (ex_move rfl) (leB rfl) ?_
    refine OkL.nil ?_
    refine OkQ.again ?_
    refine OkR.step ?_
    refine q4 ?_
    refine st (ex_lss (c := true) rfl rfl (by decide)) (leB rfl) ?_
    refine OkL.nil ?_
    refine q1 ?_
    refine OkC.cond_true rfl ?_
    refine OkC.skip ?_
    refine q1 ?_
    refine OkC.block ?_
    refine q4 ?_
    refine st (ex_move rfl) (leB rfl) ?_
    refine st (ex_assign rfl) (leB rfl) ?_
    refine OkL.nil ?_
    refine q2 ?_
    refine st (ex_move rfl) (leB rfl) ?_
    refine st (v := (pP b5 5)) (ex_indexAddr_array (j := 1) rfl rfl Tryz.underlying56 Tryz.sizeOf36 rfl (by decide) rfl) (leB rfl) ?_
    refine st (ex_load_agg (i := 0) (vs := fracL l1) rfl rfl Tryz.isAgg36 Tryz.sizeOf36 rfl rfl) (leB rfl) ?_
    refine OkL.call (v := (vI l1.num.sign)) (wt_none rfl) (op_call0 (args := [(aG (fracL l1))]) rfl rfl Tryz.call20) (fun w hw => fSign_ok l1 w) rfl (leB rfl) ?_
    refine OkL.nil ?_
    refine OkQ.then_ ?_
    refine OkC.join1 (J := fun (pl1 : Nat) => pl1 = pl0 + zq l1 ∧ ¬ l1.num.sign = -1) (FI := fun (pl1 : Nat) => [(9, (pP b5 0)), (23, (vI 1)), (24, (Value.bool true)), (25, (vI 1)), (12, (vI 1)), (26, (vI 1)), (27, (pP b5 5)), (28, (aG (fracL l1))), (29, (vI l1.num.sign)), (36, (vI 1)), (11, (vN pl1))]) (LI := fun (pl1 : Nat) => [blk b5 56 (fracL l0 ++ fracL l1 ++ fracL l2), blk b4 38 (ptL p), blk b3 38 (ptL c), blk b2 38 (ptL b), blk b1 38 (ptL a)]) ?_ ?_
    · skip
      refine OkC.block ?_
      refine q4 ?_
      refine st (ex_eql (c := (decide (l1.num.sign = (-1 : Int)))) rfl rfl rfl) (leB rfl) ?_
      refine st (ex_assign rfl) (leB rfl) ?_
      refine OkL.nil ?_
      refine OkQ.then_ ?_
      refine OkC.cond rfl (fun hc2 => ?_) (fun hc2 => ?_)
      · replace hc2 := of_decide_eq_true hc2
        have hz := where_neg1 (x := l0) (y := l1) (z := l2) hc2
        refine q4 ?_
        refine st (ex_assign rfl) (leB rfl) ?_
        refine OkL.nil ?_
        refine OkQ.then_ ?_
        refine OkC.ret ?_
        refine OkQ.in_ret ?_
        refine OkQ.join1_ret ?_
        refine OkQ.in_ret ?_
        refine OkQ.then_ret ?_
        refine OkQ.then_ret ?_
        refine OkQ.in_ret ?_
        refine OkQ.then_ret ?_
        exact ret_one rfl (rd_tmp (v := (vI 0)) rfl) (fun w hw => ⟨by rw [← hl0, ← hl1, ← hl2, hz]; rfl, hw.out⟩)
      · replace hc2 := of_decide_eq_false hc2
        refine q4 ?_
        refine st (ex_eql (c := (decide (l1.num.sign = (0 : Int)))) rfl rfl rfl) (leB rfl) ?_
        refine st (ex_assign rfl) (leB rfl) ?_
        refine OkL.nil ?_
        refine OkQ.then_ ?_
        refine OkC.cond rfl (fun hc3 => ?_) (fun hc3 => ?_)
        · replace hc3 := of_decide_eq_true hc3
          refine OkC.region ?_
          refine st (ex_move rfl) (leB rfl) ?_
          refine st (ex_add (c := ((pl0 + 1 : Nat) : Int)) rfl rfl (addN_i64 (a := pl0) (b := 1) (by omega))) (leB rfl) ?_
          refine st (ex_assign rfl) (leB rfl) ?_
          refine OkL.nil ?_
          refine OkQ.in_normal ?_
          exact OkQ.join1 (pl0 + 1) (⟨by simp [zq_one hc3], hc2⟩) (sS rfl (sS rfl (sS rfl (sS rfl (sS rfl (sS rfl (sS rfl (sS rfl (sS rfl (sS rfl (sS rfl (sN)))))))))))) (List.Sublist.refl _)
        · replace hc3 := of_decide_eq_false hc3
          refine OkC.skip ?_
          refine OkQ.in_normal ?_
          exact OkQ.join1 pl0 (⟨by simp [zq_zero hc3], hc2⟩) (sS rfl (sS rfl (sS rfl (sS rfl (sS rfl (sS rfl (sS rfl (sS rfl (sS rfl (sS rfl (sS rfl (sN)))))))))))) (List.Sublist.refl _)
    · intro pl1 hJ
      replace hJ : pl1 = pl0 + zq l1 ∧ ¬ l1.num.sign = -1 := hJ
      obtain ⟨e1, n1⟩ := hJ
      refine OkQ.sub (F' := [(9, (pP b5 0)), (23, (vI 1)), (24, (Value.bool true)), (25, (vI 1)), (12, (vI 1)), (26, (vI 1)), (27, (pP b5 5)), (28, (aG (fracL l1))), (29, (vI l1.num.sign)), (36, (vI 1)), (11, (vN pl1))]) (L' := [blk b5 56 (fracL l0 ++ fracL l1 ++ fracL l2), blk b4 38 (ptL p), blk b3 38 (ptL c), blk b2 38 (ptL b), blk b1 38 (ptL a)]) (sF rfl) (List.Sublist.refl _) ?_
      have zz1 := zq_le l1
      refine OkQ.in_normal ?_
      refine OkQ.then_ ?_
      refine OkC.region ?_
      refine st (ex_add (c := (2 : Int)) rfl rfl (by decide)) (leB rfl) ?_
      refine st (ex_move rfl) (leB rfl) ?_
      refine OkL.nil ?_
      refine OkQ.again ?_
      refine OkR.step ?_
      refine q4 ?_
      refine st (ex_lss (c := true) rfl rfl (by decide)) (leB rfl) ?_
      refine OkL.nil ?_
      refine q1 ?_
      refine OkC.cond_true rfl ?_
      refine OkC.skip ?_
      refine q1 ?_
      refine OkC.block ?_
      refine q4 ?_
      refine st (ex_move rfl) (leB rfl) ?_
      refine st (ex_assign rfl) (leB rfl) ?_
      refine OkL.nil ?_
      refine q2 ?_
      refine st (ex_move rfl) (leB rfl) ?_
      refine st (v := (pP b5 10)) (ex_indexAddr_array (j := 2) rfl rfl Tryz.underlying56 Tryz.sizeOf36 rfl (by decide) rfl) (leB rfl) ?_
      refine st (ex_load_agg (i := 0) (vs := fracL l2) rfl rfl Tryz.isAgg36 Tryz.sizeOf36 rfl rfl) (leB rfl) ?_
      refine OkL.call (v := (vI l2.num.sign)) (wt_none rfl) (op_call0 (args := [(aG (fracL l2))]) rfl rfl Tryz.call20) (fun w hw => fSign_ok l2 w) rfl (leB rfl) ?_
      refine OkL.nil ?_
      refine OkQ.then_ ?_
      refine OkC.join1 (J := fun (pl2 : Nat) => pl2 = pl1 + zq l2 ∧ ¬ l2.num.sign = -1) (FI := fun (pl2 : Nat) => [(9, (pP b5 0)), (23, (vI 2)), (24, (Value.bool true)), (25, (vI 2)), (12, (vI 2)), (26, (vI 2)), (27, (pP b5 10)), (28, (aG (fracL l2))), (29, (vI l2.num.sign)), (36, (vI 2)), (11, (vN pl2))]) (LI := fun (pl2 : Nat) => [blk b5 56 (fracL l0 ++ fracL l1 ++ fracL l2), blk b4 38 (ptL p), blk b3 38 (ptL c), blk b2 38 (ptL b), blk b1 38 (ptL a)]) ?_ ?_
      · skip
        refine OkC.block ?_
        refine q4 ?_
        refine st (ex_eql (c := (decide (l2.num.sign = (-1 : Int)))) rfl rfl rfl) (leB rfl) ?_
        refine st (ex_assign rfl) (leB rfl) ?_
        refine OkL.nil ?_
        refine OkQ.then_ ?_
        refine OkC.cond rfl (fun hc2 => ?_) (fun hc2 => ?_)
        · replace hc2 := of_decide_eq_true hc2
          have hz := where_neg2 (x := l0) (y := l1) (z := l2) hc2
          refine q4 ?_
          refine st (ex_assign rfl) (leB rfl) ?_
          refine OkL.nil ?_
          refine OkQ.then_ ?_
          refine OkC.ret ?_
          refine OkQ.in_ret ?_
          refine OkQ.join1_ret ?_
          refine OkQ.in_ret ?_
          refine OkQ.then_ret ?_
          refine OkQ.then_ret ?_
          refine OkQ.in_ret ?_
          refine OkQ.then_ret ?_
          exact ret_one rfl (rd_tmp (v := (vI 0)) rfl) (fun w hw => ⟨by rw [← hl0, ← hl1, ← hl2, hz]; rfl, hw.out⟩)
        · replace hc2 := of_decide_eq_false hc2
          refine q4 ?_
          refine st (ex_eql (c := (decide (l2.num.sign = (0 : Int)))) rfl rfl rfl) (leB rfl) ?_
          refine st (ex_assign rfl) (leB rfl) ?_
          refine OkL.nil ?_
          refine OkQ.then_ ?_
          refine OkC.cond rfl (fun hc3 => ?_) (fun hc3 => ?_)
          · replace hc3 := of_decide_eq_true hc3
            refine OkC.region ?_
            refine st (ex_move rfl) (leB rfl) ?_
            refine st (ex_add (c := ((pl1 + 1 : Nat) : Int)) rfl rfl (addN_i64 (a := pl1) (b := 1) (by omega))) (leB rfl) ?_
            refine st (ex_assign rfl) (leB rfl) ?_
            refine OkL.nil ?_
            refine OkQ.in_normal ?_
            exact OkQ.join1 (pl1 + 1) (⟨by simp [zq_one hc3], hc2⟩) (sS rfl (sS rfl (sS rfl (sS rfl (sS rfl (sS rfl (sS rfl (sS rfl (sS rfl (sS rfl (sS rfl (sN)))))))))))) (List.Sublist.refl _)
          · replace hc3 := of_decide_eq_false hc3
            refine OkC.skip ?_
            refine OkQ.in_normal ?_
            exact OkQ.join1 pl1 (⟨by simp [zq_zero hc3], hc2⟩) (sS rfl (sS rfl (sS rfl (sS rfl (sS rfl (sS rfl (sS rfl (sS rfl (sS rfl (sS rfl (sS rfl (sN)))))))))))) (List.Sublist.refl _)
      · intro pl2 hJ
        replace hJ : pl2 = pl1 + zq l2 ∧ ¬ l2.num.sign = -1 := hJ
        obtain ⟨e2, n2⟩ := hJ
        refine OkQ.sub (F' := [(9, (pP b5 0)), (23, (vI 2)), (24, (Value.bool true)), (25, (vI 2)), (12, (vI 2)), (26, (vI 2)), (27, (pP b5 10)), (28, (aG (fracL l2))), (29, (vI l2.num.sign)), (36, (vI 2)), (11, (vN pl2))]) (L' := [blk b5 56 (fracL l0 ++ fracL l1 ++ fracL l2), blk b4 38 (ptL p), blk b3 38 (ptL c), blk b2 38 (ptL b), blk b1 38 (ptL a)]) (sF rfl) (List.Sublist.refl _) ?_
        have zz2 := zq_le l2
        refine OkQ.in_normal ?_
        refine OkQ.then_ ?_
        refine OkC.region ?_
        refine st (ex_add (c := (3 : Int)) rfl rfl (by decide)) (leB rfl) ?_
        refine st (ex_move rfl) (leB rfl) ?_
        refine OkL.nil ?_
        refine OkQ.again ?_
        refine OkR.step ?_
        refine q4 ?_
        refine st (ex_lss (c := false) rfl rfl (by decide)) (leB rfl) ?_
        refine OkL.nil ?_
        refine q1 ?_
        refine OkC.cond_false rfl ?_
        refine OkC.exit ?_
        refine OkQ.then_exit ?_
        refine OkQ.then_exit ?_
        refine OkQ.in_exit ?_
        refine q2 ?_
        refine st (ex_move rfl) (leB rfl) ?_
        refine st (ex_assign rfl) (leB rfl) ?_
        refine OkL.nil ?_
        refine OkQ.subF (sC 9 rfl (sC 23 rfl (sC 24 rfl (sC 25 rfl (sC 12 rfl (sC 26 rfl (sC 27 rfl (sC 28 rfl (sC 29 rfl (sC 36 rfl (sC 11 rfl (sC 8 rfl (sN))))))))))))) ?_
        refine OkQ.then_ ?_
        refine OkC.ret ?_
        exact ret_one rfl (rd_tmp (v := (vN pl2)) rfl) (fun w hw => ⟨by rw [← hl0, ← hl1, ← hl2, where_ok n0 n1 n2, e2, e1, e0], hw.out⟩)

theorem Where0_ok (a b c p : Pt) (hs : SzP a + SzP b + SzP c + SzP p ≤ 268435456) (h : turnP a b c = 0) (w : World)  : Calls Tryz.prog 34 #[(aG (ptL a)), (aG (ptL b)), (aG (ptL c)), (aG (ptL p))] w (Gives w (vI 0)) := by
  refine calls_of (args := [(aG (ptL a)), (aG (ptL b)), (aG (ptL c)), (aG (ptL p))]) Tryz.func34 rfl rfl (leB rfl) ?_
  refine OkC.subF (sC 0 rfl (sC 1 rfl (sC 2 rfl (sC 3 rfl (sN))))) ?_
  refine q4 ?_
  refine OkL.open_ (T := 38) (cs := ptL a) (wt_none rfl) (op_box (cs := ptL a) rfl rfl) rfl (leB rfl) ?_; intro b1
  refine OkL.open_ (T := 38) (cs := ptL b) (wt_none rfl) (op_box (cs := ptL b) rfl rfl) rfl (leB rfl) ?_; intro b2
  refine OkL.open_ (T := 38) (cs := ptL c) (wt_none rfl) (op_box (cs := ptL c) rfl rfl) rfl (leB rfl) ?_; intro b3
  refine OkL.open_ (T := 38) (cs := ptL p) (wt_none rfl) (op_box (cs := ptL p) rfl rfl) rfl (leB rfl) ?_; intro b4
  refine st (ex_assign rfl) (leB rfl) ?_
  refine q3 (sC 4 rfl (sC 5 rfl (sC 6 rfl (sC 7 rfl (sC 8 rfl (sN)))))) ?_
  refine st (ex_load_agg (i := 3) (vs := ptL a) rfl rfl Tryz.isAgg38 Tryz.sizeOf38 rfl rfl) (leB rfl) ?_
  refine st (ex_load_agg (i := 2) (vs := ptL b) rfl rfl Tryz.isAgg38 Tryz.sizeOf38 rfl rfl) (leB rfl) ?_
  refine st (ex_load_agg (i := 1) (vs := ptL c) rfl rfl Tryz.isAgg38 Tryz.sizeOf38 rfl rfl) (leB rfl) ?_
  refine st (ex_load_agg (i := 0) (vs := ptL p) rfl rfl Tryz.isAgg38 Tryz.sizeOf38 rfl rfl) (leB rfl) ?_
  refine OkL.call (v := (Value.tuple #[(aG (fracL (0 : Rat) ++ fracL (0 : Rat) ++ fracL (0 : Rat))), (vI 1)])) (wt_none rfl) (op_call0 (args := [(aG (ptL a)), (aG (ptL b)), (aG (ptL c)), (aG (ptL p))]) rfl rfl Tryz.call26) (fun w hw => Bary0_ok a b c p (by omega) h w) rfl (leB rfl) ?_
  refine st (ex_move rfl) (leB rfl) ?_
  refine st (ex_extract (v := (aG (fracL (0 : Rat) ++ fracL (0 : Rat) ++ fracL (0 : Rat)))) rfl rfl) (leB rfl) ?_
  refine st (ex_extract (v := (vI 1)) rfl rfl) (leB rfl) ?_
  refine OkL.open_ (T := 56) (cs := fracL (0 : Rat) ++ fracL (0 : Rat) ++ fracL (0 : Rat)) (wt_none rfl) (op_alloc (cs := fracL (0 : Rat) ++ fracL (0 : Rat) ++ fracL (0 : Rat)) Tryz.zeroValue56 rfl) rfl (leB rfl) ?_; intro b5
  refine OkL.store' (i := 0) (off := 0) (vs := fracL (0 : Rat) ++ fracL (0 : Rat) ++ fracL (0 : Rat)) (cs' := fracL (0 : Rat) ++ fracL (0 : Rat) ++ fracL (0 : Rat)) (L' := [blk b5 56 (fracL (0 : Rat) ++ fracL (0 : Rat) ++ fracL (0 : Rat)), blk b4 38 (ptL p), blk b3 38 (ptL c), blk b2 38 (ptL b), blk b1 38 (ptL a)]) (wt_none rfl) rfl rfl rfl rfl rfl Tryz.sizeOf56 rfl rfl rfl rfl ?_
  refine st (ex_assign rfl) (leB rfl) ?_
  refine q6 (sC 8 rfl (sC 9 rfl (sC 10 rfl (sN)))) ?_
  refine q4 ?_
  refine st (ex_move rfl) (leB rfl) ?_
  refine st (ex_neq (c := true) rfl rfl (by decide)) (leB rfl) ?_
  refine OkL.nil ?_
  refine OkQ.subF (sC 8 rfl (sC 9 rfl (sC 22 rfl (sN)))) ?_
  refine OkQ.then_ ?_
  refine OkC.cond_true rfl ?_
  refine q4 ?_
  refine st (ex_assign rfl) (leB rfl) ?_
  refine OkL.nil ?_
  refine OkQ.then_ ?_
  refine OkC.ret ?_
  refine OkQ.then_ret ?_
  exact ret_one rfl (rd_tmp (v := (vI 0)) rfl) (fun w hw => ⟨rfl, hw.out⟩)


end Go.Proofs.YtpkoldfmbebmgaaGreatDoor
