import Derived.Test.YtmejjgmpkelaiaaGreatDoorPart05
import Derived.Test.YtmejjgmpkelaiaaGreatDoorPart22
namespace Go.Proofs.YtmejjgmpkelaiaaGreatDoor
open Go Go.RowKit
set_option linter.unusedVariables false
set_option linter.unusedSimpArgs false
section
set_option maxRecDepth 100000
set_option maxHeartbeats 2000000 in
theorem Where_ok (a b c p : Pt) (hs : SzP a + SzP b + SzP c + SzP p ≤ 268435456) (h : turnP a b c ≠ 0) (w : World)  : Calls Tryz.prog 17 #[(aG (ptL a)), (aG (ptL b)), (aG (ptL c)), (aG (ptL p))] w (Gives w (vN (whereN (turnP p b c / turnP a b c) (turnP a p c / turnP a b c) (turnP a b p / turnP a b c)))) := by
 obtain ⟨l0, hl0⟩ : ∃ l, l = turnP p b c / turnP a b c := ⟨_, rfl⟩
 obtain ⟨l1, hl1⟩ : ∃ l, l = turnP a p c / turnP a b c := ⟨_, rfl⟩
 obtain ⟨l2, hl2⟩ : ∃ l, l = turnP a b p / turnP a b c := ⟨_, rfl⟩
 refine calls_of (args := [(aG (ptL a)), (aG (ptL b)), (aG (ptL c)), (aG (ptL p))]) Tryz.func17 rfl rfl (leB rfl) (OkC.subF (sC 0 rfl (sC 1 rfl (sC 2 rfl (sC 3 rfl (sN))))) (q4 (bx (cs := ptL a) rfl rfl rfl fun b1 => bx (cs := ptL b) rfl rfl rfl fun b2 => bx (cs := ptL c) rfl rfl rfl fun b3 => ?_)))
 refine bx (cs := ptL p) rfl rfl rfl fun b4 => asg rfl rfl (q3 (sC 4 rfl (sC 5 rfl (sC 6 rfl (sC 7 rfl (sC 8 rfl (sN)))))) (ldW 3 tA49 rfl rfl rfl rfl (ldW 2 tA49 rfl rfl rfl rfl (ldW 1 tA49 rfl rfl rfl rfl ?_))))
 refine ldW 0 tA49 rfl rfl rfl rfl (cl (args := [(aG (ptL a)), (aG (ptL b)), (aG (ptL c)), (aG (ptL p))]) (v := (Value.tuple #[(aG (fracL l0 ++ fracL l1 ++ fracL l2)), (vI 0)])) Tryz.call37 (fun w hw => (by rw [hl0, hl1, hl2]; exact Bary_ok a b c p (by omega) h w)) rfl rfl rfl (mv rfl rfl (st (ex_extract (v := (aG (fracL l0 ++ fracL l1 ++ fracL l2))) rfl rfl) (leB rfl) (st (ex_extract (v := (vI 0)) rfl rfl) (leB rfl) (al tZ61 rfl fun b5 => ?_)))))
 refine stW0 rfl rfl rfl Tryz.sizeOf61 rfl rfl (asg rfl rfl (q6 (sC 8 rfl (sC 9 rfl (sC 10 rfl (sN)))) (q4 (mv rfl rfl (st (ex_neq (c := false) rfl rfl (by decide)) (leB rfl) ?_)))))
 refine OkL.nil (OkQ.subF (sC 8 rfl (sC 9 rfl (sC 22 rfl (sN)))) (OkQ.then_ (OkC.cond_false rfl (OkC.skip (q2 ?_)))))
 refine asg rfl rfl (q6 (sC 8 rfl (sC 9 rfl (sC 11 rfl (sN)))) (q4 (mv rfl rfl (OkL.nil (OkQ.then_ ?_)))))
 refine OkC.block (OkC.unroll 5 (OkR.step (q4 (st (ex_lss (c := true) rfl rfl (by decide)) (leB rfl) (OkL.nil ?_)))))
 refine q1 (OkC.cond_true rfl (OkC.skip (q1 (OkC.block (q4 ?_)))))
 refine mv rfl rfl (asg rfl rfl (q3 (sC 8 rfl (sC 9 rfl (sC 11 rfl (sC 23 rfl (sC 12 rfl (sN)))))) (mv rfl rfl (st (v := (pP b5 0)) (ex_indexAddr_array (j := 0) rfl rfl Tryz.underlying61 Tryz.sizeOf47 rfl (by decide) rfl) (leB rfl) (ldA 0 (fracL l0) tA47 rfl rfl rfl rfl rfl ?_)))))
 refine cl Tryz.call16 (fun w hw => fSign_ok l0 w) rfl rfl rfl (OkL.nil (OkQ.subF (sC 8 rfl (sC 9 rfl (sC 11 rfl (sC 23 rfl (sC 29 rfl (sN)))))) (OkQ.then_ ?_)))
 refine OkC.join1 (J := fun (pl0 : Nat) => pl0 = 1 + zq l0 ∧ ¬ l0.num.sign = -1) (FI := fun (pl0 : Nat) => [(9, (pP b5 0)), (23, (vI 0)), (11, (vN pl0))]) (LI := fun (pl0 : Nat) => [blk b5 61 (fracL l0 ++ fracL l1 ++ fracL l2), blk b4 49 (ptL p), blk b3 49 (ptL c), blk b2 49 (ptL b), blk b1 49 (ptL a)]) ?_ ?_
 ·skip
  refine OkC.block (q4 (st (ex_eql (c := (decide (l0.num.sign = (-1 : Int)))) rfl rfl rfl) (leB rfl) (asg rfl rfl (OkL.nil (OkQ.subF (sC 8 rfl (sC 9 rfl (sC 11 rfl (sC 23 rfl (sC 29 rfl (sC 30 rfl (sN))))))) ?_)))))
  refine OkQ.then_ ?_
  refine OkC.cond rfl (fun hc2 => ?_) (fun hc2 => ?_)
  ·replace hc2 := of_decide_eq_true hc2
   have hz := where_neg0 (x := l0) (y := l1) (z := l2) hc2
   refine q4 (asg rfl rfl (OkL.nil (OkQ.then_ (OkC.ret (OkQ.in_ret ?_)))))
   exact OkQ.join1_ret (OkQ.in_ret (OkQ.then_ret (OkQ.then_ret (OkQ.in_ret (OkQ.then_ret (ret_one rfl (rd_tmp (v := (vI 0)) rfl) (fun w hw => ⟨by rw [← hl0, ← hl1, ← hl2, hz]; rfl, hw.out⟩)))))))
  ·replace hc2 := of_decide_eq_false hc2
   refine q4 (st (ex_eql (c := (decide (l0.num.sign = (0 : Int)))) rfl rfl rfl) (leB rfl) (asg rfl rfl (OkL.nil (OkQ.subF (sC 8 rfl (sC 9 rfl (sC 11 rfl (sC 23 rfl (sC 29 rfl (sC 32 rfl (sN))))))) (OkQ.then_ ?_)))))
   refine OkC.cond rfl (fun hc3 => ?_) (fun hc3 => ?_)
   ·replace hc3 := of_decide_eq_true hc3
    refine OkC.region (mv rfl rfl (st (ex_add (c := (2 : Int)) rfl rfl (by decide)) (leB rfl) (asg rfl rfl (OkL.nil (OkQ.subF (sC 8 rfl (sC 9 rfl (sC 11 rfl (sC 23 rfl (sC 29 rfl (sN)))))) ?_)))))
    exact OkQ.in_normal (OkQ.join1 2 (⟨by simp [zq_one hc3], hc2⟩) (sS rfl (sS rfl (sS rfl (sN)))) sr)
   ·replace hc3 := of_decide_eq_false hc3
    exact OkC.skip (OkQ.in_normal (OkQ.join1 1 (⟨by simp [zq_zero hc3], hc2⟩) (sS rfl (sS rfl (sS rfl (sN)))) sr))
 ·intro pl0 hJ
  replace hJ : pl0 = 1 + zq l0 ∧ ¬ l0.num.sign = -1 := hJ
  obtain ⟨e0, n0⟩ := hJ
  refine OkQ.sub (F' := [(9, (pP b5 0)), (23, (vI 0)), (11, (vN pl0))]) (L' := [blk b5 61 (fracL l0 ++ fracL l1 ++ fracL l2), blk b4 49 (ptL p), blk b3 49 (ptL c), blk b2 49 (ptL b), blk b1 49 (ptL a)]) (sF rfl) (List.Sublist.refl _) ?_
  have zz0 := zq_le l0
  refine OkQ.in_normal (OkQ.then_ (OkC.region (st (ex_add (c := (1 : Int)) rfl rfl (by decide)) (leB rfl) (mv rfl rfl (OkL.nil ?_)))))
  refine OkQ.subF (sC 9 rfl (sC 23 rfl (sC 11 rfl (sN)))) (OkQ.again (OkR.step (q4 (st (ex_lss (c := true) rfl rfl (by decide)) (leB rfl) (OkL.nil ?_)))))
  refine q1 (OkC.cond_true rfl (OkC.skip (q1 (OkC.block (q4 ?_)))))
  refine mv rfl rfl (asg rfl rfl (q3 (sC 9 rfl (sC 23 rfl (sC 11 rfl (sC 12 rfl (sN))))) (mv rfl rfl (st (v := (pP b5 5)) (ex_indexAddr_array (j := 1) rfl rfl Tryz.underlying61 Tryz.sizeOf47 rfl (by decide) rfl) (leB rfl) (ldA 0 (fracL l1) tA47 rfl rfl rfl rfl rfl ?_)))))
  refine cl Tryz.call16 (fun w hw => fSign_ok l1 w) rfl rfl rfl (OkL.nil (OkQ.subF (sC 9 rfl (sC 23 rfl (sC 11 rfl (sC 29 rfl (sN))))) (OkQ.then_ ?_)))
  refine OkC.join1 (J := fun (pl1 : Nat) => pl1 = pl0 + zq l1 ∧ ¬ l1.num.sign = -1) (FI := fun (pl1 : Nat) => [(9, (pP b5 0)), (23, (vI 1)), (11, (vN pl1))]) (LI := fun (pl1 : Nat) => [blk b5 61 (fracL l0 ++ fracL l1 ++ fracL l2), blk b4 49 (ptL p), blk b3 49 (ptL c), blk b2 49 (ptL b), blk b1 49 (ptL a)]) ?_ ?_
  ·skip
   refine OkC.block (q4 (st (ex_eql (c := (decide (l1.num.sign = (-1 : Int)))) rfl rfl rfl) (leB rfl) (asg rfl rfl (OkL.nil (OkQ.subF (sC 9 rfl (sC 23 rfl (sC 11 rfl (sC 29 rfl (sC 30 rfl (sN)))))) ?_)))))
   refine OkQ.then_ ?_
   refine OkC.cond rfl (fun hc2 => ?_) (fun hc2 => ?_)
   ·replace hc2 := of_decide_eq_true hc2
    have hz := where_neg1 (x := l0) (y := l1) (z := l2) hc2
    refine q4 (asg rfl rfl (OkL.nil (OkQ.then_ (OkC.ret (OkQ.in_ret ?_)))))
    exact OkQ.join1_ret (OkQ.in_ret (OkQ.then_ret (OkQ.then_ret (OkQ.in_ret (OkQ.then_ret (ret_one rfl (rd_tmp (v := (vI 0)) rfl) (fun w hw => ⟨by rw [← hl0, ← hl1, ← hl2, hz]; rfl, hw.out⟩)))))))
   ·replace hc2 := of_decide_eq_false hc2
    refine q4 (st (ex_eql (c := (decide (l1.num.sign = (0 : Int)))) rfl rfl rfl) (leB rfl) (asg rfl rfl (OkL.nil (OkQ.subF (sC 9 rfl (sC 23 rfl (sC 11 rfl (sC 29 rfl (sC 32 rfl (sN)))))) (OkQ.then_ ?_)))))
    refine OkC.cond rfl (fun hc3 => ?_) (fun hc3 => ?_)
    ·replace hc3 := of_decide_eq_true hc3
     refine OkC.region (mv rfl rfl (st (ex_add (c := ((pl0 + 1 : Nat) : Int)) rfl rfl (addN_i64 (a := pl0) (b := 1) (by omega))) (leB rfl) (asg rfl rfl (OkL.nil (OkQ.subF (sC 9 rfl (sC 23 rfl (sC 11 rfl (sC 29 rfl (sN))))) ?_)))))
     exact OkQ.in_normal (OkQ.join1 (pl0 + 1) (⟨by simp [zq_one hc3], hc2⟩) (sS rfl (sS rfl (sS rfl (sN)))) sr)
    ·replace hc3 := of_decide_eq_false hc3
     exact OkC.skip (OkQ.in_normal (OkQ.join1 pl0 (⟨by simp [zq_zero hc3], hc2⟩) (sS rfl (sS rfl (sS rfl (sN)))) sr))
  ·intro pl1 hJ
   replace hJ : pl1 = pl0 + zq l1 ∧ ¬ l1.num.sign = -1 := hJ
   obtain ⟨e1, n1⟩ := hJ
   refine OkQ.sub (F' := [(9, (pP b5 0)), (23, (vI 1)), (11, (vN pl1))]) (L' := [blk b5 61 (fracL l0 ++ fracL l1 ++ fracL l2), blk b4 49 (ptL p), blk b3 49 (ptL c), blk b2 49 (ptL b), blk b1 49 (ptL a)]) (sF rfl) (List.Sublist.refl _) ?_
   have zz1 := zq_le l1
   refine OkQ.in_normal (OkQ.then_ (OkC.region (st (ex_add (c := (2 : Int)) rfl rfl (by decide)) (leB rfl) (mv rfl rfl (OkL.nil ?_)))))
   refine OkQ.subF (sC 9 rfl (sC 23 rfl (sC 11 rfl (sN)))) (OkQ.again (OkR.step (q4 (st (ex_lss (c := true) rfl rfl (by decide)) (leB rfl) (OkL.nil ?_)))))
   refine q1 (OkC.cond_true rfl (OkC.skip (q1 (OkC.block (q4 ?_)))))
   refine mv rfl rfl (asg rfl rfl (q3 (sC 9 rfl (sC 23 rfl (sC 11 rfl (sC 12 rfl (sN))))) (mv rfl rfl (st (v := (pP b5 10)) (ex_indexAddr_array (j := 2) rfl rfl Tryz.underlying61 Tryz.sizeOf47 rfl (by decide) rfl) (leB rfl) (ldA 0 (fracL l2) tA47 rfl rfl rfl rfl rfl ?_)))))
   refine cl Tryz.call16 (fun w hw => fSign_ok l2 w) rfl rfl rfl (OkL.nil (OkQ.subF (sC 9 rfl (sC 23 rfl (sC 11 rfl (sC 29 rfl (sN))))) (OkQ.then_ ?_)))
   refine OkC.join1 (J := fun (pl2 : Nat) => pl2 = pl1 + zq l2 ∧ ¬ l2.num.sign = -1) (FI := fun (pl2 : Nat) => [(9, (pP b5 0)), (23, (vI 2)), (11, (vN pl2))]) (LI := fun (pl2 : Nat) => [blk b5 61 (fracL l0 ++ fracL l1 ++ fracL l2), blk b4 49 (ptL p), blk b3 49 (ptL c), blk b2 49 (ptL b), blk b1 49 (ptL a)]) ?_ ?_
   ·skip
    refine OkC.block (q4 (st (ex_eql (c := (decide (l2.num.sign = (-1 : Int)))) rfl rfl rfl) (leB rfl) (asg rfl rfl (OkL.nil (OkQ.subF (sC 9 rfl (sC 23 rfl (sC 11 rfl (sC 29 rfl (sC 30 rfl (sN)))))) ?_)))))
    refine OkQ.then_ ?_
    refine OkC.cond rfl (fun hc2 => ?_) (fun hc2 => ?_)
    ·replace hc2 := of_decide_eq_true hc2
     have hz := where_neg2 (x := l0) (y := l1) (z := l2) hc2
     refine q4 (asg rfl rfl (OkL.nil (OkQ.then_ (OkC.ret (OkQ.in_ret ?_)))))
     exact OkQ.join1_ret (OkQ.in_ret (OkQ.then_ret (OkQ.then_ret (OkQ.in_ret (OkQ.then_ret (ret_one rfl (rd_tmp (v := (vI 0)) rfl) (fun w hw => ⟨by rw [← hl0, ← hl1, ← hl2, hz]; rfl, hw.out⟩)))))))
    ·replace hc2 := of_decide_eq_false hc2
     refine q4 (st (ex_eql (c := (decide (l2.num.sign = (0 : Int)))) rfl rfl rfl) (leB rfl) (asg rfl rfl (OkL.nil (OkQ.subF (sC 9 rfl (sC 23 rfl (sC 11 rfl (sC 29 rfl (sC 32 rfl (sN)))))) (OkQ.then_ ?_)))))
     refine OkC.cond rfl (fun hc3 => ?_) (fun hc3 => ?_)
     ·replace hc3 := of_decide_eq_true hc3
      refine OkC.region (mv rfl rfl (st (ex_add (c := ((pl1 + 1 : Nat) : Int)) rfl rfl (addN_i64 (a := pl1) (b := 1) (by omega))) (leB rfl) (asg rfl rfl (OkL.nil (OkQ.subF (sC 9 rfl (sC 23 rfl (sC 11 rfl (sC 29 rfl (sN))))) ?_)))))
      exact OkQ.in_normal (OkQ.join1 (pl1 + 1) (⟨by simp [zq_one hc3], hc2⟩) (sS rfl (sS rfl (sS rfl (sN)))) sr)
     ·replace hc3 := of_decide_eq_false hc3
      exact OkC.skip (OkQ.in_normal (OkQ.join1 pl1 (⟨by simp [zq_zero hc3], hc2⟩) (sS rfl (sS rfl (sS rfl (sN)))) sr))
   ·intro pl2 hJ
    replace hJ : pl2 = pl1 + zq l2 ∧ ¬ l2.num.sign = -1 := hJ
    obtain ⟨e2, n2⟩ := hJ
    refine OkQ.sub (F' := [(9, (pP b5 0)), (23, (vI 2)), (11, (vN pl2))]) (L' := [blk b5 61 (fracL l0 ++ fracL l1 ++ fracL l2), blk b4 49 (ptL p), blk b3 49 (ptL c), blk b2 49 (ptL b), blk b1 49 (ptL a)]) (sF rfl) (List.Sublist.refl _) ?_
    have zz2 := zq_le l2
    refine OkQ.in_normal (OkQ.then_ (OkC.region (st (ex_add (c := (3 : Int)) rfl rfl (by decide)) (leB rfl) (mv rfl rfl (OkL.nil ?_)))))
    refine OkQ.subF (sC 9 rfl (sC 23 rfl (sC 11 rfl (sN)))) (OkQ.again (OkR.step (q4 (st (ex_lss (c := false) rfl rfl (by decide)) (leB rfl) (OkL.nil ?_)))))
    refine q1 (OkC.cond_false rfl (OkC.exit (OkQ.then_exit (OkQ.then_exit (OkQ.in_exit ?_)))))
    refine q2 (mv rfl rfl (asg rfl rfl (OkL.nil (OkQ.subF (sC 9 rfl (sC 23 rfl (sC 11 rfl (sC 8 rfl (sN))))) (OkQ.then_ ?_)))))
    exact OkC.ret (ret_one rfl (rd_tmp (v := (vN pl2)) rfl) (fun w hw => ⟨by rw [← hl0, ← hl1, ← hl2, where_ok n0 n1 n2, e2, e1, e0], hw.out⟩))
theorem Where0_ok (a b c p : Pt) (hs : SzP a + SzP b + SzP c + SzP p ≤ 268435456) (h : turnP a b c = 0) (w : World)  : Calls Tryz.prog 17 #[(aG (ptL a)), (aG (ptL b)), (aG (ptL c)), (aG (ptL p))] w (Gives w (vI 0)) := by
 refine calls_of (args := [(aG (ptL a)), (aG (ptL b)), (aG (ptL c)), (aG (ptL p))]) Tryz.func17 rfl rfl (leB rfl) (OkC.subF (sC 0 rfl (sC 1 rfl (sC 2 rfl (sC 3 rfl (sN))))) (q4 (bx (cs := ptL a) rfl rfl rfl fun b1 => bx (cs := ptL b) rfl rfl rfl fun b2 => bx (cs := ptL c) rfl rfl rfl fun b3 => ?_)))
 refine bx (cs := ptL p) rfl rfl rfl fun b4 => asg rfl rfl (q3 (sC 4 rfl (sC 5 rfl (sC 6 rfl (sC 7 rfl (sC 8 rfl (sN)))))) (ldW 3 tA49 rfl rfl rfl rfl (ldW 2 tA49 rfl rfl rfl rfl (ldW 1 tA49 rfl rfl rfl rfl ?_))))
 refine ldW 0 tA49 rfl rfl rfl rfl (cl Tryz.call37 (fun w hw => Bary0_ok a b c p (by omega) h w) rfl rfl rfl (mv rfl rfl (st (ex_extract (v := (aG (fracL (0 : Rat) ++ fracL (0 : Rat) ++ fracL (0 : Rat)))) rfl rfl) (leB rfl) (st (ex_extract (v := (vI 1)) rfl rfl) (leB rfl) (al tZ61 rfl fun b5 => ?_)))))
 refine stW0 rfl rfl rfl Tryz.sizeOf61 rfl rfl (asg rfl rfl (q6 (sC 8 rfl (sC 9 rfl (sC 10 rfl (sN)))) (q4 (mv rfl rfl (st (ex_neq (c := true) rfl rfl (by decide)) (leB rfl) ?_)))))
 refine OkL.nil (OkQ.subF (sC 8 rfl (sC 9 rfl (sC 22 rfl (sN)))) (OkQ.then_ (OkC.cond_true rfl (q4 (asg rfl rfl ?_)))))
 exact OkL.nil (OkQ.subF (sC 8 rfl (sC 9 rfl (sN))) (OkQ.then_ (OkC.ret (OkQ.then_ret (ret_one rfl (rd_tmp (v := (vI 0)) rfl) (fun w hw => ⟨rfl, hw.out⟩))))))
end
section
set_option maxRecDepth 100000
end
section
def fracsL (qs : List Rat) : List Value := qs.flatMap fracL
theorem fracL_length (q : Rat) : (fracL q).length = 5 := rfl
theorem fracsL_get : ∀ {qs : List Rat} {i : Nat}, i < qs.length → ((fracsL qs).drop (i * 5)).take 5 = fracL (qs.getD i 0)
  | [], i, h => by simp at h
  | q :: qs, 0, _ => by
    simp only [fracsL, List.flatMap_cons, Nat.zero_mul, List.drop_zero, List.getD_cons_zero]
    rw [List.take_append_of_le_length (by rw [fracL_length]; omega), List.take_of_length_le (by rw [fracL_length]; omega)]
  | q :: qs, i + 1, h => by
    have ih := fracsL_get (qs := qs) (i := i) (by simpa using h)
    simp only [fracsL, List.flatMap_cons, List.getD_cons_succ] at ih ⊢
    rw [show (i + 1) * 5 = (fracL q).length + i * 5 by rw [fracL_length]; omega, List.drop_append, List.drop_of_length_le (Nat.le_add_right _ _), List.nil_append, Nat.add_sub_cancel_left]
    exact ih
def accQ (s : Rat) (qs : List Rat) (i : Nat) : Rat := (qs.take i).foldl (· + ·) s
theorem accQ_succ {s : Rat} {qs : List Rat} {i : Nat} (h : i < qs.length) : accQ s qs (i + 1) = accQ s qs i + qs.getD i 0 := by
  unfold accQ
  rw [List.take_add_one, List.foldl_append]
  simp [h]
section
variable {P : Program} {n : Nat} {F : List (Nat × Value)} {w0 : Base} {L : List As} {v : Value} {x : Operand} {d : Option Tmp} {t : TypeId} {p : String} {af : Array Edge} {g : Option (Nat × Bool)}
theorem ex_nilCheck {a : Addr} (hx : evF F x = some (.pointer (some a))) : Ex P n F w0 L ⟨d, .nilCheck x, t, p, af, g⟩ (.pointer (some a)) := fun A w ha _ => by
  simp [execOp, ha.ev hx]
theorem op_callF {f : FuncId} {xs : List Operand} {first args caps all : List Value} {ts : Array TypeId} (hf : evF F x = some (.func (.func f) first.toArray caps.toArray)) (hargs : xs.map (evF F) = args.map some)
    (hall : first ++ args ++ caps = all) (hc : ∀ args w, (callFunc f args).run P w = .ok (.enter f args) w) :
    ∀ a w, Frm n a F → Own w0 w L → (execOp a.eval ⟨d, .call { callee := .value x, args := xs.toArray, argTypes := ts }, t, p, af, g⟩).run P w = .ok (.enter f all.toArray) w := fun A w ha _ => by
  have e1 : xs.toArray.map A.eval = args.toArray := by rw [← evals_of ha hargs]; simp
  subst hall
  simp [execOp, resolve, ha.ev hf, Deferred.ofValue, e1, invoke, hc]
end
end
section
set_option maxRecDepth 100000
theorem total_add_ok (s a : Rat) (g : Nat) (hs : Sz s + Sz a ≤ 549755813888) (w : World) (hg : w.heap[g]? = some (.cells (fracL s).toArray 89 (0, 0))) : Calls Tryz.prog 29 #[(pP g 0), (aG (fracL a))] w (fun e w' => e = .returned (.tuple #[]) ∧ w.grownBy w' (some g) ∧ w'.heap[g]? = some (.cells (fracL (s + a)).toArray 89 (0, 0))) := by
 refine calls_ofM (args := [(pP g 0), (aG (fracL a))]) (g := g) (T := 89) (cs := fracL s) Tryz.func29 rfl rfl (leB rfl) hg (OkC.subF (sC 0 rfl (sC 1 rfl (sN))) (q4 (bx (cs := fracL a) rfl rfl rfl fun b1 => OkL.nil (OkQ.subF (sC 0 rfl (sC 3 rfl (sN))) ?_))))
 refine OkQ.then_ (rG [(0, true), (1, true), (2, true), (3, true), (5, true), (4, false), (6, false), (7, true), (8, true), (9, false)] (sk (sl sr)) (by kernel_rfl) (fun _ _ d _ _ h => by cases d <;> exact h) (pM rfl rfl rfl (pM rfl rfl rfl (pE (v := (pP g 0)) rfl (ex_nilCheck rfl) rfl (pE (v := (pP g 0)) rfl (ex_fieldAddr rfl Tryz.underlying89 rfl Tryz.sizeOf47 rfl) rfl ?_)))))
 refine pW 0 tA47 rfl rfl rfl rfl rfl (OkE.imp rfl (ldW 1 tA47 rfl rfl rfl rfl (OkE.back (sk (sl sr)) (OkE.imp rfl ?_))))
 have hz1 := Sz_add s a
 refine cl Tryz.call52 (fun w hw => fAdd_ok s a (by (try simp only [Sz_neg]); omega) w) rfl rfl rfl (OkE.back (sk (sl sr)) (pE (v := (pP g 0)) rfl (ex_nilCheck rfl) rfl (pE (v := (pP g 0)) rfl (ex_fieldAddr rfl Tryz.underlying89 rfl Tryz.sizeOf47 rfl) rfl (OkE.imp rfl (stW1 rfl rfl rfl Tryz.sizeOf47 rfl rfl ?_)))))
 exact OkE.back (sk (sl sr)) (OkE.nil (OkQ.subF (sN) (ret_none (.inr rfl) rfl  (fun w hw => ⟨rfl, hw.1, hw.get (i := 1) rfl⟩))))
theorem each_add_ok (s : Rat) (qs : List Rat) (g bl n c : Nat) (hn : n ≤ qs.length) (hN : n < 4611686018427387904) (hB : ∀ i, i < n → Sz (accQ s qs i) + Sz (qs.getD i 0) ≤ 549755813888) (hne : bl ≠ g) (w : World) (hg : w.heap[g]? = some (.cells (fracL s).toArray 89 (0, 0))) (hl : w.heap[bl]? = some (.cells (fracsL qs).toArray 47 (0, 0))) : Calls Tryz.prog 28 #[(Value.func (.func 29) #[(pP g 0)] #[]), (Value.slice (some ⟨bl, 0, none⟩) n c)] w (fun e w' => e = .returned (.tuple #[]) ∧ w.grownBy w' (some g) ∧ w'.heap[g]? = some (.cells (fracL (accQ s qs n)).toArray 89 (0, 0))) := by
 refine calls_ofM (args := [(Value.func (.func 29) #[(pP g 0)] #[]), (Value.slice (some ⟨bl, 0, none⟩) n c)]) (g := g) (T := 89) (cs := fracL s) Tryz.func28 rfl rfl (leB rfl) hg (OkC.subF (sC 0 rfl (sC 1 rfl (sN))) (q4 (mv rfl rfl (st (v := (vN n)) (ex_len_slice rfl Tryz.underlying87) (leB rfl) (mv rfl rfl ?_)))))
 refine OkL.nil (OkQ.subF (sC 0 rfl (sC 6 rfl (sC 7 rfl (sC 8 rfl (sN))))) (OkQ.then_ (OkC.block (OkC.sub (F' := [(0, (Value.func (.func 29) #[(pP g 0)] #[])), (6, (Value.slice (some ⟨bl, 0, none⟩) n c)), (7, (vN n)), (8, (vI 0))]) (L' := [blk g 89 (fracL s)]) (sF rfl) (List.Sublist.refl _) ?_))))
 refine OkC.loop2 (J := fun (i : Nat) (q : Rat) => i ≤ n ∧ q = accQ s qs i) (FI := fun (i : Nat) (q : Rat) => [(0, (Value.func (.func 29) #[(pP g 0)] #[])), (6, (Value.slice (some ⟨bl, 0, none⟩) n c)), (7, (vN n)), (8, (vN i))]) (LI := fun (i : Nat) (q : Rat) => [blk g 89 (fracL q)]) (m := fun (i : Nat) (q : Rat) => n - i) (fun i q hJ => ?_) 0 s (⟨Nat.zero_le _, rfl⟩)
 replace hJ : i ≤ n ∧ q = accQ s qs i := hJ
 obtain ⟨hi, hq⟩ := hJ
 refine OkC.sub (F' := [(0, (Value.func (.func 29) #[(pP g 0)] #[])), (6, (Value.slice (some ⟨bl, 0, none⟩) n c)), (7, (vN n)), (8, (vN i))]) (L' := [blk g 89 (fracL q)]) (sF rfl) (List.Sublist.refl _) (q4 (st (ex_lss (c := (decide (i < n))) rfl rfl (ltN (a := i) (b := n))) (leB rfl) (OkL.nil (q1 ?_))))
 refine OkC.cond rfl (fun hc0 => ?_) (fun hc0 => ?_)
 ·replace hc0 := of_decide_eq_true hc0
  refine OkC.skip (q1 (OkC.block (q4 (st (v := (pP bl (i * 5))) (ex_indexAddr_slice (j := i) rfl rfl Tryz.underlying87 Tryz.sizeOf47 rfl (by omega) (by simp)) (leB rfl) (st (v := (aG (fracL (qs.getD i 0)))) (ex_load_agg_at (vs := fracL (qs.getD i 0)) rfl (fun w' hw => by have h9 := ca_of_row (off := i * 5) (k := 5) (hw.old (by simpa using hne) hl); rwa [fracsL_get (by omega)] at h9) Tryz.isAgg47 Tryz.sizeOf47 rfl) (leB rfl) ?_)))))
  refine al tZ47 rfl fun b1 => stW0 rfl rfl rfl Tryz.sizeOf47 rfl rfl (OkL.nil (OkQ.subF (sC 0 rfl (sC 6 rfl (sC 7 rfl (sC 8 rfl (sC 5 rfl (sN)))))) (OkQ.then_ (OkC.region ?_))))
  refine mv rfl rfl (ldW 0 tA47 rfl rfl rfl rfl ?_)
  have hB2 := hB i hc0
  rw [← hq] at hB2
  refine OkL.callM (v := (Value.tuple #[])) (i := 1) (cs' := fracL (q + (qs.getD i 0))) (L' := [blk b1 47 (fracL (qs.getD i 0)), blk g 89 (fracL (q + (qs.getD i 0)))]) (wt_none rfl) (op_callF (first := [(pP g 0)]) (args := [(aG (fracL (qs.getD i 0)))]) (caps := []) (all := [(pP g 0), (aG (fracL (qs.getD i 0)))]) rfl rfl rfl Tryz.call29) rfl (fun w hw => total_add_ok q (qs.getD i 0) _ (by omega) w (hw.get (i := 1) rfl)) (fun d hd => by cases hd <;> exact (leB rfl)) rfl (OkL.nil (OkQ.subF (sC 0 rfl (sC 6 rfl (sC 7 rfl (sC 8 rfl (sC 5 rfl (sN)))))) (OkQ.in_normal (OkQ.then_ (OkC.region ?_)))))
  exact st (ex_add (c := ((i + 1 : Nat) : Int)) rfl rfl (addN_i64 (a := i) (b := 1) (by omega))) (leB rfl) (mv rfl rfl (OkL.nil (OkQ.subF (sC 0 rfl (sC 6 rfl (sC 7 rfl (sC 8 rfl (sC 5 rfl (sN)))))) (OkQ.round2 (i + 1) (q + qs.getD i 0) (⟨by omega, by rw [accQ_succ (by omega), hq]⟩) (by omega) (sS rfl (sS rfl (sS rfl (sS rfl (sN))))) (sl sr)))))
 ·replace hc0 := of_decide_eq_false hc0
  have hin : i = n := by omega
  have hqn : q = accQ s qs n := by rw [hq, hin]
  exact OkC.exit (OkQ.then_exit (OkQ.round2_exit (OkQ.in_exit (ret_none (.inr rfl) rfl  (fun w hw => ⟨rfl, hw.1, by rw [← hqn]; exact hw.get (i := 0) rfl⟩)))))
end
section
set_option maxRecDepth 100000
theorem heap_lt {w : World} {b : Nat} {o : Obj} (h : w.heap[b]? = some o) : b < w.heap.size := by
 rcases Nat.lt_or_ge b w.heap.size with h1 | h1
 ·exact h1
 ·rw [Array.getElem?_eq_none h1] at h; cases h
theorem Sum_ok (qs : List Rat) (bl n c : Nat) (hn : n ≤ qs.length) (hN : n < 4611686018427387904) (hB : ∀ i, i < n → Sz (accQ 0 qs i) + Sz (qs.getD i 0) ≤ 549755813888) (w : World) (hl : w.heap[bl]? = some (.cells (fracsL qs).toArray 47 (0, 0))) : Calls Tryz.prog 10 #[(Value.slice (some ⟨bl, 0, none⟩) n c)] w (Gives w (aG (fracL (accQ 0 qs n)))) := by
 refine calls_of (args := [(Value.slice (some ⟨bl, 0, none⟩) n c)]) Tryz.func10 rfl rfl (leB rfl) (OkC.subF (sC 0 rfl (sN)) (q4 (al tZ47 rfl fun b1 => OkL.nil (q2 ?_))))
 refine al tZ89 rfl fun b2 => OkL.nil (q2 (st (v := (Value.func (.func 29) #[(pP b2 0)] #[])) (ex_makeFunc (vs := [(pP b2 0)]) (us := []) rfl rfl) (leB rfl) (mv rfl rfl (OkL.callM (v := (Value.tuple #[])) (i := 0) (cs' := fracL (accQ 0 qs n)) (L' := [blk b2 89 (fracL (accQ 0 qs n)), blk b1 47 (fracL (0 : Rat))]) (wt_none rfl) (op_call0 (args := [(Value.func (.func 29) #[(pP b2 0)] #[]), (Value.slice (some ⟨bl, 0, none⟩) n c)]) rfl rfl Tryz.call28) rfl (fun w hw => each_add_ok 0 qs _ bl n _ hn hN hB (Nat.ne_of_lt (Nat.lt_of_lt_of_le (heap_lt hl) (hw.fresh (i := 0) rfl))) w (hw.get (i := 0) rfl) (hw.old (by simp) hl)) (fun d hd => by cases hd <;> exact (leB rfl)) rfl ?_))))
 refine q3 (sC 2 rfl (sC 3 rfl (sN))) (st (v := (pP b2 0)) (ex_fieldAddr rfl Tryz.underlying89 rfl Tryz.sizeOf47 rfl) (leB rfl) (ldW 0 tA47 rfl rfl rfl rfl (stW1 rfl rfl rfl Tryz.sizeOf47 rfl rfl (OkL.nil (OkQ.subF (sC 2 rfl (sC 3 rfl (sN))) ?_)))))
 exact OkQ.then_ (OkC.ret (ret_one rfl (rd_agg (i := 1) (cs := fracL (accQ 0 qs n)) rfl rfl Tryz.isAgg47 Tryz.sizeOf47 rfl) (fun w hw => ⟨rfl, hw.out⟩)))
theorem accQ3 (x y z : Rat) : accQ 0 [x, y, z] 3 = x + y + z := by simp [accQ, Rat.zero_add]
theorem accQ_Sz (x y z : Rat) : ∀ i, i < 3 → Sz (accQ 0 [x, y, z] i) + Sz (([x, y, z] : List Rat).getD i 0) ≤ Sz x + Sz y + Sz z + 3
 | 0, _ => by
  have h : Sz (0 : Rat) ≤ 1 := by decide +kernel
  show Sz (0 : Rat) + Sz x ≤ _
  omega
 | 1, _ => by
  have e : accQ 0 [x, y, z] 1 = x := by simp [accQ, Rat.zero_add]
  rw [e]
  show Sz x + Sz y ≤ _
  omega
 | 2, _ => by
  have e : accQ 0 [x, y, z] 2 = x + y := by simp [accQ, Rat.zero_add]
  have h := Sz_add x y
  rw [e]
  show Sz (x + y) + Sz z ≤ _
  omega
 | n + 3, h => by omega
theorem Sum3_ok (x y z : Rat) (bl c : Nat) (h : Sz x + Sz y + Sz z ≤ 137438953472) (w : World) (hl : w.heap[bl]? = some (.cells (fracsL [x, y, z]).toArray 47 (0, 0))) : Calls Tryz.prog 10 #[.slice (some ⟨bl, 0, none⟩) 3 c] w (Gives w (.agg (fracL (x + y + z)).toArray)) := by
 have h1 := Sum_ok [x, y, z] bl 3 c (by simp) (by omega) (fun i hi => Nat.le_trans (accQ_Sz x y z i hi) (by omega)) w hl
 rwa [accQ3] at h1
theorem fillS_3 (x0 x1 x2 : Rat) : Instr.fill (fun i => some (i * 5, 5)) ((Array.range (3 * 5)).map ((Value.agg (fracL (0 : Rat)).toArray).cells[· % (Value.agg (fracL (0 : Rat)).toArray).cells.size]!)) [(0, .agg (fracL x0).toArray), (1, .agg (fracL x1).toArray), (2, .agg (fracL x2).toArray)] = some (fracsL [x0, x1, x2]).toArray := by kernel_rfl
end
section
set_option maxRecDepth 100000
end
section
set_option maxRecDepth 100000
end
section
set_option maxRecDepth 100000
end
section
set_option maxRecDepth 100000
end
section
section
variable {P : Program} {n : Nat} {F : List (Nat × Value)} {w0 : Base} {L : List As} {v : Value} {x lo hi : Operand} {d : Option Tmp} {t : TypeId} {p : String} {af : Array Edge} {g : Option (Nat × Bool)}
theorem ex_slice_string {s r : ByteArray} {ki kj : IntKind} {i j : Nat} {tx : TypeId} (hx : evF F x = some (.string s)) (hl : evF F lo = some (.int ki (i : Nat))) (hh : evF F hi = some (.int kj (j : Nat))) (hu : P.underlying tx = some .string) (h1 : i ≤ j) (h2 : j ≤ s.size) (hr : s.extract i j = r) :
    Ex P n F w0 L ⟨d, .slice tx x (some lo) (some hi) none, t, p, af, g⟩ (.string r) := fun A w ha _ => by
  subst hr
  simp only [execOp, ha.ev hx, Instr.sliceAt, run_underlying hu, Instr.slice, Option.map_some, Option.map_none, ha.ev hl, ha.ev hh, Instr.sliceBounds, Instr.sliceBound, asIntOf, Sem.run_bind, Result.andThen_ok, Sem.run_pure]
  simp [h1, h2]
end
def dig (n : Nat) : ByteArray := ⟨#[UInt8.ofNat (48 + n)]⟩
theorem dig_of {s : ByteArray} (h : ((List.range 10).all fun n => (s.extract n (n + 1)).data.toList == (dig n).data.toList) = true) {n : Nat} (hn : n < 10) : s.extract n (n + 1) = dig n := by
  have h1 := List.all_eq_true.1 h n (List.mem_range.2 hn)
  have h2 : (s.extract n (n + 1)).data.toList = (dig n).data.toList := by simpa using h1
  cases hA : s.extract n (n + 1) with | mk da => cases hB : dig n with | mk db =>
    rw [hA, hB] at h2
    congr 1
    exact Array.toList_inj.1 h2
def textI (z : Int) : ByteArray := if z < 0 then ⟨#[45]⟩ ++ dig z.natAbs else dig z.natAbs
def textQ (q : Rat) : ByteArray := if q.den - 1 = 0 then textI q.num else textI q.num ++ ⟨#[47]⟩ ++ dig q.den
theorem dig_size (n : Nat) : (dig n).size = 1 := rfl
theorem textI_size (z : Int) : (textI z).size ≤ 2 := by
  unfold textI
  split
  · rw [ByteArray.size_append]; exact Nat.le_refl 2
  · exact Nat.le_succ 1
end
section
set_option maxRecDepth 100000
theorem small_ok (n : Nat) (hn : n < 10) (w : World)  : Calls Tryz.prog 131 #[(vN n)] w (Gives w (Value.string (dig n))) := by
 refine calls_of (args := [(vN n)]) Tryz.func131 rfl rfl (leB rfl) (OkC.subF (sC 0 rfl (sN)) (q4 (asg rfl rfl (OkL.nil (q1 ?_)))))
 refine q4 (mv rfl rfl (st (ex_lss (c := (decide (n < 10))) rfl rfl (ltN (a := n) (b := 10))) (leB rfl) (OkL.nil (OkQ.subF (sC 0 rfl (sC 2 rfl (sC 4 rfl (sN)))) (OkQ.then_ ?_)))))
 refine OkC.cond rfl (fun hc0 => ?_) (fun hc0 => ?_)
 ·replace hc0 := of_decide_eq_true hc0
  refine q4 (mv rfl rfl (mv rfl rfl (st (ex_add (c := ((n + 1 : Nat) : Int)) rfl rfl (addN_i64 (a := n) (b := 1) (by omega))) (leB rfl) (st (v := (Value.string (dig n))) (ex_slice_string (i := n) (j := n + 1) rfl rfl rfl Tryz.underlying9 (by omega) (Nat.le_trans (show n + 1 ≤ 10 by omega) (by decide)) (dig_of (by kernel_rfl) hn)) (leB rfl) (asg rfl rfl ?_)))))
  exact OkL.nil (OkQ.subF (sC 0 rfl (sC 2 rfl (sN))) (OkQ.then_ (OkC.ret (OkQ.then_ret (ret_one rfl (rd_tmp (v := (Value.string (dig n))) rfl) (fun w hw => ⟨rfl, hw.out⟩))))))
 ·replace hc0 := of_decide_eq_false hc0
  exfalso; omega
theorem iformat_ok (n : Nat) (hn : n < 10) (w : World)  : Calls Tryz.prog 117 #[(vK .u64 n), (vI 10)] w (Gives w (Value.string (dig n))) := by
 refine calls_of (args := [(vK .u64 n), (vI 10)]) Tryz.func117 rfl rfl (leB rfl) (OkC.subF (sC 0 rfl (sC 1 rfl (sN))) (q4 (asg rfl rfl (OkL.nil (q1 ?_)))))
 refine q4 (mv rfl rfl (st (ex_eql (c := true) rfl rfl (by decide)) (leB rfl) (OkL.nil (OkQ.subF (sC 0 rfl (sC 1 rfl (sC 4 rfl (sC 10 rfl (sN))))) (OkQ.then_ ?_)))))
 refine OkC.cond_true rfl (OkC.seq (q4 (mv rfl rfl (st (ex_lss (c := (decide (n < 100))) rfl rfl (ltN (a := n) (b := 100))) (leB rfl) (OkL.nil ?_)))))
 refine OkQ.subF (sC 0 rfl (sC 1 rfl (sC 4 rfl (sC 12 rfl (sN))))) (OkQ.then_ ?_)
 refine OkC.cond rfl (fun hc1 => ?_) (fun hc1 => ?_)
 ·replace hc1 := of_decide_eq_true hc1
  refine q4 (mv rfl rfl (st (ex_conv (c := ((n : Nat) : Int)) rfl Tryz.underlying39 Tryz.underlying3 (convN_i64 (by omega))) (leB rfl) (cl Tryz.call131 (fun w hw => small_ok n (by omega) w) rfl rfl rfl (asg rfl rfl (OkL.nil ?_)))))
  exact OkQ.subF (sC 0 rfl (sC 1 rfl (sC 4 rfl (sN)))) (OkQ.then_ (OkC.ret (OkQ.then_ret (OkQ.then_ret (ret_one rfl (rd_tmp (v := (Value.string (dig n))) rfl) (fun w hw => ⟨rfl, hw.out⟩))))))
 ·replace hc1 := of_decide_eq_false hc1
  exfalso; omega
theorem format_ok (n : Nat) (hn : n < 10) (w : World)  : Calls Tryz.prog 93 #[(vK .u64 n), (vI 10)] w (Gives w (Value.string (dig n))) := by
 refine calls_of (args := [(vK .u64 n), (vI 10)]) Tryz.func93 rfl rfl (leB rfl) (OkC.subF (sC 0 rfl (sC 1 rfl (sN))) (q4 (asg rfl rfl (OkL.nil (q2 ?_)))))
 refine mv rfl rfl (mv rfl rfl (cl Tryz.call117 (fun w hw => iformat_ok n (by omega) w) rfl rfl rfl (asg rfl rfl (OkL.nil (OkQ.subF (sC 4 rfl (sN)) ?_)))))
 exact OkQ.then_ (OkC.ret (ret_one rfl (rd_tmp (v := (Value.string (dig n))) rfl) (fun w hw => ⟨rfl, hw.out⟩)))
theorem nText_ok (n : Nat) (hn : n < 10) (w : World)  : Calls Tryz.prog 73 #[(aG (natL n))] w (Gives w (Value.string (dig n))) := by
 refine calls_of (args := [(aG (natL n))]) Tryz.func73 rfl rfl (leB rfl) (OkC.subF (sC 0 rfl (sN)) (q4 (bx (cs := natL n) rfl rfl rfl fun b1 => asg rfl rfl (q6 (sC 1 rfl (sC 2 rfl (sN))) ?_))))
 refine q4 (st (v := (pP b1 1)) (ex_fieldAddr rfl Tryz.underlying41 rfl Tryz.sizeOf9 rfl) (leB rfl) (ldO 0 (Value.string (bigB n)) tO9 rfl rfl rfl rfl (st (ex_eql_string (c := (decide (n < 18446744073709551616))) rfl rfl bigB_empty) (leB rfl) (OkL.nil (OkQ.subF (sC 1 rfl (sC 2 rfl (sC 10 rfl (sN)))) ?_)))))
 refine OkQ.then_ ?_
 refine OkC.cond rfl (fun hc0 => ?_) (fun hc0 => ?_)
 ·replace hc0 := of_decide_eq_true hc0
  refine q4 (st (v := (pP b1 0)) (ex_fieldAddr rfl Tryz.underlying41 rfl Tryz.sizeOf39 rfl) (leB rfl) (ldO 0 (vK .u64 (lowN n)) tO39 rfl rfl rfl rfl (OkL.retell (k := 12) (u := (vK .u64 n)) rfl (by rw [lowN_small (by omega)]) (cl Tryz.call93 (fun w hw => format_ok n (by omega) w) rfl rfl rfl (asg rfl rfl ?_)))))
  exact OkL.nil (OkQ.subF (sC 1 rfl (sC 2 rfl (sN))) (OkQ.then_ (OkC.ret (OkQ.then_ret (ret_one rfl (rd_tmp (v := (Value.string (dig n))) rfl) (fun w hw => ⟨rfl, hw.out⟩))))))
 ·replace hc0 := of_decide_eq_false hc0
  exfalso; omega
theorem iText_ok (z : Int) (hz : z.natAbs < 10) (w : World)  : Calls Tryz.prog 72 #[(aG (intL z))] w (Gives w (Value.string (textI z))) := by
 refine calls_of (args := [(aG (intL z))]) Tryz.func72 rfl rfl (leB rfl) (OkC.subF (sC 0 rfl (sN)) (q4 (bx (cs := intL z) rfl rfl rfl fun b1 => asg rfl rfl (q6 (sC 1 rfl (sC 2 rfl (sN))) ?_))))
 refine q4 (st (v := (pP b1 2)) (ex_fieldAddr rfl Tryz.underlying45 rfl Tryz.sizeOf4 rfl) (leB rfl) (ldO 0 (Value.bool (decide (z < 0))) tO4 rfl rfl rfl rfl (OkL.nil (OkQ.subF (sC 1 rfl (sC 2 rfl (sC 4 rfl (sN)))) (OkQ.then_ ?_)))))
 refine OkC.cond rfl (fun hc0 => ?_) (fun hc0 => ?_)
 ·replace hc0 := of_decide_eq_true hc0
  have he : textI z = ⟨#[45]⟩ ++ dig z.natAbs := if_pos hc0
  refine q4 (st (v := (pP b1 0)) (ex_fieldAddr rfl Tryz.underlying45 rfl Tryz.sizeOf43 rfl) (leB rfl) (st (v := (pP b1 0)) (ex_fieldAddr rfl Tryz.underlying43 rfl Tryz.sizeOf41 rfl) (leB rfl) (ldA 0 (natL z.natAbs) tA41 rfl rfl rfl rfl rfl (cl Tryz.call73 (fun w hw => nText_ok z.natAbs (by omega) w) rfl rfl rfl (st (v := (Value.string (ByteArray.mk #[45] ++ dig z.natAbs))) (ex_add_string (r := (ByteArray.mk #[45] ++ dig z.natAbs)) rfl rfl (by rw [dig_size]; decide) rfl) (leB rfl) ?_)))))
  exact asg rfl rfl (OkL.nil (OkQ.subF (sC 1 rfl (sC 2 rfl (sN))) (OkQ.then_ (OkC.ret (OkQ.then_ret (ret_one rfl (rd_tmp (v := (Value.string (ByteArray.mk #[45] ++ dig z.natAbs))) rfl) (fun w hw => ⟨by rw [he], hw.out⟩)))))))
 ·replace hc0 := of_decide_eq_false hc0
  have he : textI z = dig z.natAbs := if_neg hc0
  refine OkC.skip (q2 (st (v := (pP b1 0)) (ex_fieldAddr rfl Tryz.underlying45 rfl Tryz.sizeOf43 rfl) (leB rfl) (st (v := (pP b1 0)) (ex_fieldAddr rfl Tryz.underlying43 rfl Tryz.sizeOf41 rfl) (leB rfl) (ldA 0 (natL z.natAbs) tA41 rfl rfl rfl rfl rfl (cl Tryz.call73 (fun w hw => nText_ok z.natAbs (by omega) w) rfl rfl rfl ?_)))))
  exact asg rfl rfl (OkL.nil (OkQ.subF (sC 1 rfl (sC 2 rfl (sN))) (OkQ.then_ (OkC.ret (ret_one rfl (rd_tmp (v := (Value.string (dig z.natAbs))) rfl) (fun w hw => ⟨by rw [he], hw.out⟩))))))
theorem fText_ok (q : Rat) (hn : q.num.natAbs < 10) (hd : q.den < 10) (w : World)  : Calls Tryz.prog 42 #[(aG (fracL q))] w (Gives w (Value.string (textQ q))) := by
 have hs := textI_size q.num
 have hdn : nw q.den ≤ 1099511627776 := Nat.le_trans (nw_small (by omega)) (by omega)
 refine calls_of (args := [(aG (fracL q))]) Tryz.func42 rfl rfl (leB rfl) (OkC.subF (sC 0 rfl (sN)) (q4 (bx (cs := fracL q) rfl rfl rfl fun b1 => asg rfl rfl (q6 (sC 1 rfl (sC 2 rfl (sN))) ?_))))
 refine q4 (ldW 0 tA47 rfl rfl rfl rfl (cl Tryz.call32 (fun w hw => Whole_ok q w) rfl rfl rfl (OkL.nil (OkQ.subF (sC 1 rfl (sC 2 rfl (sC 4 rfl (sN)))) (OkQ.then_ ?_)))))
 refine OkC.cond rfl (fun hc0 => ?_) (fun hc0 => ?_)
 ·replace hc0 := of_decide_eq_true hc0
  have he : textQ q = textI q.num := if_pos hc0
  refine q4 (st (v := (pP b1 0)) (ex_fieldAddr rfl Tryz.underlying47 rfl Tryz.sizeOf45 rfl) (leB rfl) (ldA 0 (intL q.num) tA45 rfl rfl rfl rfl rfl (cl Tryz.call72 (fun w hw => iText_ok q.num (by omega) w) rfl rfl rfl (asg rfl rfl (OkL.nil ?_)))))
  exact OkQ.subF (sC 1 rfl (sC 2 rfl (sN))) (OkQ.then_ (OkC.ret (OkQ.then_ret (ret_one rfl (rd_tmp (v := (Value.string (textI q.num))) rfl) (fun w hw => ⟨by rw [he], hw.out⟩)))))
 ·replace hc0 := of_decide_eq_false hc0
  have he : textQ q = textI q.num ++ ⟨#[47]⟩ ++ dig q.den := if_neg hc0
  refine OkC.skip (q1 (rG [(0, true), (1, true), (4, true), (2, false), (3, true), (5, false), (6, false), (7, true), (8, true)] sr (by kernel_rfl) (fun _ _ d _ _ h => by cases d <;> exact h) (pE (v := (pP b1 0)) rfl (ex_fieldAddr rfl Tryz.underlying47 rfl Tryz.sizeOf45 rfl) rfl (pA 0 (intL q.num) tA45 rfl rfl rfl rfl rfl rfl (pW 0 tA47 rfl rfl rfl rfl rfl ?_)))))
  refine OkE.imp rfl (cl Tryz.call72 (fun w hw => iText_ok q.num (by omega) w) rfl rfl rfl (OkE.back sr (pE (v := (Value.string (textI q.num ++ ByteArray.mk #[47]))) rfl (ex_add_string (r := (textI q.num ++ ByteArray.mk #[47])) rfl rfl (Nat.le_trans (Nat.add_le_add_right hs 1) (by decide)) rfl) rfl (OkE.imp rfl (cl Tryz.call27 (fun w hw => den_ok q (by omega) w) rfl rfl rfl ?_)))))
  refine OkE.back sr (OkE.imp rfl (cl Tryz.call73 (fun w hw => nText_ok q.den (by omega) w) rfl rfl rfl (OkE.back sr (pE (v := (Value.string (textI q.num ++ ByteArray.mk #[47] ++ dig q.den))) rfl (ex_add_string (r := (textI q.num ++ ByteArray.mk #[47] ++ dig q.den)) rfl rfl (by rw [ByteArray.size_append, dig_size]; exact Nat.le_trans (Nat.add_le_add_right (Nat.add_le_add_right hs 1) 1) (by decide)) rfl) rfl (pS rfl rfl rfl ?_)))))
  exact OkE.nil (OkQ.subF (sC 1 rfl (sC 2 rfl (sN))) (OkQ.then_ (OkC.ret (ret_one rfl (rd_tmp (v := (Value.string (textI q.num ++ ByteArray.mk #[47] ++ dig q.den))) rfl) (fun w hw => ⟨by rw [he], hw.out⟩)))))
end
end Go.Proofs.YtmejjgmpkelaiaaGreatDoor
