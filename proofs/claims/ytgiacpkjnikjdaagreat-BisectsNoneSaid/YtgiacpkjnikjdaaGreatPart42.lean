import Derived.Test.YtgiacpkjnikjdaaGreatPart06
import Derived.Test.YtgiacpkjnikjdaaGreatPart27
import Derived.Test.YtgiacpkjnikjdaaGreatPart35
namespace Go.Proofs.YtgiacpkjnikjdaaGreat
open Go Go.RowKit
set_option linter.unusedVariables false
set_option linter.unusedSimpArgs false
section
set_option maxRecDepth 100000
theorem smP_ok (p : Pt) (w : World)  : Calls Tryz.prog 58 #[(aG (ptL p)), (aG (ptL p))] w (Gives w (Value.bool true)) := by
 refine calls_of (args := [(aG (ptL p)), (aG (ptL p))]) Tryz.func58 rfl rfl (leB rfl) (OkC.subF (sL [0, 1] rfl) (q4 (bx' (cs := ptL p) rfl fun b1 => bx' (cs := ptL p) rfl fun b2 => asg' rfl ?_)))
 refine q3 (sL [2, 3, 4] rfl) (ldW' 1 tA83 rfl (ldW' 0 tA83 rfl (st' (ex_eql_agg (c := true) rfl rfl Tryz.eqGuardType83 (eqB_pt_t 9994 rfl)) rfl (asg' rfl (OkL.nil ?_)))))
 exact OkQ.subF (sL [4] rfl) (OkQ.then_ (OkC.ret (ret_one rfl (rd_tmp (v := (Value.bool true)) rfl) (fun w hw => ⟨rfl, hw.out⟩))))
theorem sameP_ok (xs : List Pt) (x y : RX (rowsL ptL xs) xs.length) (hl : xs.length ≤ 1000000) (w : World) {S : Nat → Prop} (hx : Ro S w x) (hy : Ro S w y) : Calls Tryz.prog 57 #[(Value.slice x.p xs.length x.c), (Value.slice y.p xs.length y.c), (Value.func (.func 58) #[] #[])] w (Gives w (Value.bool true)) := by
 have lx := atA (W := w) hx
 have ly := atA (W := w) hy
 refine calls_ofR (args := [(Value.slice x.p xs.length x.c), (Value.slice y.p xs.length y.c), (Value.func (.func 58) #[] #[])]) (L := [rowR x.p (rowsL ptL xs), rowR y.p (rowsL ptL xs)]) Tryz.func57 rfl rfl (leB rfl) (sxA hx (sxA hy roL_nil)) (OkC.subF (sL [0, 1, 2] rfl) (q4 (asg' rfl (OkL.nil (q1 ?_)))))
 refine q4 (mv' rfl (st' (v := (vN xs.length)) (ex_len_slice rfl Tryz.underlying27) rfl (mv' rfl (st' (v := (vN xs.length)) (ex_len_slice rfl Tryz.underlying27) rfl (st' (ex_neq (c := false) rfl rfl (decide_eq_false (by omega))) rfl ?_)))))
 refine OkL.nil (OkQ.subF (sL [0, 1, 2, 6, 12] rfl) (OkQ.then_ (OkC.cond_false rfl (OkC.skip (q1 ?_)))))
 refine q4 (mv' rfl (st' (v := (vN xs.length)) (ex_len_slice rfl Tryz.underlying27) rfl (mv' rfl (OkL.nil (OkQ.subF (sL [0, 1, 2, 6, 14, 15] rfl) ?_)))))
 refine OkQ.then_ (OkC.block ?_)
 refine OkC.lp1 (tg fun (j : Nat) => j ≤ xs.length) (tg fun (j : Nat) => [(0, (Value.slice x.p xs.length x.c)), (1, (Value.slice y.p xs.length y.c)), (2, (Value.func (.func 58) #[] #[])), (14, (vN xs.length)), (15, (vN j))]) (tg fun (j : Nat) => [rowR x.p (rowsL ptL xs), rowR y.p (rowsL ptL xs)]) (tg fun (j : Nat) => xs.length - j) 0 (Nat.zero_le _) (sF rfl) sr (fun j hJ => ?_)
 have hj := hJ
 refine q4 (st' (ex_lss (c := (decide (j < xs.length))) rfl rfl (ltN (a := j) (b := xs.length))) rfl (OkL.nil (q1 ?_)))
 refine OkC.cond rfl (fun hc1 => ?_) (fun hc1 => ?_)
 ·replace hc1 := of_decide_eq_true hc1
  refine OkC.skip (q1 (OkC.block (q4 (mv' rfl (asg' rfl ?_)))))
  refine q6 (sL [0, 1, 2, 14, 15, 7] rfl) (rG' [(0, true), (1, true), (2, true), (3, true), (4, true), (5, true), (6, true), (7, true), (8, true), (9, false), (10, true)] sr (pM' rfl (pM' rfl (pM' rfl (pE' (v := (pP (pB x.p) (pO x.p + j * 10))) rfl (ex_index_row (j := j) rfl rfl x.ok Tryz.underlying27 Tryz.sizeOf83 rfl (by omega)) ?_)))))
  refine pE' (v := (aG (ptL (xs.getD j (⟨0, 0⟩ : Pt))))) rfl (ex_load_rowR_agg (vs := ptL (xs.getD j (⟨0, 0⟩ : Pt))) (i := 0) rfl rfl (RowOk.ne x.ok (by omega)) tA83 (rowsL_get ptL_len _ _ _ (by omega)) (ptL_len _)) (pM' rfl (pM' rfl (pE' (v := (pP (pB y.p) (pO y.p + j * 10))) rfl (ex_index_row (j := j) rfl rfl y.ok Tryz.underlying27 Tryz.sizeOf83 rfl (by omega)) (pE' (v := (aG (ptL (xs.getD j (⟨0, 0⟩ : Pt))))) rfl (ex_load_rowR_agg (vs := ptL (xs.getD j (⟨0, 0⟩ : Pt))) (i := 1) rfl rfl (RowOk.ne y.ok (by omega)) tA83 (rowsL_get ptL_len _ _ _ (by omega)) (ptL_len _)) (OkE.imp rfl ?_)))))
  refine ck' Tryz.call58 (smP_ok (xs.getD j (⟨0, 0⟩ : Pt))) rfl (OkE.back sr (pE' rfl (ex_not (c := false) rfl rfl) (OkE.nil (OkQ.subF (sL [0, 1, 2, 14, 15, 28] rfl) (OkQ.then_ ?_)))))
  refine OkC.cond_false rfl (OkC.skip (OkQ.in_normal (OkQ.then_ (OkC.region (st' (ex_add (c := ((j + 1 : Nat) : Int)) rfl rfl (addN_i64 (a := j) (b := 1) (by omega))) rfl ?_)))))
  exact mv' rfl (OkL.nil (OkQ.subF (sL [0, 1, 2, 14, 15] rfl) (OkQ.round1 (j + 1) (by omega) (by omega) (sF rfl) sr)))
 ·replace hc1 := of_decide_eq_false hc1
  refine OkC.exit (OkQ.then_exit (OkQ.round1_exit (OkQ.in_exit (q2 (asg' rfl ?_)))))
  exact OkL.nil (OkQ.then_ (OkC.ret (ret_one rfl (rd_tmp (v := (Value.bool true)) rfl) (fun w hw => ⟨rfl, hw.out⟩))))
theorem smT_ok (p : T3) (w : World)  : Calls Tryz.prog 60 #[(aG (t3L p)), (aG (t3L p))] w (Gives w (Value.bool true)) := by
 refine calls_of (args := [(aG (t3L p)), (aG (t3L p))]) Tryz.func60 rfl rfl (leB rfl) (OkC.subF (sL [0, 1] rfl) (q4 (bx' (cs := t3L p) rfl fun b1 => bx' (cs := t3L p) rfl fun b2 => asg' rfl ?_)))
 refine q3 (sL [2, 3, 4] rfl) (ldW' 1 tA45 rfl (ldW' 0 tA45 rfl (st' (ex_eql_agg (c := true) rfl rfl Tryz.eqGuardType45 (eqB_t3_t (a := p) (b := p) 9998 rfl)) rfl (asg' rfl (OkL.nil ?_)))))
 exact OkQ.subF (sL [4] rfl) (OkQ.then_ (OkC.ret (ret_one rfl (rd_tmp (v := (Value.bool true)) rfl) (fun w hw => ⟨rfl, hw.out⟩))))
theorem sameT_ok (xs : List T3) (x y : RX (rowsL t3L xs) xs.length) (hl : xs.length ≤ 1000000) (w : World) {S : Nat → Prop} (hx : Ro S w x) (hy : Ro S w y) : Calls Tryz.prog 59 #[(Value.slice x.p xs.length x.c), (Value.slice y.p xs.length y.c), (Value.func (.func 60) #[] #[])] w (Gives w (Value.bool true)) := by
 have lx := atA (W := w) hx
 have ly := atA (W := w) hy
 refine calls_ofR (args := [(Value.slice x.p xs.length x.c), (Value.slice y.p xs.length y.c), (Value.func (.func 60) #[] #[])]) (L := [rowR x.p (rowsL t3L xs), rowR y.p (rowsL t3L xs)]) Tryz.func59 rfl rfl (leB rfl) (sxA hx (sxA hy roL_nil)) (OkC.subF (sL [0, 1, 2] rfl) (q4 (asg' rfl (OkL.nil (q1 ?_)))))
 refine q4 (mv' rfl (st' (v := (vN xs.length)) (ex_len_slice rfl Tryz.underlying28) rfl (mv' rfl (st' (v := (vN xs.length)) (ex_len_slice rfl Tryz.underlying28) rfl (st' (ex_neq (c := false) rfl rfl (decide_eq_false (by omega))) rfl ?_)))))
 refine OkL.nil (OkQ.subF (sL [0, 1, 2, 6, 12] rfl) (OkQ.then_ (OkC.cond_false rfl (OkC.skip (q1 ?_)))))
 refine q4 (mv' rfl (st' (v := (vN xs.length)) (ex_len_slice rfl Tryz.underlying28) rfl (mv' rfl (OkL.nil (OkQ.subF (sL [0, 1, 2, 6, 14, 15] rfl) ?_)))))
 refine OkQ.then_ (OkC.block ?_)
 refine OkC.lp1 (tg fun (j : Nat) => j ≤ xs.length) (tg fun (j : Nat) => [(0, (Value.slice x.p xs.length x.c)), (1, (Value.slice y.p xs.length y.c)), (2, (Value.func (.func 60) #[] #[])), (14, (vN xs.length)), (15, (vN j))]) (tg fun (j : Nat) => [rowR x.p (rowsL t3L xs), rowR y.p (rowsL t3L xs)]) (tg fun (j : Nat) => xs.length - j) 0 (Nat.zero_le _) (sF rfl) sr (fun j hJ => ?_)
 have hj := hJ
 refine q4 (st' (ex_lss (c := (decide (j < xs.length))) rfl rfl (ltN (a := j) (b := xs.length))) rfl (OkL.nil (q1 ?_)))
 refine OkC.cond rfl (fun hc1 => ?_) (fun hc1 => ?_)
 ·replace hc1 := of_decide_eq_true hc1
  refine OkC.skip (q1 (OkC.block (q4 (mv' rfl (asg' rfl ?_)))))
  refine q6 (sL [0, 1, 2, 14, 15, 7] rfl) (rG' [(0, true), (1, true), (2, true), (3, true), (4, true), (5, true), (6, true), (7, true), (8, true), (9, false), (10, true)] sr (pM' rfl (pM' rfl (pM' rfl (pE' (v := (pP (pB x.p) (pO x.p + j * 3))) rfl (ex_index_row (j := j) rfl rfl x.ok Tryz.underlying28 Tryz.sizeOf45 rfl (by omega)) ?_)))))
  refine pE' (v := (aG (t3L (xs.getD j ((0, 0, 0) : Nat × Nat × Nat))))) rfl (ex_load_rowR_agg (vs := t3L (xs.getD j ((0, 0, 0) : Nat × Nat × Nat))) (i := 0) rfl rfl (RowOk.ne x.ok (by omega)) tA45 (rowsL_get t3L_len _ _ _ (by omega)) (t3L_len _)) (pM' rfl (pM' rfl (pE' (v := (pP (pB y.p) (pO y.p + j * 3))) rfl (ex_index_row (j := j) rfl rfl y.ok Tryz.underlying28 Tryz.sizeOf45 rfl (by omega)) (pE' (v := (aG (t3L (xs.getD j ((0, 0, 0) : Nat × Nat × Nat))))) rfl (ex_load_rowR_agg (vs := t3L (xs.getD j ((0, 0, 0) : Nat × Nat × Nat))) (i := 1) rfl rfl (RowOk.ne y.ok (by omega)) tA45 (rowsL_get t3L_len _ _ _ (by omega)) (t3L_len _)) (OkE.imp rfl ?_)))))
  refine ck' Tryz.call60 (smT_ok (xs.getD j ((0, 0, 0) : Nat × Nat × Nat))) rfl (OkE.back sr (pE' rfl (ex_not (c := false) rfl rfl) (OkE.nil (OkQ.subF (sL [0, 1, 2, 14, 15, 28] rfl) (OkQ.then_ ?_)))))
  refine OkC.cond_false rfl (OkC.skip (OkQ.in_normal (OkQ.then_ (OkC.region (st' (ex_add (c := ((j + 1 : Nat) : Int)) rfl rfl (addN_i64 (a := j) (b := 1) (by omega))) rfl ?_)))))
  exact mv' rfl (OkL.nil (OkQ.subF (sL [0, 1, 2, 14, 15] rfl) (OkQ.round1 (j + 1) (by omega) (by omega) (sF rfl) sr)))
 ·replace hc1 := of_decide_eq_false hc1
  refine OkC.exit (OkQ.then_exit (OkQ.round1_exit (OkQ.in_exit (q2 (asg' rfl ?_)))))
  exact OkL.nil (OkQ.then_ (OkC.ret (ret_one rfl (rd_tmp (v := (Value.bool true)) rfl) (fun w hw => ⟨rfl, hw.out⟩))))
theorem smS_ok (p : T3) (w : World)  : Calls Tryz.prog 62 #[(aG (t3L p)), (aG (t3L p))] w (Gives w (Value.bool true)) := by
 refine calls_of (args := [(aG (t3L p)), (aG (t3L p))]) Tryz.func62 rfl rfl (leB rfl) (OkC.subF (sL [0, 1] rfl) (q4 (bx' (cs := t3L p) rfl fun b1 => bx' (cs := t3L p) rfl fun b2 => asg' rfl ?_)))
 refine q3 (sL [2, 3, 4] rfl) (ldW' 1 tA66 rfl (ldW' 0 tA66 rfl (st' (ex_eql_agg (c := true) rfl rfl Tryz.eqGuardType66 (eqB_side_t (a := p) (b := p) 9998 rfl)) rfl (asg' rfl (OkL.nil ?_)))))
 exact OkQ.subF (sL [4] rfl) (OkQ.then_ (OkC.ret (ret_one rfl (rd_tmp (v := (Value.bool true)) rfl) (fun w hw => ⟨rfl, hw.out⟩))))
theorem sameS_ok (xs : List T3) (x y : RX (rowsL t3L xs) xs.length) (hl : xs.length ≤ 1000000) (w : World) {S : Nat → Prop} (hx : Ro S w x) (hy : Ro S w y) : Calls Tryz.prog 61 #[(Value.slice x.p xs.length x.c), (Value.slice y.p xs.length y.c), (Value.func (.func 62) #[] #[])] w (Gives w (Value.bool true)) := by
 have lx := atA (W := w) hx
 have ly := atA (W := w) hy
 refine calls_ofR (args := [(Value.slice x.p xs.length x.c), (Value.slice y.p xs.length y.c), (Value.func (.func 62) #[] #[])]) (L := [rowR x.p (rowsL t3L xs), rowR y.p (rowsL t3L xs)]) Tryz.func61 rfl rfl (leB rfl) (sxA hx (sxA hy roL_nil)) (OkC.subF (sL [0, 1, 2] rfl) (q4 (asg' rfl (OkL.nil (q1 ?_)))))
 refine q4 (mv' rfl (st' (v := (vN xs.length)) (ex_len_slice rfl Tryz.underlying29) rfl (mv' rfl (st' (v := (vN xs.length)) (ex_len_slice rfl Tryz.underlying29) rfl (st' (ex_neq (c := false) rfl rfl (decide_eq_false (by omega))) rfl ?_)))))
 refine OkL.nil (OkQ.subF (sL [0, 1, 2, 6, 12] rfl) (OkQ.then_ (OkC.cond_false rfl (OkC.skip (q1 ?_)))))
 refine q4 (mv' rfl (st' (v := (vN xs.length)) (ex_len_slice rfl Tryz.underlying29) rfl (mv' rfl (OkL.nil (OkQ.subF (sL [0, 1, 2, 6, 14, 15] rfl) ?_)))))
 refine OkQ.then_ (OkC.block ?_)
 refine OkC.lp1 (tg fun (j : Nat) => j ≤ xs.length) (tg fun (j : Nat) => [(0, (Value.slice x.p xs.length x.c)), (1, (Value.slice y.p xs.length y.c)), (2, (Value.func (.func 62) #[] #[])), (14, (vN xs.length)), (15, (vN j))]) (tg fun (j : Nat) => [rowR x.p (rowsL t3L xs), rowR y.p (rowsL t3L xs)]) (tg fun (j : Nat) => xs.length - j) 0 (Nat.zero_le _) (sF rfl) sr (fun j hJ => ?_)
 have hj := hJ
 refine q4 (st' (ex_lss (c := (decide (j < xs.length))) rfl rfl (ltN (a := j) (b := xs.length))) rfl (OkL.nil (q1 ?_)))
 refine OkC.cond rfl (fun hc1 => ?_) (fun hc1 => ?_)
 ·replace hc1 := of_decide_eq_true hc1
  refine OkC.skip (q1 (OkC.block (q4 (mv' rfl (asg' rfl ?_)))))
  refine q6 (sL [0, 1, 2, 14, 15, 7] rfl) (rG' [(0, true), (1, true), (2, true), (3, true), (4, true), (5, true), (6, true), (7, true), (8, true), (9, false), (10, true)] sr (pM' rfl (pM' rfl (pM' rfl (pE' (v := (pP (pB x.p) (pO x.p + j * 3))) rfl (ex_index_row (j := j) rfl rfl x.ok Tryz.underlying29 Tryz.sizeOf66 rfl (by omega)) ?_)))))
  refine pE' (v := (aG (t3L (xs.getD j ((0, 0, 0) : Nat × Nat × Nat))))) rfl (ex_load_rowR_agg (vs := t3L (xs.getD j ((0, 0, 0) : Nat × Nat × Nat))) (i := 0) rfl rfl (RowOk.ne x.ok (by omega)) tA66 (rowsL_get t3L_len _ _ _ (by omega)) (t3L_len _)) (pM' rfl (pM' rfl (pE' (v := (pP (pB y.p) (pO y.p + j * 3))) rfl (ex_index_row (j := j) rfl rfl y.ok Tryz.underlying29 Tryz.sizeOf66 rfl (by omega)) (pE' (v := (aG (t3L (xs.getD j ((0, 0, 0) : Nat × Nat × Nat))))) rfl (ex_load_rowR_agg (vs := t3L (xs.getD j ((0, 0, 0) : Nat × Nat × Nat))) (i := 1) rfl rfl (RowOk.ne y.ok (by omega)) tA66 (rowsL_get t3L_len _ _ _ (by omega)) (t3L_len _)) (OkE.imp rfl ?_)))))
  refine ck' Tryz.call62 (smS_ok (xs.getD j ((0, 0, 0) : Nat × Nat × Nat))) rfl (OkE.back sr (pE' rfl (ex_not (c := false) rfl rfl) (OkE.nil (OkQ.subF (sL [0, 1, 2, 14, 15, 28] rfl) (OkQ.then_ ?_)))))
  refine OkC.cond_false rfl (OkC.skip (OkQ.in_normal (OkQ.then_ (OkC.region (st' (ex_add (c := ((j + 1 : Nat) : Int)) rfl rfl (addN_i64 (a := j) (b := 1) (by omega))) rfl ?_)))))
  exact mv' rfl (OkL.nil (OkQ.subF (sL [0, 1, 2, 14, 15] rfl) (OkQ.round1 (j + 1) (by omega) (by omega) (sF rfl) sr)))
 ·replace hc1 := of_decide_eq_false hc1
  refine OkC.exit (OkQ.then_exit (OkQ.round1_exit (OkQ.in_exit (q2 (asg' rfl ?_)))))
  exact OkL.nil (OkQ.then_ (OkC.ret (ret_one rfl (rd_tmp (v := (Value.bool true)) rfl) (fun w hw => ⟨rfl, hw.out⟩))))
theorem Same_ok {ps : List Pt} {ts ss : List T3} (x y : MX ps ts ss) (hp : ps.length ≤ 1000000) (ht : ts.length ≤ 1000000) (hs : ss.length ≤ 1000000) (w : World) {S : Nat → Prop} (hx : Ro S w x) (hy : Ro S w y) : Calls Tryz.prog 16 #[(aG (mxL x)), (aG (mxL y))] w (Gives w (Value.bool true)) := by
 have lx := atA (W := w) hx
 have ly := atA (W := w) hy
 refine calls_ofR (args := [(aG (mxL x)), (aG (mxL y))]) (L := [rowR x.a.p (rowsL ptL ps), rowR x.b.p (rowsL t3L ts), rowR x.c.p (rowsL t3L ss), rowR y.a.p (rowsL ptL ps), rowR y.b.p (rowsL t3L ts), rowR y.c.p (rowsL t3L ss)]) Tryz.func16 rfl rfl (leB rfl) (sxA hx (sxA hy roL_nil)) (OkC.subF (sL [0, 1] rfl) (q4 (bx' (cs := mxL x) rfl fun b1 => bx' (cs := mxL y) rfl fun b2 => asg' rfl ?_)))
 refine q3 (sL [2, 3, 4] rfl) (st' (v := (pP b1 0)) (ex_fieldAddr rfl Tryz.underlying31 rfl Tryz.sizeOf27 rfl) rfl (ldO' 1 (Value.slice x.a.p ps.length x.a.c) tO27 rfl (st' (v := (pP b2 0)) (ex_fieldAddr rfl Tryz.underlying31 rfl Tryz.sizeOf27 rfl) rfl (ldO' 0 (Value.slice y.a.p ps.length y.a.c) tO27 rfl (cl' Tryz.call57 (fun w hw => sameP_ok ps x.a y.a (by omega) w (roMa (inS hw 2 rfl lx)) (roMa (inS hw 5 rfl ly))) rfl ?_)))))
 refine mv' rfl (OkL.step (v := (pP b1 1)) (wt_some' rfl) (ex_fieldAddr rfl Tryz.underlying31 rfl Tryz.sizeOf28 rfl) rfl (leB rfl) (OkL.step (v := (Value.slice x.b.p ts.length x.b.c)) (wt_some' rfl) (ex_load_one (i := 1) (v := (Value.slice x.b.p ts.length x.b.c)) rfl rfl tO28.a rfl) rfl (leB rfl) (OkL.step (v := (pP b2 1)) (wt_some' rfl) (ex_fieldAddr rfl Tryz.underlying31 rfl Tryz.sizeOf28 rfl) rfl (leB rfl) (OkL.step (v := (Value.slice y.b.p ts.length y.b.c)) (wt_some' rfl) (ex_load_one (i := 0) (v := (Value.slice y.b.p ts.length y.b.c)) rfl rfl tO28.a rfl) rfl (leB rfl) (OkL.call (v := (Value.bool true)) (wt_some' rfl) (op_call0 (args := [(Value.slice x.b.p ts.length x.b.c), (Value.slice y.b.p ts.length y.b.c), (Value.func (.func 60) #[] #[])]) rfl rfl Tryz.call59) (fun w hw => sameT_ok ts x.b y.b (by omega) w (roMb (inS hw 2 rfl lx)) (roMb (inS hw 5 rfl ly))) rfl (leB rfl) ?_)))))
 refine st' (v := (Value.bool true)) (ex_pick_true rfl rfl) rfl (mv' rfl (OkL.step (v := (pP b1 2)) (wt_some' rfl) (ex_fieldAddr rfl Tryz.underlying31 rfl Tryz.sizeOf29 rfl) rfl (leB rfl) (OkL.step (v := (Value.slice x.c.p ss.length x.c.c)) (wt_some' rfl) (ex_load_one (i := 1) (v := (Value.slice x.c.p ss.length x.c.c)) rfl rfl tO29.a rfl) rfl (leB rfl) (OkL.step (v := (pP b2 2)) (wt_some' rfl) (ex_fieldAddr rfl Tryz.underlying31 rfl Tryz.sizeOf29 rfl) rfl (leB rfl) (OkL.step (v := (Value.slice y.c.p ss.length y.c.c)) (wt_some' rfl) (ex_load_one (i := 0) (v := (Value.slice y.c.p ss.length y.c.c)) rfl rfl tO29.a rfl) rfl (leB rfl) ?_)))))
 refine OkL.call (v := (Value.bool true)) (wt_some' rfl) (op_call0 (args := [(Value.slice x.c.p ss.length x.c.c), (Value.slice y.c.p ss.length y.c.c), (Value.func (.func 62) #[] #[])]) rfl rfl Tryz.call61) (fun w hw => sameS_ok ss x.c y.c (by omega) w (roMc (inS hw 2 rfl lx)) (roMc (inS hw 5 rfl ly))) rfl (leB rfl) (st' (v := (Value.bool true)) (ex_pick_true rfl rfl) rfl (asg' rfl (OkL.nil (OkQ.subF (sL [4] rfl) (OkQ.then_ ?_)))))
 exact OkC.ret (ret_one rfl (rd_tmp (v := (Value.bool true)) rfl) (fun w hw => ⟨rfl, hw.out⟩))
end
end Go.Proofs.YtgiacpkjnikjdaaGreat
