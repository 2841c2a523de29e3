import Derived.ProofKit
import Derived.LaidMore
import Derived.Carry
import Derived.Stop.Joined
import Derived.SevenTiedAt
import Derived.Test.YtaahheddmfddhaaGreatPart06
import Derived.Test.YtaahheddmfddhaaGreatPart21
import Derived.Test.YtaahheddmfddhaaGreatPart26
import Derived.Test.YtaahheddmfddhaaGreatPart27
import Derived.Test.YtaahheddmfddhaaGreatPart36
import Derived.Test.YtaahheddmfddhaaGreatPart37
import Derived.Test.YtaahheddmfddhaaGreatPart38
namespace Go.Proofs.YtaahheddmfddhaaGreat
open Go Go.RowKit
set_option linter.unusedVariables false
set_option linter.unusedSimpArgs false
section
set_option maxRecDepth 100000
theorem smP_ok (p : Pt) (w : World)  : Calls Tryz.prog 59 #[(aG (ptL p)), (aG (ptL p))] w (Gives w (Value.bool true)) := by
 refine calls_of (args := [(aG (ptL p)), (aG (ptL p))]) Tryz.func59 rfl rfl (leB rfl) (OkC.subF (sL [0, 1] rfl) (q4 (bx' (cs := ptL p) rfl fun b1 => bx' (cs := ptL p) rfl fun b2 => asg' rfl ?_)))
 refine q3 (sL [2, 3, 4] rfl) (ldW' 1 tA49 rfl (ldW' 0 tA49 rfl (st' (ex_eql_agg (c := true) rfl rfl Tryz.eqGuardType49 (eqB_pt_t 9994 rfl)) rfl (asg' rfl (OkL.nil ?_)))))
 exact OkQ.subF (sL [4] rfl) (OkQ.then_ (OkC.ret (ret_one rfl (rd_tmp (v := (Value.bool true)) rfl) (fun w hw => ⟨rfl, hw.out⟩))))
theorem sameP_ok (xs : List Pt) (x y : RX (rowsL ptL xs) xs.length) (hl : xs.length ≤ 1000000) (w : World) {S : Nat → Prop} (hx : Ro S w x) (hy : Ro S w y) : Calls Tryz.prog 58 #[(Value.slice x.p xs.length x.c), (Value.slice y.p xs.length y.c), (Value.func (.func 59) #[] #[])] w (Gives w (Value.bool true)) := by
 have lx := atA (W := w) hx
 have ly := atA (W := w) hy
 refine calls_ofR (args := [(Value.slice x.p xs.length x.c), (Value.slice y.p xs.length y.c), (Value.func (.func 59) #[] #[])]) (L := [rowR x.p (rowsL ptL xs), rowR y.p (rowsL ptL xs)]) Tryz.func58 rfl rfl (leB rfl) (sxA hx (sxA hy roL_nil)) (OkC.subF (sL [0, 1, 2] rfl) (q4 (asg' rfl (OkL.nil (q1 ?_)))))
 refine q4 (mv' rfl (st' (v := (vN xs.length)) (ex_len_slice rfl Tryz.underlying27) rfl (mv' rfl (st' (v := (vN xs.length)) (ex_len_slice rfl Tryz.underlying27) rfl (st' (ex_neq (c := false) rfl rfl (decide_eq_false (by omega))) rfl ?_)))))
 refine OkL.nil (OkQ.subF (sL [0, 1, 2, 6, 12] rfl) (OkQ.then_ (OkC.cond_false rfl (OkC.skip (q1 ?_)))))
 refine q4 (mv' rfl (st' (v := (vN xs.length)) (ex_len_slice rfl Tryz.underlying27) rfl (mv' rfl (OkL.nil (OkQ.subF (sL [0, 1, 2, 6, 14, 15] rfl) ?_)))))
 refine OkQ.then_ (OkC.block ?_)
 refine OkC.lp1 (tg fun (j : Nat) => j ≤ xs.length) (tg fun (j : Nat) => [(0, (Value.slice x.p xs.length x.c)), (1, (Value.slice y.p xs.length y.c)), (2, (Value.func (.func 59) #[] #[])), (14, (vN xs.length)), (15, (vN j))]) (tg fun (j : Nat) => [rowR x.p (rowsL ptL xs), rowR y.p (rowsL ptL xs)]) (tg fun (j : Nat) => xs.length - j) 0 (Nat.zero_le _) (sF rfl) sr (fun j hJ => ?_)
 have hj := hJ
 refine q4 (st' (ex_lss (c := (decide (j < xs.length))) rfl rfl (ltN (a := j) (b := xs.length))) rfl (OkL.nil (q1 ?_)))
 refine OkC.cond rfl (fun hc1 => ?_) (fun hc1 => ?_)
 ·replace hc1 := of_decide_eq_true hc1
  refine OkC.skip (q1 (OkC.block (q4 (mv' rfl (asg' rfl ?_)))))
  refine q6 (sL [0, 1, 2, 14, 15, 7] rfl) (rG' [(0, true), (1, true), (2, true), (3, true), (4, true), (5, true), (6, true), (7, true), (8, true), (9, false), (10, true)] sr (pM' rfl (pM' rfl (pM' rfl (pE' (v := (pP (pB x.p) (pO x.p + j * 10))) rfl (ex_index_row (j := j) rfl rfl x.ok Tryz.underlying27 Tryz.sizeOf49 rfl (by omega)) ?_)))))
  refine pE' (v := (aG (ptL (xs.getD j (⟨0, 0⟩ : Pt))))) rfl (ex_load_rowR_agg (vs := ptL (xs.getD j (⟨0, 0⟩ : Pt))) (i := 0) rfl rfl (RowOk.ne x.ok (by omega)) tA49 (rowsL_get ptL_len _ _ _ (by omega)) (ptL_len _)) (pM' rfl (pM' rfl (pE' (v := (pP (pB y.p) (pO y.p + j * 10))) rfl (ex_index_row (j := j) rfl rfl y.ok Tryz.underlying27 Tryz.sizeOf49 rfl (by omega)) (pE' (v := (aG (ptL (xs.getD j (⟨0, 0⟩ : Pt))))) rfl (ex_load_rowR_agg (vs := ptL (xs.getD j (⟨0, 0⟩ : Pt))) (i := 1) rfl rfl (RowOk.ne y.ok (by omega)) tA49 (rowsL_get ptL_len _ _ _ (by omega)) (ptL_len _)) (OkE.imp rfl ?_)))))
  refine ck' Tryz.call59 (smP_ok (xs.getD j (⟨0, 0⟩ : Pt))) rfl (OkE.back sr (pE' rfl (ex_not (c := false) rfl rfl) (OkE.nil (OkQ.subF (sL [0, 1, 2, 14, 15, 28] rfl) (OkQ.then_ ?_)))))
  refine OkC.cond_false rfl (OkC.skip (OkQ.in_normal (OkQ.then_ (OkC.region (st' (ex_add (c := ((j + 1 : Nat) : Int)) rfl rfl (addN_i64 (a := j) (b := 1) (by omega))) rfl ?_)))))
  exact mv' rfl (OkL.nil (OkQ.subF (sL [0, 1, 2, 14, 15] rfl) (OkQ.round1 (j + 1) (by omega) (by omega) (sF rfl) sr)))
 ·replace hc1 := of_decide_eq_false hc1
  refine OkC.exit (OkQ.then_exit (OkQ.round1_exit (OkQ.in_exit (q2 (asg' rfl ?_)))))
  exact OkL.nil (OkQ.then_ (OkC.ret (ret_one rfl (rd_tmp (v := (Value.bool true)) rfl) (fun w hw => ⟨rfl, hw.out⟩))))
theorem smT_ok (p : T3) (w : World)  : Calls Tryz.prog 61 #[(aG (t3L p)), (aG (t3L p))] w (Gives w (Value.bool true)) := by
 refine calls_of (args := [(aG (t3L p)), (aG (t3L p))]) Tryz.func61 rfl rfl (leB rfl) (OkC.subF (sL [0, 1] rfl) (q4 (bx' (cs := t3L p) rfl fun b1 => bx' (cs := t3L p) rfl fun b2 => asg' rfl ?_)))
 refine q3 (sL [2, 3, 4] rfl) (ldW' 1 tA34 rfl (ldW' 0 tA34 rfl (st' (ex_eql_agg (c := true) rfl rfl Tryz.eqGuardType34 (eqB_t3_t (a := p) (b := p) 9998 rfl)) rfl (asg' rfl (OkL.nil ?_)))))
 exact OkQ.subF (sL [4] rfl) (OkQ.then_ (OkC.ret (ret_one rfl (rd_tmp (v := (Value.bool true)) rfl) (fun w hw => ⟨rfl, hw.out⟩))))
theorem sameT_ok (xs : List T3) (x y : RX (rowsL t3L xs) xs.length) (hl : xs.length ≤ 1000000) (w : World) {S : Nat → Prop} (hx : Ro S w x) (hy : Ro S w y) : Calls Tryz.prog 60 #[(Value.slice x.p xs.length x.c), (Value.slice y.p xs.length y.c), (Value.func (.func 61) #[] #[])] w (Gives w (Value.bool true)) := by
 have lx := atA (W := w) hx
 have ly := atA (W := w) hy
 refine calls_ofR (args := [(Value.slice x.p xs.length x.c), (Value.slice y.p xs.length y.c), (Value.func (.func 61) #[] #[])]) (L := [rowR x.p (rowsL t3L xs), rowR y.p (rowsL t3L xs)]) Tryz.func60 rfl rfl (leB rfl) (sxA hx (sxA hy roL_nil)) (OkC.subF (sL [0, 1, 2] rfl) (q4 (asg' rfl (OkL.nil (q1 ?_)))))
 refine q4 (mv' rfl (st' (v := (vN xs.length)) (ex_len_slice rfl Tryz.underlying28) rfl (mv' rfl (st' (v := (vN xs.length)) (ex_len_slice rfl Tryz.underlying28) rfl (st' (ex_neq (c := false) rfl rfl (decide_eq_false (by omega))) rfl ?_)))))
 refine OkL.nil (OkQ.subF (sL [0, 1, 2, 6, 12] rfl) (OkQ.then_ (OkC.cond_false rfl (OkC.skip (q1 ?_)))))
 refine q4 (mv' rfl (st' (v := (vN xs.length)) (ex_len_slice rfl Tryz.underlying28) rfl (mv' rfl (OkL.nil (OkQ.subF (sL [0, 1, 2, 6, 14, 15] rfl) ?_)))))
 refine OkQ.then_ (OkC.block ?_)
 refine OkC.lp1 (tg fun (j : Nat) => j ≤ xs.length) (tg fun (j : Nat) => [(0, (Value.slice x.p xs.length x.c)), (1, (Value.slice y.p xs.length y.c)), (2, (Value.func (.func 61) #[] #[])), (14, (vN xs.length)), (15, (vN j))]) (tg fun (j : Nat) => [rowR x.p (rowsL t3L xs), rowR y.p (rowsL t3L xs)]) (tg fun (j : Nat) => xs.length - j) 0 (Nat.zero_le _) (sF rfl) sr (fun j hJ => ?_)
 have hj := hJ
 refine q4 (st' (ex_lss (c := (decide (j < xs.length))) rfl rfl (ltN (a := j) (b := xs.length))) rfl (OkL.nil (q1 ?_)))
 refine OkC.cond rfl (fun hc1 => ?_) (fun hc1 => ?_)
 ·replace hc1 := of_decide_eq_true hc1
  refine OkC.skip (q1 (OkC.block (q4 (mv' rfl (asg' rfl ?_)))))
  refine q6 (sL [0, 1, 2, 14, 15, 7] rfl) (rG' [(0, true), (1, true), (2, true), (3, true), (4, true), (5, true), (6, true), (7, true), (8, true), (9, false), (10, true)] sr (pM' rfl (pM' rfl (pM' rfl (pE' (v := (pP (pB x.p) (pO x.p + j * 3))) rfl (ex_index_row (j := j) rfl rfl x.ok Tryz.underlying28 Tryz.sizeOf34 rfl (by omega)) ?_)))))
  refine pE' (v := (aG (t3L (xs.getD j ((0, 0, 0) : Nat × Nat × Nat))))) rfl (ex_load_rowR_agg (vs := t3L (xs.getD j ((0, 0, 0) : Nat × Nat × Nat))) (i := 0) rfl rfl (RowOk.ne x.ok (by omega)) tA34 (rowsL_get t3L_len _ _ _ (by omega)) (t3L_len _)) (pM' rfl (pM' rfl (pE' (v := (pP (pB y.p) (pO y.p + j * 3))) rfl (ex_index_row (j := j) rfl rfl y.ok Tryz.underlying28 Tryz.sizeOf34 rfl (by omega)) (pE' (v := (aG (t3L (xs.getD j ((0, 0, 0) : Nat × Nat × Nat))))) rfl (ex_load_rowR_agg (vs := t3L (xs.getD j ((0, 0, 0) : Nat × Nat × Nat))) (i := 1) rfl rfl (RowOk.ne y.ok (by omega)) tA34 (rowsL_get t3L_len _ _ _ (by omega)) (t3L_len _)) (OkE.imp rfl ?_)))))
  refine ck' Tryz.call61 (smT_ok (xs.getD j ((0, 0, 0) : Nat × Nat × Nat))) rfl (OkE.back sr (pE' rfl (ex_not (c := false) rfl rfl) (OkE.nil (OkQ.subF (sL [0, 1, 2, 14, 15, 28] rfl) (OkQ.then_ ?_)))))
  refine OkC.cond_false rfl (OkC.skip (OkQ.in_normal (OkQ.then_ (OkC.region (st' (ex_add (c := ((j + 1 : Nat) : Int)) rfl rfl (addN_i64 (a := j) (b := 1) (by omega))) rfl ?_)))))
  exact mv' rfl (OkL.nil (OkQ.subF (sL [0, 1, 2, 14, 15] rfl) (OkQ.round1 (j + 1) (by omega) (by omega) (sF rfl) sr)))
 ·replace hc1 := of_decide_eq_false hc1
  refine OkC.exit (OkQ.then_exit (OkQ.round1_exit (OkQ.in_exit (q2 (asg' rfl ?_)))))
  exact OkL.nil (OkQ.then_ (OkC.ret (ret_one rfl (rd_tmp (v := (Value.bool true)) rfl) (fun w hw => ⟨rfl, hw.out⟩))))
theorem smS_ok (p : T3) (w : World)  : Calls Tryz.prog 63 #[(aG (t3L p)), (aG (t3L p))] w (Gives w (Value.bool true)) := by
 refine calls_of (args := [(aG (t3L p)), (aG (t3L p))]) Tryz.func63 rfl rfl (leB rfl) (OkC.subF (sL [0, 1] rfl) (q4 (bx' (cs := t3L p) rfl fun b1 => bx' (cs := t3L p) rfl fun b2 => asg' rfl ?_)))
 refine q3 (sL [2, 3, 4] rfl) (ldW' 1 tA51 rfl (ldW' 0 tA51 rfl (st' (ex_eql_agg (c := true) rfl rfl Tryz.eqGuardType51 (eqB_side_t (a := p) (b := p) 9998 rfl)) rfl (asg' rfl (OkL.nil ?_)))))
 exact OkQ.subF (sL [4] rfl) (OkQ.then_ (OkC.ret (ret_one rfl (rd_tmp (v := (Value.bool true)) rfl) (fun w hw => ⟨rfl, hw.out⟩))))
theorem sameS_ok (xs : List T3) (x y : RX (rowsL t3L xs) xs.length) (hl : xs.length ≤ 1000000) (w : World) {S : Nat → Prop} (hx : Ro S w x) (hy : Ro S w y) : Calls Tryz.prog 62 #[(Value.slice x.p xs.length x.c), (Value.slice y.p xs.length y.c), (Value.func (.func 63) #[] #[])] w (Gives w (Value.bool true)) := by
 have lx := atA (W := w) hx
 have ly := atA (W := w) hy
 refine calls_ofR (args := [(Value.slice x.p xs.length x.c), (Value.slice y.p xs.length y.c), (Value.func (.func 63) #[] #[])]) (L := [rowR x.p (rowsL t3L xs), rowR y.p (rowsL t3L xs)]) Tryz.func62 rfl rfl (leB rfl) (sxA hx (sxA hy roL_nil)) (OkC.subF (sL [0, 1, 2] rfl) (q4 (asg' rfl (OkL.nil (q1 ?_)))))
 refine q4 (mv' rfl (st' (v := (vN xs.length)) (ex_len_slice rfl Tryz.underlying29) rfl (mv' rfl (st' (v := (vN xs.length)) (ex_len_slice rfl Tryz.underlying29) rfl (st' (ex_neq (c := false) rfl rfl (decide_eq_false (by omega))) rfl ?_)))))
 refine OkL.nil (OkQ.subF (sL [0, 1, 2, 6, 12] rfl) (OkQ.then_ (OkC.cond_false rfl (OkC.skip (q1 ?_)))))
 refine q4 (mv' rfl (st' (v := (vN xs.length)) (ex_len_slice rfl Tryz.underlying29) rfl (mv' rfl (OkL.nil (OkQ.subF (sL [0, 1, 2, 6, 14, 15] rfl) ?_)))))
 refine OkQ.then_ (OkC.block ?_)
 refine OkC.lp1 (tg fun (j : Nat) => j ≤ xs.length) (tg fun (j : Nat) => [(0, (Value.slice x.p xs.length x.c)), (1, (Value.slice y.p xs.length y.c)), (2, (Value.func (.func 63) #[] #[])), (14, (vN xs.length)), (15, (vN j))]) (tg fun (j : Nat) => [rowR x.p (rowsL t3L xs), rowR y.p (rowsL t3L xs)]) (tg fun (j : Nat) => xs.length - j) 0 (Nat.zero_le _) (sF rfl) sr (fun j hJ => ?_)
 have hj := hJ
 refine q4 (st' (ex_lss (c := (decide (j < xs.length))) rfl rfl (ltN (a := j) (b := xs.length))) rfl (OkL.nil (q1 ?_)))
 refine OkC.cond rfl (fun hc1 => ?_) (fun hc1 => ?_)
 ·replace hc1 := of_decide_eq_true hc1
  refine OkC.skip (q1 (OkC.block (q4 (mv' rfl (asg' rfl ?_)))))
  refine q6 (sL [0, 1, 2, 14, 15, 7] rfl) (rG' [(0, true), (1, true), (2, true), (3, true), (4, true), (5, true), (6, true), (7, true), (8, true), (9, false), (10, true)] sr (pM' rfl (pM' rfl (pM' rfl (pE' (v := (pP (pB x.p) (pO x.p + j * 3))) rfl (ex_index_row (j := j) rfl rfl x.ok Tryz.underlying29 Tryz.sizeOf51 rfl (by omega)) ?_)))))
  refine pE' (v := (aG (t3L (xs.getD j ((0, 0, 0) : Nat × Nat × Nat))))) rfl (ex_load_rowR_agg (vs := t3L (xs.getD j ((0, 0, 0) : Nat × Nat × Nat))) (i := 0) rfl rfl (RowOk.ne x.ok (by omega)) tA51 (rowsL_get t3L_len _ _ _ (by omega)) (t3L_len _)) (pM' rfl (pM' rfl (pE' (v := (pP (pB y.p) (pO y.p + j * 3))) rfl (ex_index_row (j := j) rfl rfl y.ok Tryz.underlying29 Tryz.sizeOf51 rfl (by omega)) (pE' (v := (aG (t3L (xs.getD j ((0, 0, 0) : Nat × Nat × Nat))))) rfl (ex_load_rowR_agg (vs := t3L (xs.getD j ((0, 0, 0) : Nat × Nat × Nat))) (i := 1) rfl rfl (RowOk.ne y.ok (by omega)) tA51 (rowsL_get t3L_len _ _ _ (by omega)) (t3L_len _)) (OkE.imp rfl ?_)))))
  refine ck' Tryz.call63 (smS_ok (xs.getD j ((0, 0, 0) : Nat × Nat × Nat))) rfl (OkE.back sr (pE' rfl (ex_not (c := false) rfl rfl) (OkE.nil (OkQ.subF (sL [0, 1, 2, 14, 15, 28] rfl) (OkQ.then_ ?_)))))
  refine OkC.cond_false rfl (OkC.skip (OkQ.in_normal (OkQ.then_ (OkC.region (st' (ex_add (c := ((j + 1 : Nat) : Int)) rfl rfl (addN_i64 (a := j) (b := 1) (by omega))) rfl ?_)))))
  exact mv' rfl (OkL.nil (OkQ.subF (sL [0, 1, 2, 14, 15] rfl) (OkQ.round1 (j + 1) (by omega) (by omega) (sF rfl) sr)))
 ·replace hc1 := of_decide_eq_false hc1
  refine OkC.exit (OkQ.then_exit (OkQ.round1_exit (OkQ.in_exit (q2 (asg' rfl ?_)))))
  exact OkL.nil (OkQ.then_ (OkC.ret (ret_one rfl (rd_tmp (v := (Value.bool true)) rfl) (fun w hw => ⟨rfl, hw.out⟩))))
theorem Same_ok {ps : List Pt} {ts ss : List T3} (x y : MX ps ts ss) (hp : ps.length ≤ 1000000) (ht : ts.length ≤ 1000000) (hs : ss.length ≤ 1000000) (w : World) {S : Nat → Prop} (hx : Ro S w x) (hy : Ro S w y) : Calls Tryz.prog 18 #[(aG (mxL x)), (aG (mxL y))] w (Gives w (Value.bool true)) := by
 have lx := atA (W := w) hx
 have ly := atA (W := w) hy
 refine calls_ofR (args := [(aG (mxL x)), (aG (mxL y))]) (L := [rowR x.a.p (rowsL ptL ps), rowR x.b.p (rowsL t3L ts), rowR x.c.p (rowsL t3L ss), rowR y.a.p (rowsL ptL ps), rowR y.b.p (rowsL t3L ts), rowR y.c.p (rowsL t3L ss)]) Tryz.func18 rfl rfl (leB rfl) (sxA hx (sxA hy roL_nil)) (OkC.subF (sL [0, 1] rfl) (q4 (bx' (cs := mxL x) rfl fun b1 => bx' (cs := mxL y) rfl fun b2 => asg' rfl ?_)))
 refine q3 (sL [2, 3, 4] rfl) (st' (v := (pP b1 0)) (ex_fieldAddr rfl Tryz.underlying31 rfl Tryz.sizeOf27 rfl) rfl (ldO' 1 (Value.slice x.a.p ps.length x.a.c) tO27 rfl (st' (v := (pP b2 0)) (ex_fieldAddr rfl Tryz.underlying31 rfl Tryz.sizeOf27 rfl) rfl (ldO' 0 (Value.slice y.a.p ps.length y.a.c) tO27 rfl (cl' Tryz.call58 (fun w hw => sameP_ok ps x.a y.a (by omega) w (roMa (inS hw 2 rfl lx)) (roMa (inS hw 5 rfl ly))) rfl ?_)))))
 refine mv' rfl (OkL.step (v := (pP b1 1)) (wt_some' rfl) (ex_fieldAddr rfl Tryz.underlying31 rfl Tryz.sizeOf28 rfl) rfl (leB rfl) (OkL.step (v := (Value.slice x.b.p ts.length x.b.c)) (wt_some' rfl) (ex_load_one (i := 1) (v := (Value.slice x.b.p ts.length x.b.c)) rfl rfl tO28.a rfl) rfl (leB rfl) (OkL.step (v := (pP b2 1)) (wt_some' rfl) (ex_fieldAddr rfl Tryz.underlying31 rfl Tryz.sizeOf28 rfl) rfl (leB rfl) (OkL.step (v := (Value.slice y.b.p ts.length y.b.c)) (wt_some' rfl) (ex_load_one (i := 0) (v := (Value.slice y.b.p ts.length y.b.c)) rfl rfl tO28.a rfl) rfl (leB rfl) (OkL.call (v := (Value.bool true)) (wt_some' rfl) (op_call0 (args := [(Value.slice x.b.p ts.length x.b.c), (Value.slice y.b.p ts.length y.b.c), (Value.func (.func 61) #[] #[])]) rfl rfl Tryz.call60) (fun w hw => sameT_ok ts x.b y.b (by omega) w (roMb (inS hw 2 rfl lx)) (roMb (inS hw 5 rfl ly))) rfl (leB rfl) ?_)))))
 refine st' (v := (Value.bool true)) (ex_pick_true rfl rfl) rfl (mv' rfl (OkL.step (v := (pP b1 2)) (wt_some' rfl) (ex_fieldAddr rfl Tryz.underlying31 rfl Tryz.sizeOf29 rfl) rfl (leB rfl) (OkL.step (v := (Value.slice x.c.p ss.length x.c.c)) (wt_some' rfl) (ex_load_one (i := 1) (v := (Value.slice x.c.p ss.length x.c.c)) rfl rfl tO29.a rfl) rfl (leB rfl) (OkL.step (v := (pP b2 2)) (wt_some' rfl) (ex_fieldAddr rfl Tryz.underlying31 rfl Tryz.sizeOf29 rfl) rfl (leB rfl) (OkL.step (v := (Value.slice y.c.p ss.length y.c.c)) (wt_some' rfl) (ex_load_one (i := 0) (v := (Value.slice y.c.p ss.length y.c.c)) rfl rfl tO29.a rfl) rfl (leB rfl) ?_)))))
 refine OkL.call (v := (Value.bool true)) (wt_some' rfl) (op_call0 (args := [(Value.slice x.c.p ss.length x.c.c), (Value.slice y.c.p ss.length y.c.c), (Value.func (.func 63) #[] #[])]) rfl rfl Tryz.call62) (fun w hw => sameS_ok ss x.c y.c (by omega) w (roMc (inS hw 2 rfl lx)) (roMc (inS hw 5 rfl ly))) rfl (leB rfl) (st' (v := (Value.bool true)) (ex_pick_true rfl rfl) rfl (asg' rfl (OkL.nil (OkQ.subF (sL [4] rfl) (OkQ.then_ ?_)))))
 exact OkC.ret (ret_one rfl (rd_tmp (v := (Value.bool true)) rfl) (fun w hw => ⟨rfl, hw.out⟩))
end
section
set_option maxRecDepth 100000
theorem Same_eq {ps ps2 : List Pt} {ts ss ts2 ss2 : List T3} (e : (ps, ts, ss) = (ps2, ts2, ss2)) (x : MX ps ts ss) (y : MX ps2 ts2 ss2) (hp : ps.length ≤ 1000000) (ht : ts.length ≤ 1000000) (hs : ss.length ≤ 1000000) (w : World) {S : Nat → Prop} (hx : Ro S w x) (hy : Ro S w y) : Calls Tryz.prog 18 #[aG (mxL x), aG (mxL y)] w (Gives w (.bool true)) := by
 cases e; exact Same_ok x y hp ht hs w hx hy
set_option maxHeartbeats 1000000 in
theorem RefinesTimes_ok (m : MQ) (nn : Nat) (below : Int) (hnn : nn < 256) (w : World) {S : Nat → Prop} (hm : Ro S w m) : Calls Tryz.prog 4 #[(aG (mqL m)), (vK .u8 nn), (vI below)] w (Gives w (Value.bool true)) := by
 obtain ⟨k, hk⟩ : ∃ q, q = nn % 3 := ⟨_, rfl⟩
 have hk2 : k ≤ 2 := by omega
 obtain ⟨mb, hmb⟩ : ∃ q : Int, q = (if (-1 : Int) < below then -1 else below) := ⟨_, rfl⟩
 have hmb0 : mb < 0 := by rw [hmb]; split <;> omega
 have lm := atA (W := w) hm
 refine calls_ofR (args := [(aG (mqL m)), (vK .u8 nn), (vI below)]) (L := [rowR m.p (bytL m.cs)]) Tryz.func4 rfl rfl (leB rfl) (sxA hm roL_nil) (OkC.subF (sL [0, 1, 2] rfl) (q4 (bx' (cs := mqL m) rfl fun b1 => asg' rfl (q3 (sL [1, 2, 3, 6] rfl) ?_))))
 refine ldW' 0 tA26 rfl (OkL.callR (S := S) (α := MG) (args := [(aG (mqL m))]) Tryz.call13 (fun w hw => mMesh_ok m w (inS hw 1 rfl lm)) rfl rfl rfl fun g lg => al tZ31 rfl fun b2 => stW0' rfl Tryz.sizeOf31 rfl (q3 (sL [1, 2, 6, 7] rfl) ?_))
 have hG := g.good
 have htl := hG.tl
 have hpl := hG.pl
 have hsl := g.sl
 obtain ⟨qp, hqp⟩ : ∃ q, q = (iterM (g.ps, g.ts, g.ss) k).1 := ⟨_, rfl⟩
 obtain ⟨qu, hqu⟩ : ∃ q, q = (iterM (g.ps, g.ts, g.ss) k).2.1 := ⟨_, rfl⟩
 obtain ⟨qv, hqv⟩ : ∃ q, q = (iterM (g.ps, g.ts, g.ss) k).2.2 := ⟨_, rfl⟩
 have hwq : WfM (qp, qu, qv) := by rw [hqp, hqu, hqv]; exact iter_wf hk2
 have hp8 : qp.length ≤ 4096 := hwq.pl
 have ht8 : qu.length ≤ 8192 := hwq.tl
 have hs8 : qv.length ≤ 24576 := hwq.sl
 refine mv' rfl (st' (ex_rem (c := ((nn % 3 : Nat) : Int)) rfl rfl (by omega) (remN (a := nn) (b := 3))) rfl (st' (ex_conv (c := ((nn % 3 : Nat) : Int)) rfl Tryz.underlying5 Tryz.underlying3 (convN_i64 (by omega))) rfl (OkL.retell (k := 30) (u := (vN k)) rfl (by rw [hk]) (asg' rfl (q3 (sL [2, 6, 7, 8] rfl) ?_)))))
 refine ldW' 0 tA31 rfl (mv' rfl (cTm (S := S) (ps := qp) (ts := qu) (ss := qv) (e := 0) (args := [(aG (mxL g.mx)), (vN k)]) Tryz.call17 (fun w hw => (by have h9 := Times_ok g.mx k (by omega) wf_of w (inS hw 1 rfl lg : Ro _ w g.mx); rw [times_two hk2] at h9; rw [hqp, hqu, hqv]; exact h9)) rfl fun t1x ht1x => mv' rfl (st' (ex_extract (v := (aG (mxL t1x.m))) rfl rfl) rfl (st' (ex_extract (v := (vI 0)) rfl rfl) rfl ?_))))
 refine al tZ31 rfl fun b3 => stW0' rfl Tryz.sizeOf31 rfl (asg' rfl (q3 (sL [2, 6, 7, 8, 9, 10] rfl) (ldW' 4 tA31 rfl (al tZ31 rfl fun b4 => ?_))))
 refine stW0' rfl Tryz.sizeOf31 rfl (OkL.dupM 6 rfl ⟨rfl, rfl, rfl⟩ (q6 (sL [2, 6, 7, 8, 9, 10, 11] rfl) (q4 (asg' rfl (OkL.nil ?_)))))
 refine OkQ.then_ (OkC.block ?_)
 refine OkC.lp2 (tg fun (i : Nat) (z : ZM) => i ≤ k ∧ (z.ps, z.ts, z.ss) = iterM (g.ps, g.ts, g.ss) i ∧ At ⟨w, none⟩ S z.mx) (tg fun (i : Nat) (z : ZM) => [(2, (vI below)), (7, (pP b2 0)), (8, (vN k)), (9, (pP b3 0)), (10, (vI 0)), (11, (pP b4 0)), (12, (vN i))]) (tg fun (i : Nat) (z : ZM) => [rowR z.mx.a.p (rowsL ptL z.ps), rowR z.mx.b.p (rowsL t3L z.ts), rowR z.mx.c.p (rowsL t3L z.ss), blk b4 31 (mxL z.mx), blk b3 31 (mxL t1x.m), rowR t1x.m.a.p (rowsL ptL qp), rowR t1x.m.b.p (rowsL t3L qu), rowR t1x.m.c.p (rowsL t3L qv), blk b2 31 (mxL g.mx), rowR g.mx.a.p (rowsL ptL g.ps), rowR g.mx.b.p (rowsL t3L g.ts), rowR g.mx.c.p (rowsL t3L g.ss), blk b1 26 (mqL m), rowR m.p (bytL m.cs)]) (tg fun (i : Nat) (z : ZM) => k - i) 0 (⟨g.ps, g.ts, g.ss, g.mx⟩ : ZM) (⟨Nat.zero_le _, rfl, lg⟩) (sF rfl) sr (fun i z hJ => ?_)
 obtain ⟨hi, hit, hy⟩ := hJ
 have hwf : WfM (z.ps, z.ts, z.ss) := by rw [hit]; exact iter_wf (by omega)
 have hp9 : z.ps.length ≤ 4096 := hwf.pl
 have ht9 : z.ts.length ≤ 8192 := hwf.tl
 have hs9 : z.ss.length ≤ 24576 := hwf.sl
 refine OkC.seq (q4 (mv' rfl (mv' rfl (st' (ex_lss (c := (decide (i < k))) rfl rfl (ltN (a := i) (b := k))) rfl (OkL.nil ?_)))))
 refine OkQ.subF (sL [2, 7, 8, 9, 10, 11, 12, 40] rfl) (OkQ.then_ ?_)
 refine OkC.cond rfl (fun hc0 => ?_) (fun hc0 => ?_)
 ·replace hc0 := of_decide_eq_true hc0
  have hlm : limM (z.ps, z.ts, z.ss) := by rw [hit]; exact iter_lim (by omega)
  refine OkC.skip (q1 (OkC.block (q4 (ldW' 3 tA31 rfl (cRd (S := S) (args := [(aG (mxL z.mx))]) Tryz.call15 (fun w hw => Red_ok z.mx hwf.num hwf.hz (by omega) (by omega) (by omega) hlm w (inS hw 0 rfl hy)) rfl fun rd hmrd hqrd => ?_)))))
  refine mv' rfl (st' (ex_extract (v := (aG (mxL rd.m))) rfl rfl) rfl (st' (ex_extract (v := (Value.slice rd.q.p ((parN z.ts.length).length) rd.q.c)) rfl rfl) rfl (st' (ex_extract (v := (vI 0)) rfl rfl) rfl (al tZ31 rfl fun b5 => stW0' rfl Tryz.sizeOf31 rfl ?_))))
  refine asg' rfl (asg' rfl (q6 (sL [2, 7, 8, 9, 10, 11, 12, 13, 15] rfl) (q4 (mv' rfl (st' (ex_neq (c := false) rfl rfl (by decide)) rfl ?_)))))
  refine OkL.nil (OkQ.subF (sL [2, 7, 8, 9, 10, 11, 12, 13, 50] rfl) (OkQ.then_ (OkC.cond_false rfl (OkC.skip (OkQ.then_ ?_)))))
  refine OkC.region (ldW' 0 tA31 rfl (stX 8 (off := 0) (vs := mxL rd.m) (cs' := mxL rd.m) (wt_none rfl) rfl Tryz.sizeOf31 rfl (OkL.nil (OkQ.subF (sL [2, 7, 8, 9, 10, 11, 12, 13] rfl) (OkQ.in_normal ?_)))))
  refine OkQ.then_ (OkC.region (mv' rfl (st' (ex_add (c := ((i + 1 : Nat) : Int)) rfl rfl (addN_i64 (a := i) (b := 1) (by omega))) rfl (asg' rfl (OkL.nil ?_)))))
  exact OkQ.subF (sL [2, 7, 8, 9, 10, 11, 12, 13] rfl) (OkQ.round2 (i + 1) (⟨halP z.ps (edL z.ts), redT z.ps.length (edL z.ts) z.ts, halX z.ps.length z.ss (edL z.ts) (redT z.ps.length (edL z.ts) z.ts), rd.m⟩ : ZM) (⟨by omega, congrArg redM hit, hmrd⟩) (by omega) (sF rfl) (sl (sk (sk (sk (sl (sl (sl (sl sr)))))))))
 ·replace hc0 := of_decide_eq_false hc0
  have hse : (qp, qu, qv) = (z.ps, z.ts, z.ss) := by rw [hit, show i = k by omega, hqp, hqu, hqv]
  refine OkC.exit (OkQ.then_exit (OkQ.round2_exit (OkQ.in_exit (q1 (q4 ?_)))))
  refine mv' rfl (st' (ex_neq (c := false) rfl rfl (by decide)) rfl (mv' rfl (OkL.step (v := (aG (mxL t1x.m))) (wt_some' rfl) (ex_load_agg (i := 4) (vs := mxL t1x.m) rfl rfl tA31.a tA31.s rfl rfl) rfl (leB rfl) (OkL.step (v := (aG (mxL z.mx))) (wt_some' rfl) (ex_load_agg (i := 3) (vs := mxL z.mx) rfl rfl tA31.a tA31.s rfl rfl) rfl (leB rfl) (OkL.call (v := (Value.bool true)) (wt_some' rfl) (op_call0 (args := [(aG (mxL t1x.m)), (aG (mxL z.mx))]) rfl rfl Tryz.call18) (fun w hw => Same_eq hse t1x.m z.mx (by omega) (by omega) (by omega) w (inS hw 5 rfl ht1x) (inS hw 0 rfl hy)) rfl (leB rfl) ?_)))))
  refine OkL.step (v := (Value.bool false)) (wt_some' rfl) (ex_not (c := false) rfl rfl) rfl (leB rfl) (st' (v := (Value.bool false)) (ex_pick_false rfl rfl) rfl (OkL.nil (OkQ.subF (sL [2, 7, 8, 9, 10, 11, 12, 59] rfl) (OkQ.then_ (OkC.cond_false rfl ?_)))))
  refine OkC.skip (q2 (ldW' 8 tA31 rfl (al tZ31 rfl fun b5 => stW0' rfl Tryz.sizeOf31 rfl (q3 (sL [2, 7, 8, 9, 10, 11, 12, 16] rfl) ?_))))
  refine st' (v := (aG ([(vI (-1 : Int)), (vI 0), (vI 1)]))) (ex_build_array (zs := t3L ((0, 0, 0) : Nat × Nat × Nat)) (vs := [vI (-1), vN 0, vN 1]) (pv := [(0, (vI (-1))), (1, (vI 0)), (2, (vI 1))]) Tryz.zeroValue34 Tryz.underlying34 Tryz.sizeOf3 rfl (by kernel_rfl)) rfl (OkL.openV (V := fun b6 => (Value.slice (some ⟨b6, 0, none⟩) 1 1)) (T := 34) (cs := [vI (-1), vN 0, vN 1]) (wt_none rfl) (op_buildSlice (z := .agg (t3L ((0, 0, 0) : Nat × Nat × Nat)).toArray) (cs := [vI (-1), vN 0, vN 1]) (pv := [(0, (aG ([(vI (-1 : Int)), (vI 0), (vI 1)])))]) Tryz.underlying28 Tryz.sizeOf34 Tryz.zeroValue34 (by decide) (by decide) rfl (by kernel_rfl)) rfl (leB rfl) fun b6 => OkL.asRow0 (z := 3) 1 rfl (by decide) fun hb0 => st' (v := (pP b2 1)) (ex_fieldAddr rfl Tryz.underlying31 rfl Tryz.sizeOf28 rfl) rfl (ldO' 10 (Value.slice g.mx.b.p g.ts.length g.mx.b.c) tO28 rfl (OkL.appendS0 (cs2 := badL g.ts) (news := rowsL t3L g.ts) tE28 rfl hb0 rfl rfl (srcR (k := 12) rfl g.mx.b.ok) (rowsL_length t3L_len _) (rowsL_one t3L_one _) (mxl (by omega)) (by omega) rfl rfl fun pb cb hob => ?_)))
  refine OkL.frzRow 0 rfl hob (by show (rowsL t3L g.ts).length + 3 = _; rw [rowsL_length t3L_len]; omega) rfl rfl fun hnB => st' (v := (pP b5 1)) (ex_fieldAddr rfl Tryz.underlying31 rfl Tryz.sizeOf28 rfl) rfl (stX 1 (off := 1) (vs := [(Value.slice pb (1 + g.ts.length) cb)]) (cs' := [(Value.slice g.mx.a.p g.ps.length g.mx.a.c), (Value.slice pb (1 + g.ts.length) cb), (Value.slice g.mx.c.p g.ss.length g.mx.c.c)]) (wt_none rfl) rfl Tryz.sizeOf28 rfl (q3 (sL [2, 7, 8, 9, 10, 11, 12, 16] rfl) (ldW' 1 tA31 rfl (OkL.retell (k := 68) (u := (aG (mbL (⟨g.mx.a, ⟨pb, cb, hob.row⟩, g.mx.c⟩ : MB g.ps g.ts g.ss)))) rfl (by rfl) ?_))))
  refine mv' rfl (cTm (S := S) (ps := ([] : List Pt)) (ts := ([] : List T3)) (ss := ([] : List T3)) (e := 1) (args := [(aG (mbL (⟨g.mx.a, ⟨pb, cb, hob.row⟩, g.mx.c⟩ : MB g.ps g.ts g.ss))), (vN k)]) Tryz.call17 (fun w hw => Times_bad (⟨g.mx.a, ⟨pb, cb, hob.row⟩, g.mx.c⟩ : MB g.ps g.ts g.ss) (by omega) k w (inX hw [11, 0, 13] rfl (At.mb (At.ma (x := g.mx) lg) (At.new hnB) (At.mc (x := g.mx) lg)))) rfl fun t2x ht2x => mv' rfl (st' (ex_extract (v := (aG (mxL t2x.m))) rfl rfl) rfl (st' (ex_extract (v := (vI 1)) rfl rfl) rfl (al tZ31 rfl fun b7 => ?_))))
  refine stW0' rfl Tryz.sizeOf31 rfl (asg' rfl (q3 (sL [2, 7, 8, 9, 10, 11, 12, 16, 18] rfl) (ldW' 14 tA31 rfl (mv' rfl (st' (ex_min (c := mb) rfl rfl hmb.symm) rfl ?_)))))
  refine cTm (S := S) (ps := ([] : List Pt)) (ts := ([] : List T3)) (ss := ([] : List T3)) (e := 1) (args := [(aG (mxL g.mx)), (vI mb)]) Tryz.call17 (fun w hw => Times_neg g.mx mb hmb0 w (inS hw 15 rfl lg : Ro _ w g.mx)) rfl fun t3x ht3x => mv' rfl (st' (ex_extract (v := (aG (mxL t3x.m))) rfl rfl) rfl (st' (ex_extract (v := (vI 1)) rfl rfl) rfl (al tZ31 rfl fun b8 => stW0' rfl Tryz.sizeOf31 rfl ?_)))
  refine asg' rfl (q3 (sL [2, 7, 8, 9, 10, 11, 12, 16, 18, 20] rfl) (ldW' 9 tA31 rfl (OkL.retell (k := 81) (u := (aG (mbL (⟨g.mx.a, ⟨pb, cb, hob.row⟩, g.mx.c⟩ : MB g.ps g.ts g.ss)))) rfl (by rfl) (cRd (S := S) (args := [(aG (mbL (⟨g.mx.a, ⟨pb, cb, hob.row⟩, g.mx.c⟩ : MB g.ps g.ts g.ss)))]) Tryz.call15 (fun w hw => Red_bad (⟨g.mx.a, ⟨pb, cb, hob.row⟩, g.mx.c⟩ : MB g.ps g.ts g.ss) (by omega) w (inX hw [19, 8, 21] rfl (At.mb (At.ma (x := g.mx) lg) (At.new hnB) (At.mc (x := g.mx) lg)))) rfl fun re hmre hqre => mv' rfl ?_))))
  refine st' (ex_extract (v := (aG (mxL re.m))) rfl rfl) rfl (st' (ex_extract (v := (Value.slice re.q.p ((([] : List Nat)).length) re.q.c)) rfl rfl) rfl (st' (ex_extract (v := (vI 1)) rfl rfl) rfl (al tZ31 rfl fun b9 => stW0' rfl Tryz.sizeOf31 rfl (asg' rfl ?_))))
  refine asg' rfl (q3 (sL [2, 7, 8, 9, 10, 11, 12, 16, 18, 20, 23] rfl) (ldW' 23 tA31 rfl (cTm (S := S) (ps := ([] : List Pt)) (ts := ([] : List T3)) (ss := ([] : List T3)) (e := 3) (args := [(aG (mxL g.mx)), (vI 60)]) Tryz.call17 (fun w hw => (by have h9 := Times_ok g.mx 60 (by decide) wf_of w (inS hw 24 rfl lg : Ro _ w g.mx); rw [times_60] at h9; exact h9)) rfl fun t4x ht4x => mv' rfl (st' (ex_extract (v := (aG (mxL t4x.m))) rfl rfl) rfl ?_))))
  refine st' (ex_extract (v := (vI 3)) rfl rfl) rfl (al tZ31 rfl fun b10 => stW0' rfl Tryz.sizeOf31 rfl (asg' rfl (q3 (sL [2, 7, 8, 9, 10, 11, 12, 16, 18, 20, 23, 25] rfl) (mv' rfl ?_))))
  refine st' (ex_eql (c := true) rfl rfl (by decide)) rfl (mv' rfl (OkL.step (v := (vI 1)) (wt_some' rfl) (ex_move rfl) rfl (leB rfl) (OkL.step (v := (Value.bool true)) (wt_some' rfl) (ex_eql (c := true) rfl rfl (by decide)) rfl (leB rfl) (st' (v := (Value.bool true)) (ex_pick_true rfl rfl) rfl (mv' rfl ?_)))))
  refine OkL.step (v := (vI 1)) (wt_some' rfl) (ex_move rfl) rfl (leB rfl) (OkL.step (v := (Value.bool true)) (wt_some' rfl) (ex_eql (c := true) rfl rfl (by decide)) rfl (leB rfl) (st' (v := (Value.bool true)) (ex_pick_true rfl rfl) rfl (mv' rfl (OkL.step (v := (vI 3)) (wt_some' rfl) (ex_move rfl) rfl (leB rfl) (OkL.step (v := (Value.bool true)) (wt_some' rfl) (ex_eql (c := true) rfl rfl (by decide)) rfl (leB rfl) ?_)))))
  refine st' (v := (Value.bool true)) (ex_pick_true rfl rfl) rfl (mv' rfl (OkL.call (v := (Value.bool true)) (wt_some' rfl) (op_call0 (args := []) rfl rfl Tryz.call16) (fun w hw => lives28_ok w) rfl (leB rfl) (st' (v := (Value.bool true)) (ex_pick_true rfl rfl) rfl (asg' rfl (OkL.nil ?_)))))
  exact OkQ.subF (sL [2, 7, 8, 9, 10, 11, 12, 16, 6] rfl) (OkQ.then_ (OkC.ret (ret_one rfl (rd_tmp (v := (Value.bool true)) rfl) (fun w hw => ⟨rfl, hw.out⟩))))
end
section
open Go Go.RowKit Go.ChangeShapes Go.WideShapes Go.ChangeAt
theorem laidOut : laidOutB Tryz.prog = true := by kernel_rfl
theorem ownKnob0 : ownKnob Tryz.prog.godebug = none := by kernel_rfl
theorem trodAll_stays {H : Type} {enc : TypeId × Value → H} {P : Program} (hl : laidOutB P = true) {W W' : World} {sp : Nat → Bool} (hb : Bel W.heap.size W W') :
    ∀ {ts : List TypeId} {vs : List Value} {ds : List (DataW H)} {ps : List MemPlace}, (∀ t ∈ ts, P.readableRec t = true ∧ t < P.types.size) → DataW.TrodAll enc P W 0 (fun _ => true) true ts vs ds ps →
      (∀ p ∈ ps, p.block < W.heap.size) → (∀ p ∈ ps, sp p.block = true) → DataW.TrodAll enc P W' 0 sp true ts vs ds ps
  | [], _, _, _, _, h, _, _ => by
    obtain ⟨rfl, rfl, rfl⟩ := trodAll_nil h
    exact trodAll_mk0
  | t :: ts, _, _, _, hr, h, hlt, hs => by
    obtain ⟨v, vs1, d, ds1, a, b, rfl, rfl, rfl, h1, h2⟩ := trodAll_cons h
    exact ⟨a, b, WideElems.Trod_stays hl (hr t (by simp)).1 (hr t (by simp)).2 h1 (fun x hx => hb.same (hlt x (by simp [hx]))) (fun x hx => hs x (by simp [hx])),
      trodAll_stays hl hb (fun u hu => hr u (by simp [hu])) h2 (fun p hp => hlt p (by simp [hp])) (fun p hp => hs p (by simp [hp])), rfl⟩
theorem law_post {H : Type} {enc : TypeId × Value → H} {P : Program} {f : Func} {s : ChangeSpec} {apart fresh handsOn again : Bool} {W W' : World} {args : Array Value} {ds : List (DataW H)} {before : List MemPlace} {tb : TypeId}
    (hW : DataW.Whole enc P f.params.toList s.vars apart W args.toList ds [] before) (hv : s.vars = []) (hfn : s.fn H ds = ({ results := [.lit (.bool true)], args := ds } : Left H))
    (hrt : f.resultTypes = #[tb]) (hu : P.underlying tb = some .bool) (hb : Bel W.heap.size W W') (hl : laidOutB P = true) (hr : ∀ t ∈ f.params.toList, P.readableRec t = true ∧ t < P.types.size) :
    s.post enc P f apart fresh handsOn again W args (.bool true) W' := by
  have hlt : ∀ p ∈ before, p.block < W.heap.size := fun p hp => hW.lt p hp
  have hW2 := hW
  obtain ⟨pa, q, hA, hV, he, hz, hn⟩ := hW2
  rw [hv] at hV
  obtain ⟨_, rfl⟩ := trodVars_none hV
  simp only [List.append_nil] at he
  subst he
  have hres : ∀ (b : Nat) (sp : Nat → Bool) (hd : Bool), DataW.TrodAll enc P W' b sp hd f.resultTypes.toList ((Value.bool true).resultList f.resultTypes.size) (s.fn H (ds ++ [])).results [] := fun b sp hd => by
    rw [hrt, List.append_nil, hfn]
    exact trodAll_mk1 (shut_bool hu _)
  have hargs : ∀ sp : Nat → Bool, (∀ p ∈ before, sp p.block = true) → DataW.TrodAll enc P W' 0 sp true f.params.toList args.toList (s.fn H (ds ++ [])).args before := fun sp hs => by
    rw [List.append_nil, hfn]
    exact trodAll_stays hl hb hr hA hlt hs
  have hvars : ∀ sp : Nat → Bool, DataW.TrodVars enc P W' sp s.vars (s.fn H (ds ++ [])).vars [] := fun sp => by
    rw [List.append_nil, hfn, hv]; rfl
  have hold : ∀ p ∈ before, (fun b => decide (b < W.heap.size)) p.block = true := fun p hp => by simpa using hlt p hp
  refine ⟨ds, [], before, [], before, [], hW, hres _ _ _, hargs _ hold, hvars _, World.keptBut_mono (fun p hp => ⟨hp, Or.inr (by simpa using hp)⟩) (hb.frame (· ∈ before)), fun _ => ⟨?_, _, _, ([] ++ before) ++ [], ⟨[] ++ before, [], trodAll_append (hargs _ (fun _ _ => rfl)) (hres _ _ _), hvars _, rfl, ?_, ?_⟩, ?_⟩⟩
  · exact ok_one hrt rfl (okWide_bool_mk hu _)
  · intro b off hp
    have hp' : MemPlace.cell b off ∈ before := by simpa using hp
    rw [hb.frozen (hlt _ hp')]
    exact hz b off hp'
  · intro ha
    have := hn ha
    simpa using this
  · intro p hp _
    simpa using hp
end
end Go.Proofs.YtaahheddmfddhaaGreat
