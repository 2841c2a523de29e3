import Derived.Test.YtgiacpkjnikjdaaGreatPart06
import Derived.Test.YtgiacpkjnikjdaaGreatPart21
import Derived.Test.YtgiacpkjnikjdaaGreatPart37
import Derived.Test.YtgiacpkjnikjdaaGreatPart42
import Derived.Test.YtgiacpkjnikjdaaGreatPart43
namespace Go.Proofs.YtgiacpkjnikjdaaGreat
open Go Go.RowKit
set_option linter.unusedVariables false
set_option linter.unusedSimpArgs false
section
set_option maxRecDepth 100000
theorem ptless_ok (p q : Pt) (hp : SzP p ≤ 1000) (hq : SzP q ≤ 1000) (w : World)  : Calls Tryz.prog 80 #[(aG (ptL p)), (aG (ptL q))] w (Gives w (Value.bool (decide (ltL p q)))) := by
 have y1 := SzP_x p
 have y2 := SzP_x q
 have y3 := SzP_y p
 have y4 := SzP_y q
 refine calls_of (args := [(aG (ptL p)), (aG (ptL q))]) Tryz.func80 rfl rfl (leB rfl) (OkC.subF (sL [0, 1] rfl) (q4 (bx' (cs := ptL p) rfl fun b1 => bx' (cs := ptL q) rfl fun b2 => asg' rfl ?_)))
 refine q6 (sL [2, 3, 4] rfl) (q4 (st' (v := (pP b1 0)) (ex_fieldAddr rfl Tryz.underlying83 rfl Tryz.sizeOf81 rfl) rfl (ldA' 1 (fracL p.x) tA81 rfl (st' (v := (pP b2 0)) (ex_fieldAddr rfl Tryz.underlying83 rfl Tryz.sizeOf81 rfl) rfl (ldA' 0 (fracL q.x) tA81 rfl ?_)))))
 refine ck' Tryz.call103 (fCmp_ok p.x q.x (by omega)) rfl (asg' rfl (q3 (sL [2, 3, 4, 5] rfl) (mv' rfl (st' (ex_neq (c := (decide ((cmpQ p.x q.x) ≠ (0 : Int)))) rfl rfl rfl) rfl (OkL.nil ?_)))))
 refine OkQ.subF (sL [2, 3, 4, 5, 12] rfl) (OkQ.then_ ?_)
 refine OkC.cond rfl (fun hc0 => ?_) (fun hc0 => ?_)
 ·replace hc0 := of_decide_eq_true hc0
  refine q4 (mv' rfl (st' (ex_lss (c := (decide ((cmpQ p.x q.x) < (0 : Int)))) rfl rfl rfl) rfl (asg' rfl (OkL.nil (OkQ.subF (sL [2, 3, 4, 5] rfl) ?_)))))
  exact OkQ.then_ (OkC.ret (OkQ.then_ret (ret_one rfl (rd_tmp (v := (Value.bool (decide ((cmpQ p.x q.x) < (0 : Int))))) rfl) (fun w hw => ⟨by rw [less_1 hc0], hw.out⟩))))
 ·replace hc0 := of_decide_eq_false hc0
  refine OkC.skip (q2 (st' (v := (pP b1 5)) (ex_fieldAddr rfl Tryz.underlying83 rfl Tryz.sizeOf81 rfl) rfl (ldA' 1 (fracL p.y) tA81 rfl (st' (v := (pP b2 5)) (ex_fieldAddr rfl Tryz.underlying83 rfl Tryz.sizeOf81 rfl) rfl (ldA' 0 (fracL q.y) tA81 rfl ?_)))))
  refine ck' Tryz.call103 (fCmp_ok p.y q.y (by omega)) rfl (st' (ex_lss (c := (decide ((cmpQ p.y q.y) < (0 : Int)))) rfl rfl rfl) rfl (asg' rfl (OkL.nil (OkQ.subF (sL [2, 3, 4, 5] rfl) (OkQ.then_ ?_)))))
  exact OkC.ret (ret_one rfl (rd_tmp (v := (Value.bool (decide ((cmpQ p.y q.y) < (0 : Int))))) rfl) (fun w hw => ⟨by rw [less_2 (Decidable.not_not.1 hc0)], hw.out⟩))
theorem least_ok (a q : Pt) (x : RX (ptL q) 1) (ha : SzP a ≤ 1000) (hq : SzP q ≤ 1000) (w : World) {S : Nat → Prop} (hx : Ro S w x) : Calls Tryz.prog 81 #[(aG (ptL a)), (Value.slice x.p 1 x.c)] w (Gives w (aG (ptL (lsP a q)))) := by
 have lx := atA (W := w) hx
 refine calls_ofR (args := [(aG (ptL a)), (Value.slice x.p 1 x.c)]) (L := [rowR x.p (ptL q)]) Tryz.func81 rfl rfl (leB rfl) (sxA hx roL_nil) (OkC.subF (sL [0, 1] rfl) (q4 (bx' (cs := ptL a) rfl fun b1 => al tZ83 rfl fun b2 => q6 (sL [1, 2, 4] rfl) ?_)))
 refine q4 (mv' rfl (st' (v := (vI 1)) (ex_len_slice rfl Tryz.underlying27) rfl (mv' rfl (OkL.nil (OkQ.subF (sL [2, 4, 7, 8, 9] rfl) ?_)))))
 refine OkQ.then_ (OkC.block (OkC.unroll 2 (OkR.step (q4 (st' (ex_lss (c := true) rfl rfl (by decide)) rfl ?_)))))
 refine OkL.nil (q1 (OkC.cond_true rfl (OkC.skip (q1 (OkC.block ?_)))))
 refine q4 (st' (v := (pP (pB x.p) (pO x.p + 0 * 10))) (ex_index_row (j := 0) rfl rfl x.ok Tryz.underlying27 Tryz.sizeOf83 rfl (by omega)) rfl (st' (v := (aG (ptL q))) (ex_load_rowR_agg (vs := ptL q) (i := 2) rfl rfl (RowOk.ne x.ok (by omega)) tA83 rfl (ptL_len _)) rfl (al tZ83 rfl fun b3 => stW0' rfl Tryz.sizeOf83 rfl (q3 (sL [2, 4, 7, 8, 9, 6] rfl) ?_))))
 refine ldW' 0 tA83 rfl (ldW' 2 tA83 rfl (ck' Tryz.call80 (ptless_ok q a (by assumption) (by assumption)) rfl (OkL.nil (OkQ.subF (sL [2, 4, 7, 8, 9, 6, 15] rfl) (OkQ.then_ ?_)))))
 refine OkC.cond rfl (fun hc1 => ?_) (fun hc1 => ?_)
 ·replace hc1 := of_decide_eq_true hc1
  have hls : lsP a q = q := if_pos hc1
  refine OkC.region (ldW' 0 tA83 rfl (stW2' rfl Tryz.sizeOf83 rfl (OkL.nil (OkQ.subF (sL [2, 4, 7, 8, 9, 6] rfl) (OkQ.in_normal ?_)))))
  refine OkQ.then_ (OkC.region (st' (ex_add (c := (1 : Int)) rfl rfl (by decide)) rfl (mv' rfl (OkL.nil (OkQ.subF (sL [2, 4, 7, 8, 9, 6] rfl) ?_)))))
  refine OkQ.again (OkR.step (q4 (st' (ex_lss (c := false) rfl rfl (by decide)) rfl (OkL.nil (q1 ?_)))))
  refine OkC.cond_false rfl (OkC.exit (OkQ.then_exit (OkQ.then_exit (OkQ.in_exit (q2 ?_)))))
  exact ldW' 2 tA83 rfl (stW1' rfl Tryz.sizeOf83 rfl (OkL.nil (OkQ.subF (sL [2, 4, 7, 8, 9, 6] rfl) (OkQ.then_ (OkC.ret (ret_one rfl (rd_agg (i := 1) (cs := ptL q) rfl rfl Tryz.isAgg83 Tryz.sizeOf83 rfl) (fun w hw => ⟨by rw [hls], hw.out⟩)))))))
 ·replace hc1 := of_decide_eq_false hc1
  have hls : lsP a q = a := if_neg hc1
  refine OkC.skip (OkQ.in_normal (OkQ.then_ (OkC.region (st' (ex_add (c := (1 : Int)) rfl rfl (by decide)) rfl (mv' rfl ?_)))))
  refine OkL.nil (OkQ.subF (sL [2, 4, 7, 8, 9, 6] rfl) (OkQ.again (OkR.step (q4 (st' (ex_lss (c := false) rfl rfl (by decide)) rfl ?_)))))
  refine OkL.nil (q1 (OkC.cond_false rfl (OkC.exit (OkQ.then_exit (OkQ.then_exit ?_)))))
  refine OkQ.in_exit (q2 (ldW' 2 tA83 rfl (stW1' rfl Tryz.sizeOf83 rfl (OkL.nil (OkQ.subF (sL [2, 4, 7, 8, 9, 6] rfl) ?_)))))
  exact OkQ.then_ (OkC.ret (ret_one rfl (rd_agg (i := 1) (cs := ptL a) rfl rfl Tryz.isAgg83 Tryz.sizeOf83 rfl) (fun w hw => ⟨by rw [hls], hw.out⟩)))
theorem great_ok (a q : Pt) (x : RX (ptL q) 1) (ha : SzP a ≤ 1000) (hq : SzP q ≤ 1000) (w : World) {S : Nat → Prop} (hx : Ro S w x) : Calls Tryz.prog 82 #[(aG (ptL a)), (Value.slice x.p 1 x.c)] w (Gives w (aG (ptL (grP a q)))) := by
 have lx := atA (W := w) hx
 refine calls_ofR (args := [(aG (ptL a)), (Value.slice x.p 1 x.c)]) (L := [rowR x.p (ptL q)]) Tryz.func82 rfl rfl (leB rfl) (sxA hx roL_nil) (OkC.subF (sL [0, 1] rfl) (q4 (bx' (cs := ptL a) rfl fun b1 => al tZ83 rfl fun b2 => q6 (sL [1, 2, 4] rfl) ?_)))
 refine q4 (mv' rfl (st' (v := (vI 1)) (ex_len_slice rfl Tryz.underlying27) rfl (mv' rfl (OkL.nil (OkQ.subF (sL [2, 4, 7, 8, 9] rfl) ?_)))))
 refine OkQ.then_ (OkC.block (OkC.unroll 2 (OkR.step (q4 (st' (ex_lss (c := true) rfl rfl (by decide)) rfl ?_)))))
 refine OkL.nil (q1 (OkC.cond_true rfl (OkC.skip (q1 (OkC.block ?_)))))
 refine q4 (st' (v := (pP (pB x.p) (pO x.p + 0 * 10))) (ex_index_row (j := 0) rfl rfl x.ok Tryz.underlying27 Tryz.sizeOf83 rfl (by omega)) rfl (st' (v := (aG (ptL q))) (ex_load_rowR_agg (vs := ptL q) (i := 2) rfl rfl (RowOk.ne x.ok (by omega)) tA83 rfl (ptL_len _)) rfl (al tZ83 rfl fun b3 => stW0' rfl Tryz.sizeOf83 rfl (q3 (sL [2, 4, 7, 8, 9, 6] rfl) ?_))))
 refine ldW' 2 tA83 rfl (ldW' 0 tA83 rfl (ck' Tryz.call80 (ptless_ok a q (by assumption) (by assumption)) rfl (OkL.nil (OkQ.subF (sL [2, 4, 7, 8, 9, 6, 15] rfl) (OkQ.then_ ?_)))))
 refine OkC.cond rfl (fun hc1 => ?_) (fun hc1 => ?_)
 ·replace hc1 := of_decide_eq_true hc1
  have hls : grP a q = q := if_pos hc1
  refine OkC.region (ldW' 0 tA83 rfl (stW2' rfl Tryz.sizeOf83 rfl (OkL.nil (OkQ.subF (sL [2, 4, 7, 8, 9, 6] rfl) (OkQ.in_normal ?_)))))
  refine OkQ.then_ (OkC.region (st' (ex_add (c := (1 : Int)) rfl rfl (by decide)) rfl (mv' rfl (OkL.nil (OkQ.subF (sL [2, 4, 7, 8, 9, 6] rfl) ?_)))))
  refine OkQ.again (OkR.step (q4 (st' (ex_lss (c := false) rfl rfl (by decide)) rfl (OkL.nil (q1 ?_)))))
  refine OkC.cond_false rfl (OkC.exit (OkQ.then_exit (OkQ.then_exit (OkQ.in_exit (q2 ?_)))))
  exact ldW' 2 tA83 rfl (stW1' rfl Tryz.sizeOf83 rfl (OkL.nil (OkQ.subF (sL [2, 4, 7, 8, 9, 6] rfl) (OkQ.then_ (OkC.ret (ret_one rfl (rd_agg (i := 1) (cs := ptL q) rfl rfl Tryz.isAgg83 Tryz.sizeOf83 rfl) (fun w hw => ⟨by rw [hls], hw.out⟩)))))))
 ·replace hc1 := of_decide_eq_false hc1
  have hls : grP a q = a := if_neg hc1
  refine OkC.skip (OkQ.in_normal (OkQ.then_ (OkC.region (st' (ex_add (c := (1 : Int)) rfl rfl (by decide)) rfl (mv' rfl ?_)))))
  refine OkL.nil (OkQ.subF (sL [2, 4, 7, 8, 9, 6] rfl) (OkQ.again (OkR.step (q4 (st' (ex_lss (c := false) rfl rfl (by decide)) rfl ?_)))))
  refine OkL.nil (q1 (OkC.cond_false rfl (OkC.exit (OkQ.then_exit (OkQ.then_exit ?_)))))
  refine OkQ.in_exit (q2 (ldW' 2 tA83 rfl (stW1' rfl Tryz.sizeOf83 rfl (OkL.nil (OkQ.subF (sL [2, 4, 7, 8, 9, 6] rfl) ?_)))))
  exact OkQ.then_ (OkC.ret (ret_one rfl (rd_agg (i := 1) (cs := ptL a) rfl rfl Tryz.isAgg83 Tryz.sizeOf83 rfl) (fun w hw => ⟨by rw [hls], hw.out⟩)))
end
section
set_option maxRecDepth 100000
theorem tfs_numve_83_1 (x0 : Pt) : Instr.fill (fun i => some (i * 10, 10)) ((Array.range (1 * 10)).map ((Value.agg (ptL (⟨0, 0⟩ : Pt)).toArray).cells[· % (Value.agg (ptL (⟨0, 0⟩ : Pt)).toArray).cells.size]!)) [(0, .agg (ptL x0).toArray)] = some (ptL x0).toArray := by kernel_rfl
theorem pOn_ok (a b p : Pt) (ha : SzP a ≤ 1000) (hb : SzP b ≤ 1000) (hp : SzP p ≤ 1000) (w : World)  : Calls Tryz.prog 31 #[(aG (ptL a)), (aG (ptL b)), (aG (ptL p))] w (Gives w (Value.bool (decide (onS a b p)))) := by
 refine calls_of (args := [(aG (ptL a)), (aG (ptL b)), (aG (ptL p))]) Tryz.func31 rfl rfl (leB rfl) (OkC.subF (sL [0, 1, 2] rfl) (q4 (bx' (cs := ptL a) rfl fun b1 => bx' (cs := ptL b) rfl fun b2 => bx' (cs := ptL p) rfl fun b3 => asg' rfl (q6 (sL [3, 4, 5, 6] rfl) ?_))))
 by_cases k1 : turnP a b p = 0
 ·skip
  by_cases k2 : ltL p (lsP a b)
  ·skip
   refine rG' [(0, true), (1, true), (2, true), (3, false), (4, true), (5, true), (6, true), (7, true), (8, true), (9, false), (10, false), (11, false), (12, true), (13, true), (14, true), (15, true), (16, true), (19, true), (17, false), (18, false), (20, false), (21, true), (22, true), (23, true)] sr (pW' 2 tA83 rfl (pW' 1 tA83 rfl (pW' 0 tA83 rfl (OkE.imp rfl (ck' Tryz.call79 (pTurn_ok a b p (by omega)) rfl (OkE.back sr (pE' rfl (ex_eql (c := true) rfl rfl (decide_eq_true (sgn_zero k1))) (pM' rfl (OkE.pas (v := (aG (ptL p))) rfl (wt_some' rfl) (ex_load_agg (i := 0) (vs := ptL p) rfl rfl tA83.a tA83.s rfl rfl) rfl rfl (OkE.pas (v := (aG (ptL a))) rfl (wt_some' rfl) (ex_load_agg (i := 2) (vs := ptL a) rfl rfl tA83.a tA83.s rfl rfl) rfl rfl (OkE.pas (v := (aG (ptL b))) rfl (wt_some' rfl) (ex_load_agg (i := 1) (vs := ptL b) rfl rfl tA83.a tA83.s rfl rfl) rfl rfl ?_)))))))))))
   refine OkE.imp rfl (OkL.openV (V := fun b4 => (Value.slice (some ⟨b4, 0, none⟩) 1 1)) (T := 83) (cs := ptL b) (wt_some' rfl) (op_buildSlice (z := .agg (ptL (⟨0, 0⟩ : Pt)).toArray) (cs := ptL b) (pv := [(0, (aG (ptL b)))]) Tryz.underlying27 Tryz.sizeOf83 Tryz.zeroValue83 (by decide) (by decide) rfl (tfs_numve_83_1 b)) rfl (leB rfl) fun b4 => OkE.back (sl sr) (OkE.imp rfl (OkL.call (v := (aG (ptL (lsP a b)))) (wt_some' rfl) (op_call0 (args := [(aG (ptL a)), (Value.slice (some ⟨b4, 0, none⟩) 1 1)]) rfl rfl Tryz.call81) (fun w hw => least_ok a b ⟨some ⟨b4, 0, none⟩, 1, rowOk_lit _ _⟩ ha hb w (ro_blk (hw.get (i := 0) rfl))) rfl (leB rfl) (OkE.back (sl sr) (OkE.imp rfl (OkL.call (v := (Value.bool (decide (ltL p (lsP a b))))) (wt_some' rfl) (op_call0 (args := [(aG (ptL p)), (aG (ptL (lsP a b)))]) rfl rfl Tryz.call80) (fun w hw => ptless_ok p (lsP a b) hp (ls_sz ha hb) w) rfl (leB rfl) (OkE.back (sl sr) (OkE.pas (v := (Value.bool false)) rfl (wt_some' rfl) (ex_not (c := false) rfl (by simp [k2])) rfl rfl (pE' (v := (Value.bool false)) rfl (ex_pick_true rfl rfl) (pM' rfl ?_))))))))))
   refine OkE.skp rfl (wt_not' rfl) rfl rfl (OkE.skp rfl (wt_not' rfl) rfl rfl (OkE.skp rfl (wt_not' rfl) rfl rfl (OkE.imp rfl (OkL.skip (wt_not' rfl) rfl (leB rfl) (OkE.back (sl sr) (OkE.imp rfl (OkL.skip (wt_not' rfl) rfl (leB rfl) (OkE.back (sl sr) (OkE.imp rfl (OkL.skip (wt_not' rfl) rfl (leB rfl) (OkE.back (sl sr) ?_)))))))))))
   exact OkE.skp rfl (wt_not' rfl) rfl rfl (pE' (v := (Value.bool false)) rfl (ex_pick_false rfl rfl) (pS' rfl (OkE.nil (OkQ.subF (sL [6] rfl) (OkQ.then_ (OkC.ret (ret_one rfl (rd_tmp (v := (Value.bool false)) rfl) (fun w hw => ⟨by rw [show decide (onS a b p) = false from decide_eq_false (by first | exact fun h9 => h9.2.2 k3 | exact fun h9 => h9.2.1 k2 | exact fun h9 => k1 h9.1)], hw.out⟩))))))))
  ·skip
   by_cases k3 : ltL (grP a b) p
   ·skip
    refine rG' [(0, true), (1, true), (2, true), (3, false), (4, true), (5, true), (6, true), (7, true), (8, true), (9, false), (10, false), (11, false), (12, true), (13, true), (14, true), (15, true), (16, true), (19, true), (17, false), (18, false), (20, false), (21, true), (22, true), (23, true)] sr (pW' 2 tA83 rfl (pW' 1 tA83 rfl (pW' 0 tA83 rfl (OkE.imp rfl (ck' Tryz.call79 (pTurn_ok a b p (by omega)) rfl (OkE.back sr (pE' rfl (ex_eql (c := true) rfl rfl (decide_eq_true (sgn_zero k1))) (pM' rfl (OkE.pas (v := (aG (ptL p))) rfl (wt_some' rfl) (ex_load_agg (i := 0) (vs := ptL p) rfl rfl tA83.a tA83.s rfl rfl) rfl rfl (OkE.pas (v := (aG (ptL a))) rfl (wt_some' rfl) (ex_load_agg (i := 2) (vs := ptL a) rfl rfl tA83.a tA83.s rfl rfl) rfl rfl (OkE.pas (v := (aG (ptL b))) rfl (wt_some' rfl) (ex_load_agg (i := 1) (vs := ptL b) rfl rfl tA83.a tA83.s rfl rfl) rfl rfl ?_)))))))))))
    refine OkE.imp rfl (OkL.openV (V := fun b4 => (Value.slice (some ⟨b4, 0, none⟩) 1 1)) (T := 83) (cs := ptL b) (wt_some' rfl) (op_buildSlice (z := .agg (ptL (⟨0, 0⟩ : Pt)).toArray) (cs := ptL b) (pv := [(0, (aG (ptL b)))]) Tryz.underlying27 Tryz.sizeOf83 Tryz.zeroValue83 (by decide) (by decide) rfl (tfs_numve_83_1 b)) rfl (leB rfl) fun b4 => OkE.back (sl sr) (OkE.imp rfl (OkL.call (v := (aG (ptL (lsP a b)))) (wt_some' rfl) (op_call0 (args := [(aG (ptL a)), (Value.slice (some ⟨b4, 0, none⟩) 1 1)]) rfl rfl Tryz.call81) (fun w hw => least_ok a b ⟨some ⟨b4, 0, none⟩, 1, rowOk_lit _ _⟩ ha hb w (ro_blk (hw.get (i := 0) rfl))) rfl (leB rfl) (OkE.back (sl sr) (OkE.imp rfl (OkL.call (v := (Value.bool (decide (ltL p (lsP a b))))) (wt_some' rfl) (op_call0 (args := [(aG (ptL p)), (aG (ptL (lsP a b)))]) rfl rfl Tryz.call80) (fun w hw => ptless_ok p (lsP a b) hp (ls_sz ha hb) w) rfl (leB rfl) (OkE.back (sl sr) (OkE.pas (v := (Value.bool true)) rfl (wt_some' rfl) (ex_not (c := true) rfl (by simp [k2])) rfl rfl (pE' (v := (Value.bool true)) rfl (ex_pick_true rfl rfl) (pM' rfl ?_))))))))))
    refine OkE.pas (v := (aG (ptL a))) rfl (wt_some' rfl) (ex_load_agg (i := 2) (vs := ptL a) rfl rfl tA83.a tA83.s rfl rfl) rfl rfl (OkE.pas (v := (aG (ptL b))) rfl (wt_some' rfl) (ex_load_agg (i := 1) (vs := ptL b) rfl rfl tA83.a tA83.s rfl rfl) rfl rfl (OkE.pas (v := (aG (ptL p))) rfl (wt_some' rfl) (ex_load_agg (i := 0) (vs := ptL p) rfl rfl tA83.a tA83.s rfl rfl) rfl rfl (OkE.imp rfl (OkL.openV (V := fun b5 => (Value.slice (some ⟨b5, 0, none⟩) 1 1)) (T := 83) (cs := ptL b) (wt_some' rfl) (op_buildSlice (z := .agg (ptL (⟨0, 0⟩ : Pt)).toArray) (cs := ptL b) (pv := [(0, (aG (ptL b)))]) Tryz.underlying27 Tryz.sizeOf83 Tryz.zeroValue83 (by decide) (by decide) rfl (tfs_numve_83_1 b)) rfl (leB rfl) fun b5 => OkE.back (sl (sl sr)) (OkE.imp rfl (OkL.call (v := (aG (ptL (grP a b)))) (wt_some' rfl) (op_call0 (args := [(aG (ptL a)), (Value.slice (some ⟨b5, 0, none⟩) 1 1)]) rfl rfl Tryz.call82) (fun w hw => great_ok a b ⟨some ⟨b5, 0, none⟩, 1, rowOk_lit _ _⟩ ha hb w (ro_blk (hw.get (i := 0) rfl))) rfl (leB rfl) (OkE.back (sl (sl sr)) (OkE.imp rfl (OkL.call (v := (Value.bool (decide (ltL (grP a b) p)))) (wt_some' rfl) (op_call0 (args := [(aG (ptL (grP a b))), (aG (ptL p))]) rfl rfl Tryz.call80) (fun w hw => ptless_ok (grP a b) p (gr_sz ha hb) hp w) rfl (leB rfl) (OkE.back (sl (sl sr)) ?_))))))))))
    exact OkE.pas (v := (Value.bool false)) rfl (wt_some' rfl) (ex_not (c := false) rfl (by simp [k3])) rfl rfl (pE' (v := (Value.bool false)) rfl (ex_pick_true rfl rfl) (pS' rfl (OkE.nil (OkQ.subF (sL [6] rfl) (OkQ.then_ (OkC.ret (ret_one rfl (rd_tmp (v := (Value.bool false)) rfl) (fun w hw => ⟨by rw [show decide (onS a b p) = false from decide_eq_false (by first | exact fun h9 => h9.2.2 k3 | exact fun h9 => h9.2.1 k2 | exact fun h9 => k1 h9.1)], hw.out⟩))))))))
   ·skip
    refine rG' [(0, true), (1, true), (2, true), (3, false), (4, true), (5, true), (6, true), (7, true), (8, true), (9, false), (10, false), (11, false), (12, true), (13, true), (14, true), (15, true), (16, true), (19, true), (17, false), (18, false), (20, false), (21, true), (22, true), (23, true)] sr (pW' 2 tA83 rfl (pW' 1 tA83 rfl (pW' 0 tA83 rfl (OkE.imp rfl (ck' Tryz.call79 (pTurn_ok a b p (by omega)) rfl (OkE.back sr (pE' rfl (ex_eql (c := true) rfl rfl (decide_eq_true (sgn_zero k1))) (pM' rfl (OkE.pas (v := (aG (ptL p))) rfl (wt_some' rfl) (ex_load_agg (i := 0) (vs := ptL p) rfl rfl tA83.a tA83.s rfl rfl) rfl rfl (OkE.pas (v := (aG (ptL a))) rfl (wt_some' rfl) (ex_load_agg (i := 2) (vs := ptL a) rfl rfl tA83.a tA83.s rfl rfl) rfl rfl (OkE.pas (v := (aG (ptL b))) rfl (wt_some' rfl) (ex_load_agg (i := 1) (vs := ptL b) rfl rfl tA83.a tA83.s rfl rfl) rfl rfl ?_)))))))))))
    refine OkE.imp rfl (OkL.openV (V := fun b4 => (Value.slice (some ⟨b4, 0, none⟩) 1 1)) (T := 83) (cs := ptL b) (wt_some' rfl) (op_buildSlice (z := .agg (ptL (⟨0, 0⟩ : Pt)).toArray) (cs := ptL b) (pv := [(0, (aG (ptL b)))]) Tryz.underlying27 Tryz.sizeOf83 Tryz.zeroValue83 (by decide) (by decide) rfl (tfs_numve_83_1 b)) rfl (leB rfl) fun b4 => OkE.back (sl sr) (OkE.imp rfl (OkL.call (v := (aG (ptL (lsP a b)))) (wt_some' rfl) (op_call0 (args := [(aG (ptL a)), (Value.slice (some ⟨b4, 0, none⟩) 1 1)]) rfl rfl Tryz.call81) (fun w hw => least_ok a b ⟨some ⟨b4, 0, none⟩, 1, rowOk_lit _ _⟩ ha hb w (ro_blk (hw.get (i := 0) rfl))) rfl (leB rfl) (OkE.back (sl sr) (OkE.imp rfl (OkL.call (v := (Value.bool (decide (ltL p (lsP a b))))) (wt_some' rfl) (op_call0 (args := [(aG (ptL p)), (aG (ptL (lsP a b)))]) rfl rfl Tryz.call80) (fun w hw => ptless_ok p (lsP a b) hp (ls_sz ha hb) w) rfl (leB rfl) (OkE.back (sl sr) (OkE.pas (v := (Value.bool true)) rfl (wt_some' rfl) (ex_not (c := true) rfl (by simp [k2])) rfl rfl (pE' (v := (Value.bool true)) rfl (ex_pick_true rfl rfl) (pM' rfl ?_))))))))))
    refine OkE.pas (v := (aG (ptL a))) rfl (wt_some' rfl) (ex_load_agg (i := 2) (vs := ptL a) rfl rfl tA83.a tA83.s rfl rfl) rfl rfl (OkE.pas (v := (aG (ptL b))) rfl (wt_some' rfl) (ex_load_agg (i := 1) (vs := ptL b) rfl rfl tA83.a tA83.s rfl rfl) rfl rfl (OkE.pas (v := (aG (ptL p))) rfl (wt_some' rfl) (ex_load_agg (i := 0) (vs := ptL p) rfl rfl tA83.a tA83.s rfl rfl) rfl rfl (OkE.imp rfl (OkL.openV (V := fun b5 => (Value.slice (some ⟨b5, 0, none⟩) 1 1)) (T := 83) (cs := ptL b) (wt_some' rfl) (op_buildSlice (z := .agg (ptL (⟨0, 0⟩ : Pt)).toArray) (cs := ptL b) (pv := [(0, (aG (ptL b)))]) Tryz.underlying27 Tryz.sizeOf83 Tryz.zeroValue83 (by decide) (by decide) rfl (tfs_numve_83_1 b)) rfl (leB rfl) fun b5 => OkE.back (sl (sl sr)) (OkE.imp rfl (OkL.call (v := (aG (ptL (grP a b)))) (wt_some' rfl) (op_call0 (args := [(aG (ptL a)), (Value.slice (some ⟨b5, 0, none⟩) 1 1)]) rfl rfl Tryz.call82) (fun w hw => great_ok a b ⟨some ⟨b5, 0, none⟩, 1, rowOk_lit _ _⟩ ha hb w (ro_blk (hw.get (i := 0) rfl))) rfl (leB rfl) (OkE.back (sl (sl sr)) (OkE.imp rfl (OkL.call (v := (Value.bool (decide (ltL (grP a b) p)))) (wt_some' rfl) (op_call0 (args := [(aG (ptL (grP a b))), (aG (ptL p))]) rfl rfl Tryz.call80) (fun w hw => ptless_ok (grP a b) p (gr_sz ha hb) hp w) rfl (leB rfl) (OkE.back (sl (sl sr)) ?_))))))))))
    exact OkE.pas (v := (Value.bool true)) rfl (wt_some' rfl) (ex_not (c := true) rfl (by simp [k3])) rfl rfl (pE' (v := (Value.bool true)) rfl (ex_pick_true rfl rfl) (pS' rfl (OkE.nil (OkQ.subF (sL [6] rfl) (OkQ.then_ (OkC.ret (ret_one rfl (rd_tmp (v := (Value.bool true)) rfl) (fun w hw => ⟨by rw [show decide (onS a b p) = true from decide_eq_true ⟨k1, k2, k3⟩], hw.out⟩))))))))
 ·skip
  refine rG' [(0, true), (1, true), (2, true), (3, false), (4, true), (5, true), (6, true), (7, true), (8, true), (9, false), (10, false), (11, false), (12, true), (13, true), (14, true), (15, true), (16, true), (19, true), (17, false), (18, false), (20, false), (21, true), (22, true), (23, true)] sr (pW' 2 tA83 rfl (pW' 1 tA83 rfl (pW' 0 tA83 rfl (OkE.imp rfl (ck' Tryz.call79 (pTurn_ok a b p (by omega)) rfl (OkE.back sr (pE' rfl (ex_eql (c := false) rfl rfl (decide_eq_false (fun h9 => k1 (sgn_eq0 h9)))) (pM' rfl (OkE.skp rfl (wt_not' rfl) rfl rfl (OkE.skp rfl (wt_not' rfl) rfl rfl (OkE.skp rfl (wt_not' rfl) rfl rfl ?_)))))))))))
  refine OkE.imp rfl (OkL.skip (wt_not' rfl) rfl (leB rfl) (OkE.back sr (OkE.imp rfl (OkL.skip (wt_not' rfl) rfl (leB rfl) (OkE.back sr (OkE.imp rfl (OkL.skip (wt_not' rfl) rfl (leB rfl) (OkE.back sr (OkE.skp rfl (wt_not' rfl) rfl rfl (pE' (v := (Value.bool false)) rfl (ex_pick_false rfl rfl) (pM' rfl ?_)))))))))))
  refine OkE.skp rfl (wt_not' rfl) rfl rfl (OkE.skp rfl (wt_not' rfl) rfl rfl (OkE.skp rfl (wt_not' rfl) rfl rfl (OkE.imp rfl (OkL.skip (wt_not' rfl) rfl (leB rfl) (OkE.back sr (OkE.imp rfl (OkL.skip (wt_not' rfl) rfl (leB rfl) (OkE.back sr (OkE.imp rfl (OkL.skip (wt_not' rfl) rfl (leB rfl) (OkE.back sr ?_)))))))))))
  exact OkE.skp rfl (wt_not' rfl) rfl rfl (pE' (v := (Value.bool false)) rfl (ex_pick_false rfl rfl) (pS' rfl (OkE.nil (OkQ.subF (sL [6] rfl) (OkQ.then_ (OkC.ret (ret_one rfl (rd_tmp (v := (Value.bool false)) rfl) (fun w hw => ⟨by rw [show decide (onS a b p) = false from decide_eq_false (by first | exact fun h9 => h9.2.2 k3 | exact fun h9 => h9.2.1 k2 | exact fun h9 => k1 h9.1)], hw.out⟩))))))))
end
section
abbrev mdC (ps : List Pt) (l : List E4) : List (P2 × Nat) := midS ps.length l l.length
structure CutD (ps : List Pt) (ts ss : List T3) (l : List E4) (ms : List Int) : Prop where
  g : GoodM ps ts
  hn : numB ps.length ts = true
  sd : ∃ mm, ss = sidesW mm ts ps.length ps.length
  cut : ∃ p : E4 → Bool, l = (edL ts).filter p ∧ ∀ e, p e = true ↔ Clo ts (MkK ts ms) (e.a, e.b)
def sqD2 (pf : List Pt) (s : T3) : Rat := dotP (pf.getD s.2.1 ⟨0, 0⟩ - pf.getD s.1 ⟨0, 0⟩) (pf.getD s.2.1 ⟨0, 0⟩ - pf.getD s.1 ⟨0, 0⟩)
def onK (ps pf : List Pt) (k s : T3) : Bool := decide (onS (ps.getD k.1 ⟨0, 0⟩) (ps.getD k.2.1 ⟨0, 0⟩) (pf.getD s.1 ⟨0, 0⟩)) && decide (onS (ps.getD k.1 ⟨0, 0⟩) (ps.getD k.2.1 ⟨0, 0⟩) (pf.getD s.2.1 ⟨0, 0⟩))
def smN (f : Nat → Nat) : Nat → Nat
  | 0 => 0
  | k + 1 => smN f k + f k
section
variable {ps : List Pt} {es : List E4} {N : Nat} {ss : List T3}
theorem halN_eq : ∀ i, i ≤ es.length → halN ps es i = ps ++ (es.take i).map (mdE ps)
  | 0, _ => by simp [halN]
  | i + 1, h => by
    rw [halN, halN_eq i (by omega), take_succ_getD (d := E0) (show i < es.length by omega), List.map_append, List.append_assoc]; rfl
theorem pf_old {i : Nat} (h : i < ps.length) : (halP ps es).getD i ⟨0, 0⟩ = ps.getD i ⟨0, 0⟩ := by
  unfold halP
  rw [halN_eq _ (Nat.le_refl _), List.getD, List.getElem?_append_left h]; rfl
theorem pf_new {j : Nat} (h : j < es.length) : (halP ps es).getD (ps.length + j) ⟨0, 0⟩ = mdE ps (es.getD j E0) := by
  unfold halP
  rw [halN_eq _ (Nat.le_refl _), List.take_length, List.getD, List.getElem?_append_right (by omega), show ps.length + j - ps.length = j by omega, List.getElem?_map, List.getD, List.getElem?_eq_getElem h]; rfl
theorem halS_old {k : P2} (hk : k.2 < N) : ∀ i, getM (halS N ss es i) k = getM (sidS N ss ss.length) k
  | 0 => rfl
  | i + 1 => by
    have ne : ∀ a, k ≠ kyE a (N + i) := fun a e => by
      rw [e] at hk
      unfold kyE at hk
      simp only at hk
      omega
    show getM (putM (putM _ _ _) _ _) k = _
    rw [getM_put, if_neg (ne _), getM_put, if_neg (ne _), halS_old hk i]
theorem halS_new {j x : Nat} (hj : (es.getD j E0).a < N ∧ (es.getD j E0).b < N) (hx : x = (es.getD j E0).a ∨ x = (es.getD j E0).b) : ∀ i, j < i → getM (halS N ss es i) (x, N + j) = some ((getM (sidS N ss ss.length) (kyE (es.getD j E0).a (es.getD j E0).b)).getD 0)
  | 0, h => absurd h (Nat.not_lt_zero _)
  | i + 1, h => by
    show getM (putM (putM _ _ _) _ _) _ = _
    rw [getM_put, getM_put]
    rcases Nat.lt_or_ge j i with h1 | h1
    · have ne : ∀ a, ((x, N + j) : P2) ≠ kyE a (N + i) := fun a e => by
        have := congrArg Prod.snd e
        unfold kyE at this
        simp only at this
        omega
      rw [if_neg (ne _), if_neg (ne _), halS_new hj hx i h1]
    · have e : i = j := by omega
      subst e
      have hv := halS_old (ss := ss) (es := es) (N := N) (k := kyE (es.getD i E0).a (es.getD i E0).b) (by unfold kyE; simp only; omega) i
      rw [hv, (kyE_hi hj.1 (Nat.le_add_right N i)).2, (kyE_hi hj.2 (Nat.le_add_right N i)).2]
      split
      · rfl
      · rename_i h2
        rw [if_pos]
        rcases hx with rfl | rfl
        · rfl
        · exact absurd rfl h2
end
section
variable {ps : List Pt} {ts ss : List T3} {l : List E4} {ms : List Int}
theorem CutD.hN (D : CutD ps ts ss l ms) : ps.length ≤ 108 := D.g.pl
theorem CutD.get (D : CutD ps ts ss l ms) {k : P2} {n : Nat} (h : getM (mdC ps l) k = some n) : Clo ts (MkK ts ms) k ∧ ∃ j, j < l.length ∧ n = ps.length + j ∧ k = ((l.getD j E0).a, (l.getD j E0).b) ∧ (l.getD j E0).a < ps.length ∧ (l.getD j E0).b < ps.length := by
  obtain ⟨p, hl, ha⟩ := D.cut
  have hN := D.hN
  obtain ⟨j, hj, hk, hn⟩ := midS_some _ h
  have hm : l.getD j E0 ∈ l := by rw [List.getD, List.getElem?_eq_getElem hj]; exact List.getElem_mem _
  have hs := (cut_sorted D.hn (by omega) hl).2 _ hm
  have h2 := filter_two D.hn (by omega) hl _ hm
  have e : kyE (l.getD j E0).a (l.getD j E0).b = ((l.getD j E0).a, (l.getD j E0).b) := by
    unfold kyE
    rw [Nat.min_eq_left (by omega), Nat.max_eq_right (by omega)]
  rw [e] at hk
  refine ⟨?_, j, hj, hn, hk.symm, h2⟩
  rw [← hk]
  rw [hl] at hm
  have := (List.mem_filter.1 hm).2
  rw [← hl] at this
  exact (ha _).1 this
theorem CutD.mid (D : CutD ps ts ss l ms) : MidM (mdC ps l) ps.length := ⟨fun k n h => by
  obtain ⟨_, j, _, hn, _⟩ := D.get h
  omega, fun k k' n h h' => Decidable.byContradiction fun hc => mid_ne h h' hc rfl⟩
theorem CutD.closed (D : CutD ps ts ss l ms) {t : T3} (ht : t ∈ ts) (hb : getM (mdC ps l) (baseK t) = none) : getM (mdC ps l) (kyE t.1 t.2.1) = none ∧ getM (mdC ps l) (kyE t.2.2 t.1) = none := by
  obtain ⟨p, hl, ha⟩ := D.cut
  have hN := D.hN
  have key : ∀ k, (k = kyE t.1 t.2.1 ∨ k = kyE t.2.2 t.1) → getM (mdC ps l) k = none := fun k hk => by
    cases hg : getM (mdC ps l) k with
    | none => rfl
    | some n =>
      obtain ⟨n', hn'⟩ := mid_of (M := ps.length) D.hn (by omega) hl ha (keys_of ht).2.1 (.up ht (D.get hg).1 hk)
      have hn' : getM (mdC ps l) (baseK t) = some n' := hn'
      rw [hb] at hn'
      cases hn'
  exact ⟨key _ (.inl rfl), key _ (.inr rfl)⟩
theorem CutD.ends (D : CutD ps ts ss l ms) {k : P2} (hk : k ∈ allK ts) : k.1 < k.2 ∧ k.2 < ps.length := key_ends D.hn (by have := D.hN; omega) hk
theorem CutD.llen (D : CutD ps ts ss l ms) : l.length ≤ 108 := by
  obtain ⟨p, hl, ha⟩ := D.cut
  have h1 := filter_le hl
  have h2 := edL_le ts
  have h3 := D.g.tl
  omega
theorem CutD.num (D : CutD ps ts ss l ms) : numB (ps.length + l.length) (hvA (mdC ps l) ts) = true := hvA_num D.hn
theorem CutD.rim (D : CutD ps ts ss l ms) {s : T3} : s ∈ rimL (hvA (mdC ps l) ts) ↔ (∃ k, (allK ts).count k = 1 ∧ (s.1, s.2.1) ∈ dvK (mdC ps l) k) ∧ s.2.2 = 0 :=
  sub_rim D.mid (fun k hk => D.ends hk) D.num (by have := D.hN; have := D.llen; omega) (sub_cnt fun t ht => hv_cnt D.mid (trN_of (List.all_eq_true.1 D.hn t ht)) (D.closed ht))
theorem CutD.side (D : CutD ps ts ss l ms) {k : T3} (hk : k ∈ ss) : (allK ts).count (k.1, k.2.1) = 1 ∧ k.1 < k.2.1 ∧ k.2.1 < ps.length := by
  obtain ⟨mm, hs⟩ := D.sd
  rw [hs] at hk
  obtain ⟨_, h2, h3, h4, _⟩ := (sidesW_mem _).1 hk
  rw [cntW_all D.hn h2] at h4
  exact ⟨h4, h2, h3⟩
theorem CutD.side_of (D : CutD ps ts ss l ms) {k : P2} (hk : (allK ts).count k = 1) : ∃ s ∈ ss, (s.1, s.2.1) = k := by
  obtain ⟨mm, hs⟩ := D.sd
  obtain ⟨a, b⟩ := k
  obtain ⟨h1, h2⟩ := D.ends (List.count_pos_iff.1 (show 0 < (allK ts).count (a, b) by rw [hk]; decide))
  refine ⟨sidW mm a b, ?_, rfl⟩
  rw [hs]
  exact (sidesW_mem _).2 ⟨by show a < _; simp only at h1 h2; omega, h1, h2, by rw [← hk]; exact cntW_all D.hn h1, rfl⟩
theorem CutD.side_eq (D : CutD ps ts ss l ms) {k k' : T3} (hk : k ∈ ss) (hk' : k' ∈ ss) (h : (k.1, k.2.1) = (k'.1, k'.2.1)) : k = k' := by
  obtain ⟨mm, hs⟩ := D.sd
  rw [hs] at hk hk'
  obtain ⟨_, _, _, _, e⟩ := (sidesW_mem _).1 hk
  obtain ⟨_, _, _, _, e'⟩ := (sidesW_mem _).1 hk'
  injection h with h1 h2
  rw [e, e', h1, h2]
theorem CutD.edge (D : CutD ps ts ss l ms) {k : P2} (hk : (allK ts).count k = 1) : k ∈ allK ts := List.count_pos_iff.1 (by rw [hk]; decide)
theorem CutD.pmid (D : CutD ps ts ss l ms) {k : P2} {n : Nat} (h : getM (mdC ps l) k = some n) : (halP ps l).getD n ⟨0, 0⟩ = scaleP (ps.getD k.1 ⟨0, 0⟩ + ps.getD k.2 ⟨0, 0⟩) (1 / 2) := by
  obtain ⟨_, j, hj, hn, hk, _⟩ := D.get h
  rw [hn, pf_new hj, hk]; rfl
theorem CutD.on_fwd (D : CutD ps ts ss l ms) {k k' κ : P2} (hk : (allK ts).count k = 1) (hk' : (allK ts).count k' = 1) (hκ : κ ∈ dvK (mdC ps l) k') (h1 : onS (ps.getD k.1 ⟨0, 0⟩) (ps.getD k.2 ⟨0, 0⟩) ((halP ps l).getD κ.1 ⟨0, 0⟩)) (h2 : onS (ps.getD k.1 ⟨0, 0⟩) (ps.getD k.2 ⟨0, 0⟩) ((halP ps l).getD κ.2 ⟨0, 0⟩)) : k' = k := by
  obtain ⟨t, r, he⟩ := edg_of (D.edge hk)
  obtain ⟨s, r', he'⟩ := edg_of (D.edge hk')
  have b := D.ends (D.edge hk)
  have b' := D.ends (D.edge hk')
  cases hg : getM (mdC ps l) k' with
  | none =>
    rw [dvK_none hg, List.mem_singleton] at hκ
    subst hκ
    rw [pf_old (by omega)] at h1
    rw [pf_old b'.2] at h2
    have c1 := on_end D.g he (by omega) h1
    have c2 := on_end D.g he b'.2 h2
    exact Prod.ext (by omega) (by omega)
  | some n =>
    have hx : κ.2 = n ∧ (κ.1 = k'.1 ∨ κ.1 = k'.2) := by
      rw [dvK_some hg] at hκ
      simp only [List.mem_cons, List.not_mem_nil, or_false] at hκ
      rcases hκ with rfl | rfl
      · exact ⟨rfl, .inl rfl⟩
      · exact ⟨rfl, .inr rfl⟩
    rw [pf_old (by omega)] at h1
    rw [hx.1, D.pmid hg] at h2
    exact on_mid D.g he he' b.1 b'.1 b'.2 hx.2 h1 h2
theorem CutD.on_bwd (D : CutD ps ts ss l ms) {k κ : P2} (hk : (allK ts).count k = 1) (hκ : κ ∈ dvK (mdC ps l) k) : onS (ps.getD k.1 ⟨0, 0⟩) (ps.getD k.2 ⟨0, 0⟩) ((halP ps l).getD κ.1 ⟨0, 0⟩) ∧ onS (ps.getD k.1 ⟨0, 0⟩) (ps.getD k.2 ⟨0, 0⟩) ((halP ps l).getD κ.2 ⟨0, 0⟩) := by
  have b := D.ends (D.edge hk)
  have hne : ps.getD k.1 ⟨0, 0⟩ ≠ ps.getD k.2 ⟨0, 0⟩ := fun e => by have := mesh_dst D.g (by omega) b.2 e; omega
  obtain ⟨e1, e2, e3⟩ := onS_ends hne
  cases hg : getM (mdC ps l) k with
  | none =>
    rw [dvK_none hg, List.mem_singleton] at hκ
    subst hκ
    rw [pf_old (by omega), pf_old b.2]
    exact ⟨e1, e2⟩
  | some n =>
    rw [dvK_some hg] at hκ
    simp only [List.mem_cons, List.not_mem_nil, or_false] at hκ
    rcases hκ with rfl | rfl
    · rw [pf_old (by show k.1 < _; omega), D.pmid hg]; exact ⟨e1, e3⟩
    · rw [pf_old (by show k.2 < _; omega), D.pmid hg]; exact ⟨e2, e3⟩
theorem CutD.sq (D : CutD ps ts ss l ms) {k : P2} (hk : (allK ts).count k = 1) : ∃ v : Rat, (∀ κ ∈ dvK (mdC ps l) k, ∀ m, sqD2 (halP ps l) (κ.1, κ.2, m) = v) ∧ (((dvK (mdC ps l) k).length = 1 ∧ v = dotP (ps.getD k.2 ⟨0, 0⟩ - ps.getD k.1 ⟨0, 0⟩) (ps.getD k.2 ⟨0, 0⟩ - ps.getD k.1 ⟨0, 0⟩)) ∨ ((dvK (mdC ps l) k).length = 2 ∧ v * 4 = dotP (ps.getD k.2 ⟨0, 0⟩ - ps.getD k.1 ⟨0, 0⟩) (ps.getD k.2 ⟨0, 0⟩ - ps.getD k.1 ⟨0, 0⟩))) := by
  have b := D.ends (D.edge hk)
  cases hg : getM (mdC ps l) k with
  | none =>
    rw [dvK_none hg]
    refine ⟨_, fun κ hκ m => ?_, .inl ⟨rfl, rfl⟩⟩
    rw [List.mem_singleton] at hκ
    subst hκ
    show dotP ((halP ps l).getD κ.2 ⟨0, 0⟩ - (halP ps l).getD κ.1 ⟨0, 0⟩) ((halP ps l).getD κ.2 ⟨0, 0⟩ - (halP ps l).getD κ.1 ⟨0, 0⟩) = _
    rw [pf_old (i := κ.1) (by omega), pf_old (i := κ.2) b.2]
  | some n =>
    rw [dvK_some hg]
    obtain ⟨q1, q2⟩ := sq_half (u := ps.getD k.1 ⟨0, 0⟩) (v := ps.getD k.2 ⟨0, 0⟩)
    refine ⟨_, fun κ hκ m => ?_, .inr ⟨rfl, q1⟩⟩
    simp only [List.mem_cons, List.not_mem_nil, or_false] at hκ
    rcases hκ with rfl | rfl
    · show dotP ((halP ps l).getD n ⟨0, 0⟩ - (halP ps l).getD k.1 ⟨0, 0⟩) ((halP ps l).getD n ⟨0, 0⟩ - (halP ps l).getD k.1 ⟨0, 0⟩) = _
      rw [pf_old (i := k.1) (by omega), D.pmid hg]
    · show dotP ((halP ps l).getD n ⟨0, 0⟩ - (halP ps l).getD k.2 ⟨0, 0⟩) ((halP ps l).getD n ⟨0, 0⟩ - (halP ps l).getD k.2 ⟨0, 0⟩) = _
      rw [pf_old (i := k.2) (by omega), D.pmid hg]
      grind
theorem CutD.mark (D : CutD ps ts ss l ms) {k : T3} {κ : P2} (hk : k ∈ ss) (hκ : κ ∈ dvK (mdC ps l) (k.1, k.2.1)) : mrkV ps.length ss l κ.1 κ.2 = k.2.2 := by
  obtain ⟨c, hlt, hlN⟩ := D.side hk
  obtain ⟨j, hj, rfl⟩ := List.getElem_of_mem hk
  have ej : ss.getD j (0, 0, 0) = ss[j] := by rw [List.getD, List.getElem?_eq_getElem hj]; rfl
  have mem : ∀ i, i < ss.length → ss.getD i (0, 0, 0) ∈ ss := fun i hi => by rw [List.getD, List.getElem?_eq_getElem hi]; exact List.getElem_mem _
  have ky : ∀ {a b : Nat}, a < b → kyE a b = (a, b) := fun {a b} h => by
    unfold kyE
    rw [Nat.min_eq_left (by omega), Nat.max_eq_right (by omega)]
  have hnd : ∀ i i', i < ss.length → i' < ss.length → ss.getD i (0, 0, 0) = ss.getD i' (0, 0, 0) → i = i' := fun i i' hi hi' e => by
    obtain ⟨mm, hs⟩ := D.sd
    have hp : ss.Pairwise LtS := by rw [hs]; exact sidesW_sorted _
    rw [List.getD, List.getElem?_eq_getElem hi, List.getD, List.getElem?_eq_getElem hi'] at e
    have e : ss[i] = ss[i'] := e
    have hp := List.pairwise_iff_getElem.1 hp
    rcases Nat.lt_trichotomy i i' with h | h | h
    · have := hp i i' hi hi' h; rw [e] at this; unfold LtS at this; omega
    · exact h
    · have := hp i' i hi' hi h; rw [e] at this; unfold LtS at this; omega
  have at_ := sidS_at (N := ps.length) (ss := ss) (fun i hi => by have := D.side (mem i hi); omega) (fun i i' hi hi' e => by
    rw [ky (D.side (mem i hi)).2.1, ky (D.side (mem i' hi')).2.1] at e
    exact hnd i i' hi hi' (D.side_eq (mem i hi) (mem i' hi') e)) ss.length (Nat.le_refl _) j (by omega) hj
  rw [ej, ky hlt] at at_
  unfold mrkV
  cases hg : getM (mdC ps l) (ss[j].1, ss[j].2.1) with
  | none =>
    rw [dvK_none hg, List.mem_singleton] at hκ
    rw [hκ]
    show (getM (halS ps.length ss l l.length) (kyE ss[j].1 ss[j].2.1)).getD 0 = _
    rw [ky hlt, halS_old hlN, at_]; rfl
  | some n =>
    obtain ⟨_, i, hi, hn, hki, hb⟩ := D.get hg
    have hx : κ.2 = n ∧ (κ.1 = (l.getD i E0).a ∨ κ.1 = (l.getD i E0).b) := by
      rw [dvK_some hg, hki] at hκ
      simp only [List.mem_cons, List.not_mem_nil, or_false] at hκ
      rcases hκ with rfl | rfl
      · exact ⟨rfl, .inl rfl⟩
      · exact ⟨rfl, .inr rfl⟩
    have hab : (l.getD i E0).a < (l.getD i E0).b := by
      have h9 := congrArg Prod.fst hki
      have h8 := congrArg Prod.snd hki
      simp only at h9 h8
      omega
    rw [hx.1, (kyE_hi (show κ.1 < ps.length by omega) (show ps.length ≤ n by omega)).2, hn, halS_new hb hx.2 _ hi, ky hab, ← hki, at_]; rfl
end
end
section
def stpN (ts : List T3) : Nat → List (P2 × Nat)
  | 0 => []
  | s + 1 => putM (stpN ts s) (dirE ts s) (s / 3)
section
variable {ts : List T3} {N t r s : Nat}
end
structure SX (ts : List T3) (o : Bool) where
  b : Nat
  kvs : List (P2 × Nat)
  ok : OkM okE kvs
  fin : o = true → kvs = stpN ts (3 * ts.length)
instance {ts : List T3} {o : Bool} : Ref (SX ts o) := ⟨fun x => .tuple #[.map (some x.b), .bool o], fun x => [mapR x.b kEd vN x.kvs], fun x y hy => by rcases List.mem_singleton.1 hy with rfl; rfl⟩
theorem rimL_le {ts : List T3} : (rimL ts).length ≤ 3 * ts.length := by
  have h1 := rimN_len (ts := ts) (edL ts).length
  have h2 := edL_le ts
  show (rimN ts (edL ts).length).length ≤ _
  omega
end
end Go.Proofs.YtgiacpkjnikjdaaGreat
