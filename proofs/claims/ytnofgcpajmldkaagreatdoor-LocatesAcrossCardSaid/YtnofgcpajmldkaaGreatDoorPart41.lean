import Derived.Test.YtnofgcpajmldkaaGreatDoorPart05
import Derived.Test.YtnofgcpajmldkaaGreatDoorPart21
import Derived.Test.YtnofgcpajmldkaaGreatDoorPart40
namespace Go.Proofs.YtnofgcpajmldkaaGreatDoor
open Go Go.RowKit
set_option linter.unusedVariables false
set_option linter.unusedSimpArgs false
section
set_option maxRecDepth 100000
theorem ptless_ok (p q : Pt) (hp : SzP p ≤ 1000) (hq : SzP q ≤ 1000) (w : World)  : Calls Tryz.prog 68 #[(aG (ptL p)), (aG (ptL q))] w (Gives w (Value.bool (decide (ltL p q)))) := by
 have y1 := SzP_x p
 have y2 := SzP_x q
 have y3 := SzP_y p
 have y4 := SzP_y q
 refine calls_of (args := [(aG (ptL p)), (aG (ptL q))]) Tryz.func68 rfl rfl (leB rfl) (OkC.subF (sL [0, 1] rfl) (q4 (bx' (cs := ptL p) rfl fun b1 => bx' (cs := ptL q) rfl fun b2 => asg' rfl ?_)))
 refine q6 (sL [2, 3, 4] rfl) (q4 (st' (v := (pP b1 0)) (ex_fieldAddr rfl Tryz.underlying49 rfl Tryz.sizeOf47 rfl) rfl (ldA' 1 (fracL p.x) tA47 rfl (st' (v := (pP b2 0)) (ex_fieldAddr rfl Tryz.underlying49 rfl Tryz.sizeOf47 rfl) rfl (ldA' 0 (fracL q.x) tA47 rfl ?_)))))
 refine ck' Tryz.call26 (fCmp_ok p.x q.x (by omega)) rfl (asg' rfl (q3 (sL [2, 3, 4, 5] rfl) (mv' rfl (st' (ex_neq (c := (decide ((cmpQ p.x q.x) ≠ (0 : Int)))) rfl rfl rfl) rfl (OkL.nil ?_)))))
 refine OkQ.subF (sL [2, 3, 4, 5, 12] rfl) (OkQ.then_ ?_)
 refine OkC.cond rfl (fun hc0 => ?_) (fun hc0 => ?_)
 ·replace hc0 := of_decide_eq_true hc0
  refine q4 (mv' rfl (st' (ex_lss (c := (decide ((cmpQ p.x q.x) < (0 : Int)))) rfl rfl rfl) rfl (asg' rfl (OkL.nil (OkQ.subF (sL [2, 3, 4, 5] rfl) ?_)))))
  exact OkQ.then_ (OkC.ret (OkQ.then_ret (ret_one rfl (rd_tmp (v := (Value.bool (decide ((cmpQ p.x q.x) < (0 : Int))))) rfl) (fun w hw => ⟨by rw [less_1 hc0], hw.out⟩))))
 ·replace hc0 := of_decide_eq_false hc0
  refine OkC.skip (q2 (st' (v := (pP b1 5)) (ex_fieldAddr rfl Tryz.underlying49 rfl Tryz.sizeOf47 rfl) rfl (ldA' 1 (fracL p.y) tA47 rfl (st' (v := (pP b2 5)) (ex_fieldAddr rfl Tryz.underlying49 rfl Tryz.sizeOf47 rfl) rfl (ldA' 0 (fracL q.y) tA47 rfl ?_)))))
  refine ck' Tryz.call26 (fCmp_ok p.y q.y (by omega)) rfl (st' (ex_lss (c := (decide ((cmpQ p.y q.y) < (0 : Int)))) rfl rfl rfl) rfl (asg' rfl (OkL.nil (OkQ.subF (sL [2, 3, 4, 5] rfl) (OkQ.then_ ?_)))))
  exact OkC.ret (ret_one rfl (rd_tmp (v := (Value.bool (decide ((cmpQ p.y q.y) < (0 : Int))))) rfl) (fun w hw => ⟨by rw [less_2 (Decidable.not_not.1 hc0)], hw.out⟩))
theorem least_ok (a q : Pt) (x : RX (ptL q) 1) (ha : SzP a ≤ 1000) (hq : SzP q ≤ 1000) (w : World) {S : Nat → Prop} (hx : Ro S w x) : Calls Tryz.prog 67 #[(aG (ptL a)), (Value.slice x.p 1 x.c)] w (Gives w (aG (ptL (lsP a q)))) := by
 have lx := atA (W := w) hx
 refine calls_ofR (args := [(aG (ptL a)), (Value.slice x.p 1 x.c)]) (L := [rowR x.p (ptL q)]) Tryz.func67 rfl rfl (leB rfl) (sxA hx roL_nil) (OkC.subF (sL [0, 1] rfl) (q4 (bx' (cs := ptL a) rfl fun b1 => al tZ49 rfl fun b2 => q6 (sL [1, 2, 4] rfl) ?_)))
 refine q4 (mv' rfl (st' (v := (vI 1)) (ex_len_slice rfl Tryz.underlying33) rfl (mv' rfl (OkL.nil (OkQ.subF (sL [2, 4, 7, 8, 9] rfl) ?_)))))
 refine OkQ.then_ (OkC.block (OkC.unroll 2 (OkR.step (q4 (st' (ex_lss (c := true) rfl rfl (by decide)) rfl ?_)))))
 refine OkL.nil (q1 (OkC.cond_true rfl (OkC.skip (q1 (OkC.block ?_)))))
 refine q4 (st' (v := (pP (pB x.p) (pO x.p + 0 * 10))) (ex_index_row (j := 0) rfl rfl x.ok Tryz.underlying33 Tryz.sizeOf49 rfl (by omega)) rfl (st' (v := (aG (ptL q))) (ex_load_rowR_agg (vs := ptL q) (i := 2) rfl rfl (RowOk.ne x.ok (by omega)) tA49 rfl (ptL_len _)) rfl (al tZ49 rfl fun b3 => stW0' rfl Tryz.sizeOf49 rfl (q3 (sL [2, 4, 7, 8, 9, 6] rfl) ?_))))
 refine ldW' 0 tA49 rfl (ldW' 2 tA49 rfl (ck' Tryz.call68 (ptless_ok q a (by assumption) (by assumption)) rfl (OkL.nil (OkQ.subF (sL [2, 4, 7, 8, 9, 6, 15] rfl) (OkQ.then_ ?_)))))
 refine OkC.cond rfl (fun hc1 => ?_) (fun hc1 => ?_)
 ·replace hc1 := of_decide_eq_true hc1
  have hls : lsP a q = q := if_pos hc1
  refine OkC.region (ldW' 0 tA49 rfl (stW2' rfl Tryz.sizeOf49 rfl (OkL.nil (OkQ.subF (sL [2, 4, 7, 8, 9, 6] rfl) (OkQ.in_normal ?_)))))
  refine OkQ.then_ (OkC.region (st' (ex_add (c := (1 : Int)) rfl rfl (by decide)) rfl (mv' rfl (OkL.nil (OkQ.subF (sL [2, 4, 7, 8, 9, 6] rfl) ?_)))))
  refine OkQ.again (OkR.step (q4 (st' (ex_lss (c := false) rfl rfl (by decide)) rfl (OkL.nil (q1 ?_)))))
  refine OkC.cond_false rfl (OkC.exit (OkQ.then_exit (OkQ.then_exit (OkQ.in_exit (q2 ?_)))))
  exact ldW' 2 tA49 rfl (stW1' rfl Tryz.sizeOf49 rfl (OkL.nil (OkQ.subF (sL [2, 4, 7, 8, 9, 6] rfl) (OkQ.then_ (OkC.ret (ret_one rfl (rd_agg (i := 1) (cs := ptL q) rfl rfl Tryz.isAgg49 Tryz.sizeOf49 rfl) (fun w hw => ⟨by rw [hls], hw.out⟩)))))))
 ·replace hc1 := of_decide_eq_false hc1
  have hls : lsP a q = a := if_neg hc1
  refine OkC.skip (OkQ.in_normal (OkQ.then_ (OkC.region (st' (ex_add (c := (1 : Int)) rfl rfl (by decide)) rfl (mv' rfl ?_)))))
  refine OkL.nil (OkQ.subF (sL [2, 4, 7, 8, 9, 6] rfl) (OkQ.again (OkR.step (q4 (st' (ex_lss (c := false) rfl rfl (by decide)) rfl ?_)))))
  refine OkL.nil (q1 (OkC.cond_false rfl (OkC.exit (OkQ.then_exit (OkQ.then_exit ?_)))))
  refine OkQ.in_exit (q2 (ldW' 2 tA49 rfl (stW1' rfl Tryz.sizeOf49 rfl (OkL.nil (OkQ.subF (sL [2, 4, 7, 8, 9, 6] rfl) ?_)))))
  exact OkQ.then_ (OkC.ret (ret_one rfl (rd_agg (i := 1) (cs := ptL a) rfl rfl Tryz.isAgg49 Tryz.sizeOf49 rfl) (fun w hw => ⟨by rw [hls], hw.out⟩)))
theorem great_ok (a q : Pt) (x : RX (ptL q) 1) (ha : SzP a ≤ 1000) (hq : SzP q ≤ 1000) (w : World) {S : Nat → Prop} (hx : Ro S w x) : Calls Tryz.prog 66 #[(aG (ptL a)), (Value.slice x.p 1 x.c)] w (Gives w (aG (ptL (grP a q)))) := by
 have lx := atA (W := w) hx
 refine calls_ofR (args := [(aG (ptL a)), (Value.slice x.p 1 x.c)]) (L := [rowR x.p (ptL q)]) Tryz.func66 rfl rfl (leB rfl) (sxA hx roL_nil) (OkC.subF (sL [0, 1] rfl) (q4 (bx' (cs := ptL a) rfl fun b1 => al tZ49 rfl fun b2 => q6 (sL [1, 2, 4] rfl) ?_)))
 refine q4 (mv' rfl (st' (v := (vI 1)) (ex_len_slice rfl Tryz.underlying33) rfl (mv' rfl (OkL.nil (OkQ.subF (sL [2, 4, 7, 8, 9] rfl) ?_)))))
 refine OkQ.then_ (OkC.block (OkC.unroll 2 (OkR.step (q4 (st' (ex_lss (c := true) rfl rfl (by decide)) rfl ?_)))))
 refine OkL.nil (q1 (OkC.cond_true rfl (OkC.skip (q1 (OkC.block ?_)))))
 refine q4 (st' (v := (pP (pB x.p) (pO x.p + 0 * 10))) (ex_index_row (j := 0) rfl rfl x.ok Tryz.underlying33 Tryz.sizeOf49 rfl (by omega)) rfl (st' (v := (aG (ptL q))) (ex_load_rowR_agg (vs := ptL q) (i := 2) rfl rfl (RowOk.ne x.ok (by omega)) tA49 rfl (ptL_len _)) rfl (al tZ49 rfl fun b3 => stW0' rfl Tryz.sizeOf49 rfl (q3 (sL [2, 4, 7, 8, 9, 6] rfl) ?_))))
 refine ldW' 2 tA49 rfl (ldW' 0 tA49 rfl (ck' Tryz.call68 (ptless_ok a q (by assumption) (by assumption)) rfl (OkL.nil (OkQ.subF (sL [2, 4, 7, 8, 9, 6, 15] rfl) (OkQ.then_ ?_)))))
 refine OkC.cond rfl (fun hc1 => ?_) (fun hc1 => ?_)
 ·replace hc1 := of_decide_eq_true hc1
  have hls : grP a q = q := if_pos hc1
  refine OkC.region (ldW' 0 tA49 rfl (stW2' rfl Tryz.sizeOf49 rfl (OkL.nil (OkQ.subF (sL [2, 4, 7, 8, 9, 6] rfl) (OkQ.in_normal ?_)))))
  refine OkQ.then_ (OkC.region (st' (ex_add (c := (1 : Int)) rfl rfl (by decide)) rfl (mv' rfl (OkL.nil (OkQ.subF (sL [2, 4, 7, 8, 9, 6] rfl) ?_)))))
  refine OkQ.again (OkR.step (q4 (st' (ex_lss (c := false) rfl rfl (by decide)) rfl (OkL.nil (q1 ?_)))))
  refine OkC.cond_false rfl (OkC.exit (OkQ.then_exit (OkQ.then_exit (OkQ.in_exit (q2 ?_)))))
  exact ldW' 2 tA49 rfl (stW1' rfl Tryz.sizeOf49 rfl (OkL.nil (OkQ.subF (sL [2, 4, 7, 8, 9, 6] rfl) (OkQ.then_ (OkC.ret (ret_one rfl (rd_agg (i := 1) (cs := ptL q) rfl rfl Tryz.isAgg49 Tryz.sizeOf49 rfl) (fun w hw => ⟨by rw [hls], hw.out⟩)))))))
 ·replace hc1 := of_decide_eq_false hc1
  have hls : grP a q = a := if_neg hc1
  refine OkC.skip (OkQ.in_normal (OkQ.then_ (OkC.region (st' (ex_add (c := (1 : Int)) rfl rfl (by decide)) rfl (mv' rfl ?_)))))
  refine OkL.nil (OkQ.subF (sL [2, 4, 7, 8, 9, 6] rfl) (OkQ.again (OkR.step (q4 (st' (ex_lss (c := false) rfl rfl (by decide)) rfl ?_)))))
  refine OkL.nil (q1 (OkC.cond_false rfl (OkC.exit (OkQ.then_exit (OkQ.then_exit ?_)))))
  refine OkQ.in_exit (q2 (ldW' 2 tA49 rfl (stW1' rfl Tryz.sizeOf49 rfl (OkL.nil (OkQ.subF (sL [2, 4, 7, 8, 9, 6] rfl) ?_)))))
  exact OkQ.then_ (OkC.ret (ret_one rfl (rd_agg (i := 1) (cs := ptL a) rfl rfl Tryz.isAgg49 Tryz.sizeOf49 rfl) (fun w hw => ⟨by rw [hls], hw.out⟩)))
theorem tfs_numuk_49_1 (x0 : Pt) : Instr.fill (fun i => some (i * 10, 10)) ((Array.range (1 * 10)).map ((Value.agg (ptL (⟨0, 0⟩ : Pt)).toArray).cells[· % (Value.agg (ptL (⟨0, 0⟩ : Pt)).toArray).cells.size]!)) [(0, .agg (ptL x0).toArray)] = some (ptL x0).toArray := by kernel_rfl
theorem fill_numuk_49_  : Instr.fill ([(0, 5), (5, 5)].toArray[·]?) (ptL (⟨0, 0⟩ : Pt)).toArray [] = some (ptL (⟨0, 0⟩ : Pt)).toArray := by kernel_rfl
theorem piece_ok (a b c d : Pt) (ha : SzP a ≤ 1000) (hb : SzP b ≤ 1000) (hc : SzP c ≤ 1000) (hd : SzP d ≤ 1000) (w : World)  : Calls Tryz.prog 32 #[(aG (ptL a)), (aG (ptL b)), (aG (ptL c)), (aG (ptL d))] w (Gives w (Value.tuple #[(vN (pceN a b c d)), (aG (ptL (pceP a b c d)))])) := by
 refine calls_of (args := [(aG (ptL a)), (aG (ptL b)), (aG (ptL c)), (aG (ptL d))]) Tryz.func32 rfl rfl (leB rfl) (OkC.subF (sL [0, 1, 2, 3] rfl) (q4 (bx' (cs := ptL a) rfl fun b1 => bx' (cs := ptL b) rfl fun b2 => bx' (cs := ptL c) rfl fun b3 => ?_)))
 refine bx' (cs := ptL d) rfl fun b4 => asg' rfl (al tZ49 rfl fun b5 => q6 (sL [4, 5, 6, 7, 8, 9] rfl) ?_)
 refine dA sr (dC (dC (DepAll.block (V := fun bq => (Value.slice (some ⟨bq, 0, none⟩) 1 1)) (dC (dC (dC (DepAll.block (V := fun bq => (Value.slice (some ⟨bq, 0, none⟩) 1 1)) (dC (DepAll.block (V := fun bq => (Value.slice (some ⟨bq, 0, none⟩) 1 1)) (dC (dC (dC (DepAll.block (V := fun bq => (Value.slice (some ⟨bq, 0, none⟩) 1 1)) (dC (dC (dC (DepAll.block (V := fun bq => (Value.slice (some ⟨bq, 0, none⟩) 1 1)) (dC (DepAll.block (V := fun bq => (Value.slice (some ⟨bq, 0, none⟩) 1 1)) (dC (DepAll.block (V := fun b => pP b 0) (DepAll.block (V := fun b => pP b 0) (dN))))))))))))))))))))))) (fun hchk1 => vC (vcW 4 4 tA49 rfl rfl (fun _ => by kernel_rfl)) (vC (vcW 3 5 tA49 rfl rfl (fun _ => by kernel_rfl)) (vC (vc_new0 (V := fun bq => (Value.slice (some ⟨bq, 0, none⟩) 1 1)) (j := 2) (ks := []) (T := 49) (cs := ptL b) (fun _ => rfl) (one_place hchk1 rfl rfl rfl) (G := fun β => [(13, (aG (ptL b)))]) (fun β => sF (by kernel_rfl)) (fun β => op_buildSlice (z := .agg (ptL (⟨0, 0⟩ : Pt)).toArray) (cs := ptL b) (pv := [(0, (aG (ptL b)))]) Tryz.underlying33 Tryz.sizeOf49 Tryz.zeroValue49 (by decide) (by decide) rfl (tfs_numuk_49_1 b))) (vC (vc_call0 (v := fun β => (aG (ptL (lsP a b)))) (ks := [2]) (G := fun β => [(12, (aG (ptL a))), (14, (Value.slice (some ⟨(bk (β 2)), 0, none⟩) 1 1))]) (fun β => sF (by kernel_rfl)) (fun β => op_call0 (args := [(aG (ptL a)), (Value.slice (some ⟨(bk (β 2)), 0, none⟩) 1 1)]) rfl rfl Tryz.call67) (fun β w hw => least_ok a b ⟨some ⟨(bk (β 2)), 0, none⟩, 1, rowOk_lit _ _⟩ ha hb w (ro_blk (hw.get (i := 0) rfl)))) (vC (vcW 2 6 tA49 rfl rfl (fun _ => by kernel_rfl)) (vC (vcW 1 7 tA49 rfl rfl (fun _ => by kernel_rfl)) (vC (vc_new0 (V := fun bq => (Value.slice (some ⟨bq, 0, none⟩) 1 1)) (j := 6) (ks := []) (T := 49) (cs := ptL d) (fun _ => rfl) (one_place hchk1 rfl rfl rfl) (G := fun β => [(17, (aG (ptL d)))]) (fun β => sF (by kernel_rfl)) (fun β => op_buildSlice (z := .agg (ptL (⟨0, 0⟩ : Pt)).toArray) (cs := ptL d) (pv := [(0, (aG (ptL d)))]) Tryz.underlying33 Tryz.sizeOf49 Tryz.zeroValue49 (by decide) (by decide) rfl (tfs_numuk_49_1 d))) (vC (vc_call0 (v := fun β => (aG (ptL (lsP c d)))) (ks := [6]) (G := fun β => [(16, (aG (ptL c))), (18, (Value.slice (some ⟨(bk (β 6)), 0, none⟩) 1 1))]) (fun β => sF (by kernel_rfl)) (fun β => op_call0 (args := [(aG (ptL c)), (Value.slice (some ⟨(bk (β 6)), 0, none⟩) 1 1)]) rfl rfl Tryz.call67) (fun β w hw => least_ok c d ⟨some ⟨(bk (β 6)), 0, none⟩, 1, rowOk_lit _ _⟩ hc hd w (ro_blk (hw.get (i := 0) rfl)))) (vC (vc_new0 (V := fun bq => (Value.slice (some ⟨bq, 0, none⟩) 1 1)) (j := 8) (ks := []) (T := 49) (cs := ptL (lsP c d)) (fun _ => rfl) (one_place hchk1 rfl rfl rfl) (G := fun β => [(19, (aG (ptL (lsP c d))))]) (fun β => sF (by kernel_rfl)) (fun β => op_buildSlice (z := .agg (ptL (⟨0, 0⟩ : Pt)).toArray) (cs := ptL (lsP c d)) (pv := [(0, (aG (ptL (lsP c d))))]) Tryz.underlying33 Tryz.sizeOf49 Tryz.zeroValue49 (by decide) (by decide) rfl (tfs_numuk_49_1 (lsP c d)))) (vC (vc_call0 (v := fun β => (aG (ptL (grP (lsP a b) (lsP c d))))) (ks := [8]) (G := fun β => [(15, (aG (ptL (lsP a b)))), (20, (Value.slice (some ⟨(bk (β 8)), 0, none⟩) 1 1))]) (fun β => sF (by kernel_rfl)) (fun β => op_call0 (args := [(aG (ptL (lsP a b))), (Value.slice (some ⟨(bk (β 8)), 0, none⟩) 1 1)]) rfl rfl Tryz.call66) (fun β w hw => great_ok (lsP a b) (lsP c d) ⟨some ⟨(bk (β 8)), 0, none⟩, 1, rowOk_lit _ _⟩ (ls_sz ha hb) (ls_sz hc hd) w (ro_blk (hw.get (i := 0) rfl)))) (vC (vcW 4 4 tA49 rfl rfl (fun _ => by kernel_rfl)) (vC (vcW 3 5 tA49 rfl rfl (fun _ => by kernel_rfl)) (vC (vc_new0 (V := fun bq => (Value.slice (some ⟨bq, 0, none⟩) 1 1)) (j := 12) (ks := []) (T := 49) (cs := ptL b) (fun _ => rfl) (one_place hchk1 rfl rfl rfl) (G := fun β => [(23, (aG (ptL b)))]) (fun β => sF (by kernel_rfl)) (fun β => op_buildSlice (z := .agg (ptL (⟨0, 0⟩ : Pt)).toArray) (cs := ptL b) (pv := [(0, (aG (ptL b)))]) Tryz.underlying33 Tryz.sizeOf49 Tryz.zeroValue49 (by decide) (by decide) rfl (tfs_numuk_49_1 b))) (vC (vc_call0 (v := fun β => (aG (ptL (grP a b)))) (ks := [12]) (G := fun β => [(22, (aG (ptL a))), (24, (Value.slice (some ⟨(bk (β 12)), 0, none⟩) 1 1))]) (fun β => sF (by kernel_rfl)) (fun β => op_call0 (args := [(aG (ptL a)), (Value.slice (some ⟨(bk (β 12)), 0, none⟩) 1 1)]) rfl rfl Tryz.call66) (fun β w hw => great_ok a b ⟨some ⟨(bk (β 12)), 0, none⟩, 1, rowOk_lit _ _⟩ ha hb w (ro_blk (hw.get (i := 0) rfl)))) (vC (vcW 2 6 tA49 rfl rfl (fun _ => by kernel_rfl)) (vC (vcW 1 7 tA49 rfl rfl (fun _ => by kernel_rfl)) (vC (vc_new0 (V := fun bq => (Value.slice (some ⟨bq, 0, none⟩) 1 1)) (j := 16) (ks := []) (T := 49) (cs := ptL d) (fun _ => rfl) (one_place hchk1 rfl rfl rfl) (G := fun β => [(27, (aG (ptL d)))]) (fun β => sF (by kernel_rfl)) (fun β => op_buildSlice (z := .agg (ptL (⟨0, 0⟩ : Pt)).toArray) (cs := ptL d) (pv := [(0, (aG (ptL d)))]) Tryz.underlying33 Tryz.sizeOf49 Tryz.zeroValue49 (by decide) (by decide) rfl (tfs_numuk_49_1 d))) (vC (vc_call0 (v := fun β => (aG (ptL (grP c d)))) (ks := [16]) (G := fun β => [(26, (aG (ptL c))), (28, (Value.slice (some ⟨(bk (β 16)), 0, none⟩) 1 1))]) (fun β => sF (by kernel_rfl)) (fun β => op_call0 (args := [(aG (ptL c)), (Value.slice (some ⟨(bk (β 16)), 0, none⟩) 1 1)]) rfl rfl Tryz.call66) (fun β w hw => great_ok c d ⟨some ⟨(bk (β 16)), 0, none⟩, 1, rowOk_lit _ _⟩ hc hd w (ro_blk (hw.get (i := 0) rfl)))) (vC (vc_new0 (V := fun bq => (Value.slice (some ⟨bq, 0, none⟩) 1 1)) (j := 18) (ks := []) (T := 49) (cs := ptL (grP c d)) (fun _ => rfl) (one_place hchk1 rfl rfl rfl) (G := fun β => [(29, (aG (ptL (grP c d))))]) (fun β => sF (by kernel_rfl)) (fun β => op_buildSlice (z := .agg (ptL (⟨0, 0⟩ : Pt)).toArray) (cs := ptL (grP c d)) (pv := [(0, (aG (ptL (grP c d))))]) Tryz.underlying33 Tryz.sizeOf49 Tryz.zeroValue49 (by decide) (by decide) rfl (tfs_numuk_49_1 (grP c d)))) (vC (vc_call0 (v := fun β => (aG (ptL (lsP (grP a b) (grP c d))))) (ks := [18]) (G := fun β => [(25, (aG (ptL (grP a b)))), (30, (Value.slice (some ⟨(bk (β 18)), 0, none⟩) 1 1))]) (fun β => sF (by kernel_rfl)) (fun β => op_call0 (args := [(aG (ptL (grP a b))), (Value.slice (some ⟨(bk (β 18)), 0, none⟩) 1 1)]) rfl rfl Tryz.call67) (fun β w hw => least_ok (grP a b) (grP c d) ⟨some ⟨(bk (β 18)), 0, none⟩, 1, rowOk_lit _ _⟩ (gr_sz ha hb) (gr_sz hc hd) w (ro_blk (hw.get (i := 0) rfl)))) (vC (vc_new0 (V := fun b => pP b 0) (j := 20) (ks := []) (T := 49) (cs := ptL (⟨0, 0⟩ : Pt)) (fun _ => rfl) (one_place hchk1 rfl rfl rfl) (G := fun β => []) (fun β => sN) (fun β => op_alloc (cs := ptL (⟨0, 0⟩ : Pt)) Tryz.zeroValue49 rfl)) (vC (vc_new0 (V := fun b => pP b 0) (j := 21) (ks := []) (T := 49) (cs := ptL (⟨0, 0⟩ : Pt)) (fun _ => rfl) (one_place hchk1 rfl rfl rfl) (G := fun β => []) (fun β => sN) (fun β => op_alloc (cs := ptL (⟨0, 0⟩ : Pt)) Tryz.zeroValue49 rfl)) (VcAll.nil))))))))))))))))))))))) (by kernel_rfl) (by kernel_rfl) (fun _ _ d _ _ h => by cases d <;> exact h) (fun β _ => ?_)
 refine OkLH.sub (F' := [(8, (vI 0)), (9, (pP b5 0)), (21, (aG (ptL (grP (lsP a b) (lsP c d))))), (31, (aG (ptL (lsP (grP a b) (grP c d))))), (10, (pP (bk (β 20)) 0)), (11, (pP (bk (β 21)) 0))]) (L' := [blk (bk (β 2)) 49 (ptL b), blk (bk (β 6)) 49 (ptL d), blk (bk (β 8)) 49 (ptL (lsP c d)), blk (bk (β 12)) 49 (ptL b), blk (bk (β 16)) 49 (ptL d), blk (bk (β 18)) 49 (ptL (grP c d)), blk (bk (β 20)) 49 (ptL (⟨0, 0⟩ : Pt)), blk (bk (β 21)) 49 (ptL (⟨0, 0⟩ : Pt)), blk b5 49 (ptL (⟨0, 0⟩ : Pt)), blk b4 49 (ptL d), blk b3 49 (ptL c), blk b2 49 (ptL b), blk b1 49 (ptL a)]) (sF rfl) (List.Sublist.refl _) ?_
 generalize bk (β 2) = b6
 generalize bk (β 6) = b7
 generalize bk (β 8) = b8
 generalize bk (β 12) = b9
 generalize bk (β 16) = b10
 generalize bk (β 18) = b11
 generalize bk (β 20) = b12
 generalize bk (β 21) = b13
 refine OkLH.store' (i := 6) (off := 0) (vs := ptL (grP (lsP a b) (lsP c d))) (cs' := ptL (grP (lsP a b) (lsP c d))) (L' := [blk b6 49 (ptL b), blk b7 49 (ptL d), blk b8 49 (ptL (lsP c d)), blk b9 49 (ptL b), blk b10 49 (ptL d), blk b11 49 (ptL (grP c d)), blk b12 49 (ptL (grP (lsP a b) (lsP c d))), blk b13 49 (ptL (⟨0, 0⟩ : Pt)), blk b5 49 (ptL (⟨0, 0⟩ : Pt)), blk b4 49 (ptL d), blk b3 49 (ptL c), blk b2 49 (ptL b), blk b1 49 (ptL a)]) (sl (sl (sl (sl (sl (sl (sl (sl sr)))))))) (wt_none rfl) rfl rfl rfl rfl rfl Tryz.sizeOf49 rfl rfl rfl rfl (OkLH.store' (i := 7) (off := 0) (vs := ptL (lsP (grP a b) (grP c d))) (cs' := ptL (lsP (grP a b) (grP c d))) (L' := [blk b6 49 (ptL b), blk b7 49 (ptL d), blk b8 49 (ptL (lsP c d)), blk b9 49 (ptL b), blk b10 49 (ptL d), blk b11 49 (ptL (grP c d)), blk b12 49 (ptL (grP (lsP a b) (lsP c d))), blk b13 49 (ptL (lsP (grP a b) (grP c d))), blk b5 49 (ptL (⟨0, 0⟩ : Pt)), blk b4 49 (ptL d), blk b3 49 (ptL c), blk b2 49 (ptL b), blk b1 49 (ptL a)]) (sl (sl (sl (sl (sl (sl (sl (sl sr)))))))) (wt_none rfl) rfl rfl rfl rfl rfl Tryz.sizeOf49 rfl rfl rfl rfl (q7 (sL [8, 9, 10, 11] rfl) (OkC.block (q4 (ldW' 7 tA49 rfl ?_)))))
 refine ldW' 6 tA49 rfl (ck' Tryz.call68 (ptless_ok (lsP (grP a b) (grP c d)) (grP (lsP a b) (lsP c d)) (ls_sz (gr_sz ha hb) (gr_sz hc hd)) (gr_sz (ls_sz ha hb) (ls_sz hc hd))) rfl (asg' rfl (OkL.nil (OkQ.subF (sL [8, 9, 10, 11, 32] rfl) (OkQ.then_ ?_)))))
 refine OkC.cond rfl (fun hc0 => ?_) (fun hc0 => ?_)
 ·replace hc0 := of_decide_eq_true hc0
  refine q4 (st' (v := (aG (ptL (⟨0, 0⟩ : Pt)))) (ex_build_struct (zs := ptL (⟨0, 0⟩ : Pt)) (vs := ptL (⟨0, 0⟩ : Pt)) (pv := []) (places := [(0, 5), (5, 5)]) Tryz.zeroValue49 Tryz.underlying49 (fun w => by simp [Tryz.sizeOf47]) rfl (fill_numuk_49_ )) rfl (asg' rfl (stX 8 (off := 0) (vs := ptL (⟨0, 0⟩ : Pt)) (cs' := ptL (⟨0, 0⟩ : Pt)) (wt_none rfl) rfl Tryz.sizeOf49 rfl (OkL.nil (OkQ.subF (sL [8, 9, 10, 11] rfl) ?_)))))
  exact OkQ.then_ (OkC.ret (OkQ.in_ret (OkQ.then_ret (ret_two rfl (rd_tmp (v := (vI 0)) rfl) (rd_agg (i := 8) (cs := ptL (⟨0, 0⟩ : Pt)) rfl rfl Tryz.isAgg49 Tryz.sizeOf49 rfl) (fun w hw => ⟨by rw [show pceN a b c d = 0 by unfold pceN; rw [if_pos hc0], show pceP a b c d = (⟨0, 0⟩ : Pt) by unfold pceP; rw [if_pos hc0]] <;> rfl, hw.out⟩)))))
 ·replace hc0 := of_decide_eq_false hc0
  refine q4 (ldW' 6 tA49 rfl (ldW' 7 tA49 rfl (st' (ex_eql_agg (c := decide ((grP (lsP a b) (lsP c d)) = (lsP (grP a b) (grP c d)))) rfl rfl Tryz.eqGuardType49 (eqB_pt 9994 (grP (lsP a b) (lsP c d)) (lsP (grP a b) (grP c d)))) rfl (asg' rfl (OkL.nil ?_)))))
  refine OkQ.subF (sL [8, 9, 10, 11, 37] rfl) (OkQ.then_ ?_)
  refine OkC.cond rfl (fun hc1 => ?_) (fun hc1 => ?_)
  ·replace hc1 := of_decide_eq_true hc1
   refine OkC.seq (rG' [(0, true), (1, true), (2, false)] (sk (sk (sk (sk (sk (sk (sk (sk (sl sr))))))))) (pW' 6 tA49 rfl (pS' rfl (OkE.imp rfl (stX 8 (off := 0) (vs := ptL (grP (lsP a b) (lsP c d))) (cs' := ptL (grP (lsP a b) (lsP c d))) (wt_none rfl) rfl Tryz.sizeOf49 rfl ?_)))))
   refine OkE.back (sk (sk (sk (sk (sk (sk (sk (sk (sl sr))))))))) (OkE.nil (OkQ.subF (sL [8, 9, 10, 11] rfl) (OkQ.then_ (OkC.ret (OkQ.in_ret ?_)))))
   exact OkQ.then_ret (ret_two rfl (rd_tmp (v := (vI 1)) rfl) (rd_agg (i := 8) (cs := ptL (grP (lsP a b) (lsP c d))) rfl rfl Tryz.isAgg49 Tryz.sizeOf49 rfl) (fun w hw => ⟨by rw [show pceN a b c d = 1 by unfold pceN; rw [if_neg hc0, if_pos hc1], show pceP a b c d = (grP (lsP a b) (lsP c d)) by unfold pceP; rw [if_neg hc0]] <;> rfl, hw.out⟩))
  ·replace hc1 := of_decide_eq_false hc1
   refine OkC.skip (OkQ.in_normal (q1 (rG' [(0, true), (1, true), (2, false)] (sk (sk (sk (sk (sk (sk (sk (sk (sl sr))))))))) (pW' 6 tA49 rfl (pS' rfl ?_)))))
   refine OkE.imp rfl (stX 8 (off := 0) (vs := ptL (grP (lsP a b) (lsP c d))) (cs' := ptL (grP (lsP a b) (lsP c d))) (wt_none rfl) rfl Tryz.sizeOf49 rfl (OkE.back (sk (sk (sk (sk (sk (sk (sk (sk (sl sr))))))))) (OkE.nil (OkQ.subF (sL [8, 9, 10, 11] rfl) (OkQ.then_ ?_)))))
   exact OkC.ret (ret_two rfl (rd_tmp (v := (vI 2)) rfl) (rd_agg (i := 8) (cs := ptL (grP (lsP a b) (lsP c d))) rfl rfl Tryz.isAgg49 Tryz.sizeOf49 rfl) (fun w hw => ⟨by rw [show pceN a b c d = 2 by unfold pceN; rw [if_neg hc0, if_neg hc1], show pceP a b c d = (grP (lsP a b) (lsP c d)) by unfold pceP; rw [if_neg hc0]] <;> rfl, hw.out⟩))
set_option maxHeartbeats 1000000 in
theorem Cut_ok (a b c d : Pt) (ha : SzP a ≤ 1000) (hb : SzP b ≤ 1000) (hc : SzP c ≤ 1000) (hd : SzP d ≤ 1000) (w : World)  : Calls Tryz.prog 8 #[(aG (ptL a)), (aG (ptL b)), (aG (ptL c)), (aG (ptL d))] w (Gives w (Value.tuple #[(vN (cutQ a b c d)), (aG (ptL (cutP a b c d)))])) := by
 refine calls_of (args := [(aG (ptL a)), (aG (ptL b)), (aG (ptL c)), (aG (ptL d))]) Tryz.func8 rfl rfl (leB rfl) (OkC.subF (sL [0, 1, 2, 3] rfl) (q4 (bx' (cs := ptL a) rfl fun b1 => bx' (cs := ptL b) rfl fun b2 => bx' (cs := ptL c) rfl fun b3 => ?_)))
 refine bx' (cs := ptL d) rfl fun b4 => asg' rfl (al tZ49 rfl fun b5 => q6 (sL [4, 5, 6, 7, 8, 9] rfl) (rG' [(0, true), (1, true), (2, true), (4, true), (5, true), (6, true), (3, false), (7, false), (8, true), (9, true)] sr (pW' 4 tA49 rfl ?_)))
 refine pW' 3 tA49 rfl (pW' 2 tA49 rfl (pW' 4 tA49 rfl (pW' 3 tA49 rfl (pW' 1 tA49 rfl (OkE.imp rfl ?_)))))
 refine ck' Tryz.call31 (pTurn_ok a b c (by omega)) rfl (OkE.back sr (OkE.imp rfl (ck' Tryz.call31 (pTurn_ok a b d (by omega)) rfl (OkE.back sr (pS' rfl ?_)))))
 refine pS' rfl (OkE.nil (OkQ.subF (sL [4, 5, 6, 7, 8, 9, 10, 11] rfl) (q1 (rG' [(0, true), (1, true), (2, true), (4, true), (5, true), (6, true), (3, false), (7, false), (8, true), (9, true)] sr (pW' 2 tA49 rfl ?_)))))
 refine pW' 1 tA49 rfl (pW' 4 tA49 rfl (pW' 2 tA49 rfl (pW' 1 tA49 rfl (pW' 3 tA49 rfl (OkE.imp rfl ?_)))))
 refine ck' Tryz.call31 (pTurn_ok c d a (by omega)) rfl (OkE.back sr (OkE.imp rfl (ck' Tryz.call31 (pTurn_ok c d b (by omega)) rfl (OkE.back sr (pS' rfl ?_)))))
 refine pS' rfl (OkE.nil (OkQ.subF (sL [4, 5, 6, 7, 8, 9, 10, 11, 12, 13] rfl) (q1 (OkC.block (q4 ?_)))))
 refine mv' rfl (st' (ex_eql (c := (decide (((turnP a b c).num.sign) = (0 : Int)))) rfl rfl rfl) rfl (mv' rfl ?_))
 refine OkL.mid (FM := [(4, (pP b1 0)), (5, (pP b2 0)), (6, (pP b3 0)), (7, (pP b4 0)), (8, (vI 0)), (9, (pP b5 0)), (10, (vI ((turnP a b c).num.sign))), (11, (vI ((turnP a b d).num.sign))), (12, (vI ((turnP c d a).num.sign))), (13, (vI ((turnP c d b).num.sign))), (35, (vI ((turnP a b c).num.sign))), (36, (Value.bool (decide (((turnP a b c).num.sign) = (0 : Int))))), (37, (Value.bool (decide (((turnP a b c).num.sign) = (0 : Int))))), (40, (Value.bool ((decide (((turnP a b c).num.sign) = (0 : Int))) && (decide (((turnP a b d).num.sign) = (0 : Int))))))]) (LM := [blk b5 49 (ptL (⟨0, 0⟩ : Pt)), blk b4 49 (ptL d), blk b3 49 (ptL c), blk b2 49 (ptL b), blk b1 49 (ptL a)]) 3 ?_ ?_
 ·rcases Bool.eq_false_or_eq_true (decide (((turnP a b c).num.sign) = (0 : Int))) with hg1 | hg1
  ·skip
   refine OkL.retell (k := 37) (u := Value.bool true) rfl (by rw [hg1]) ?_
   have hg1' := hg1
   replace hg1' := of_decide_eq_true hg1'
   exact OkL.step (v := (vI ((turnP a b d).num.sign))) (wt_some' rfl) (ex_move rfl) rfl (leB rfl) (OkL.step (v := (Value.bool (decide (((turnP a b d).num.sign) = (0 : Int))))) (wt_some' rfl) (ex_eql (c := (decide (((turnP a b d).num.sign) = (0 : Int)))) rfl rfl rfl) rfl (leB rfl) (st' (v := (Value.bool (decide (((turnP a b d).num.sign) = (0 : Int))))) (ex_pick_true rfl rfl) rfl (OkL.nil (OkQ.mid (sS rfl (sS rfl (sS rfl (sS rfl (sS rfl (sS rfl (sS rfl (sS rfl (sS rfl (sS rfl (sS rfl (sS rfl (sS (by first | rfl | (rw [hg1]; rfl) | rw [hg1]) (sS (by first | rfl | (rw [hg1]; rfl) | rw [hg1]) (sN))))))))))))))) (List.Sublist.refl _)))))
  ·skip
   refine OkL.retell (k := 37) (u := Value.bool false) rfl (by rw [hg1]) ?_
   have hg1' := hg1
   replace hg1' := of_decide_eq_false hg1'
   exact OkL.skip (wt_not' rfl) rfl (leB rfl) (OkL.skip (wt_not' rfl) rfl (leB rfl) (st' (v := (Value.bool false)) (ex_pick_false rfl rfl) rfl (OkL.nil (OkQ.mid (sS rfl (sS rfl (sS rfl (sS rfl (sS rfl (sS rfl (sS rfl (sS rfl (sS rfl (sS rfl (sS rfl (sS rfl (sS (by first | rfl | (rw [hg1]; rfl) | rw [hg1]) (sS (by first | rfl | (rw [hg1]; rfl) | rw [hg1]) (sN))))))))))))))) (List.Sublist.refl _)))))
 refine mv' rfl ?_
 refine OkL.mid (FM := [(4, (pP b1 0)), (5, (pP b2 0)), (6, (pP b3 0)), (7, (pP b4 0)), (8, (vI 0)), (9, (pP b5 0)), (10, (vI ((turnP a b c).num.sign))), (11, (vI ((turnP a b d).num.sign))), (12, (vI ((turnP c d a).num.sign))), (13, (vI ((turnP c d b).num.sign))), (35, (vI ((turnP a b c).num.sign))), (36, (Value.bool (decide (((turnP a b c).num.sign) = (0 : Int))))), (37, (Value.bool (decide (((turnP a b c).num.sign) = (0 : Int))))), (40, (Value.bool ((decide (((turnP a b c).num.sign) = (0 : Int))) && (decide (((turnP a b d).num.sign) = (0 : Int)))))), (41, (Value.bool ((decide (((turnP a b c).num.sign) = (0 : Int))) && (decide (((turnP a b d).num.sign) = (0 : Int)))))), (44, (Value.bool (((decide (((turnP a b c).num.sign) = (0 : Int))) && (decide (((turnP a b d).num.sign) = (0 : Int)))) && (decide (((turnP c d a).num.sign) = (0 : Int))))))]) (LM := [blk b5 49 (ptL (⟨0, 0⟩ : Pt)), blk b4 49 (ptL d), blk b3 49 (ptL c), blk b2 49 (ptL b), blk b1 49 (ptL a)]) 3 ?_ ?_
 ·rcases Bool.eq_false_or_eq_true ((decide (((turnP a b c).num.sign) = (0 : Int))) && (decide (((turnP a b d).num.sign) = (0 : Int)))) with hg2 | hg2
  ·skip
   refine OkL.retell (k := 41) (u := Value.bool true) rfl (by rw [hg2]) ?_
   have hg2' := hg2
   simp only [Bool.and_eq_true, Bool.or_eq_true, Bool.and_eq_false_iff, Bool.or_eq_false_iff, Bool.not_eq_true', Bool.not_eq_false', decide_eq_true_eq, decide_eq_false_iff_not] at hg2'
   exact OkL.step (v := (vI ((turnP c d a).num.sign))) (wt_some' rfl) (ex_move rfl) rfl (leB rfl) (OkL.step (v := (Value.bool (decide (((turnP c d a).num.sign) = (0 : Int))))) (wt_some' rfl) (ex_eql (c := (decide (((turnP c d a).num.sign) = (0 : Int)))) rfl rfl rfl) rfl (leB rfl) (st' (v := (Value.bool (decide (((turnP c d a).num.sign) = (0 : Int))))) (ex_pick_true rfl rfl) rfl (OkL.nil (OkQ.mid (sS rfl (sS rfl (sS rfl (sS rfl (sS rfl (sS rfl (sS rfl (sS rfl (sS rfl (sS rfl (sS rfl (sS rfl (sS rfl (sS rfl (sS (by first | rfl | (rw [hg2]; rfl) | rw [hg2]) (sS (by first | rfl | (rw [hg2]; rfl) | rw [hg2]) (sN))))))))))))))))) (List.Sublist.refl _)))))
  ·skip
   refine OkL.retell (k := 41) (u := Value.bool false) rfl (by rw [hg2]) ?_
   have hg2' := hg2
   simp only [Bool.and_eq_true, Bool.or_eq_true, Bool.and_eq_false_iff, Bool.or_eq_false_iff, Bool.not_eq_true', Bool.not_eq_false', decide_eq_true_eq, decide_eq_false_iff_not] at hg2'
   exact OkL.skip (wt_not' rfl) rfl (leB rfl) (OkL.skip (wt_not' rfl) rfl (leB rfl) (st' (v := (Value.bool false)) (ex_pick_false rfl rfl) rfl (OkL.nil (OkQ.mid (sS rfl (sS rfl (sS rfl (sS rfl (sS rfl (sS rfl (sS rfl (sS rfl (sS rfl (sS rfl (sS rfl (sS rfl (sS rfl (sS rfl (sS (by first | rfl | (rw [hg2]; rfl) | rw [hg2]) (sS (by first | rfl | (rw [hg2]; rfl) | rw [hg2]) (sN))))))))))))))))) (List.Sublist.refl _)))))
 refine mv' rfl ?_
 refine OkL.mid (FM := [(4, (pP b1 0)), (5, (pP b2 0)), (6, (pP b3 0)), (7, (pP b4 0)), (8, (vI 0)), (9, (pP b5 0)), (10, (vI ((turnP a b c).num.sign))), (11, (vI ((turnP a b d).num.sign))), (12, (vI ((turnP c d a).num.sign))), (13, (vI ((turnP c d b).num.sign))), (35, (vI ((turnP a b c).num.sign))), (36, (Value.bool (decide (((turnP a b c).num.sign) = (0 : Int))))), (37, (Value.bool (decide (((turnP a b c).num.sign) = (0 : Int))))), (40, (Value.bool ((decide (((turnP a b c).num.sign) = (0 : Int))) && (decide (((turnP a b d).num.sign) = (0 : Int)))))), (41, (Value.bool ((decide (((turnP a b c).num.sign) = (0 : Int))) && (decide (((turnP a b d).num.sign) = (0 : Int)))))), (44, (Value.bool (((decide (((turnP a b c).num.sign) = (0 : Int))) && (decide (((turnP a b d).num.sign) = (0 : Int)))) && (decide (((turnP c d a).num.sign) = (0 : Int)))))), (45, (Value.bool (((decide (((turnP a b c).num.sign) = (0 : Int))) && (decide (((turnP a b d).num.sign) = (0 : Int)))) && (decide (((turnP c d a).num.sign) = (0 : Int)))))), (48, (Value.bool ((((decide (((turnP a b c).num.sign) = (0 : Int))) && (decide (((turnP a b d).num.sign) = (0 : Int)))) && (decide (((turnP c d a).num.sign) = (0 : Int)))) && (decide (((turnP c d b).num.sign) = (0 : Int))))))]) (LM := [blk b5 49 (ptL (⟨0, 0⟩ : Pt)), blk b4 49 (ptL d), blk b3 49 (ptL c), blk b2 49 (ptL b), blk b1 49 (ptL a)]) 3 ?_ ?_
 ·rcases Bool.eq_false_or_eq_true (((decide (((turnP a b c).num.sign) = (0 : Int))) && (decide (((turnP a b d).num.sign) = (0 : Int)))) && (decide (((turnP c d a).num.sign) = (0 : Int)))) with hg3 | hg3
  ·skip
   refine OkL.retell (k := 45) (u := Value.bool true) rfl (by rw [hg3]) ?_
   have hg3' := hg3
   simp only [Bool.and_eq_true, Bool.or_eq_true, Bool.and_eq_false_iff, Bool.or_eq_false_iff, Bool.not_eq_true', Bool.not_eq_false', decide_eq_true_eq, decide_eq_false_iff_not] at hg3'
   exact OkL.step (v := (vI ((turnP c d b).num.sign))) (wt_some' rfl) (ex_move rfl) rfl (leB rfl) (OkL.step (v := (Value.bool (decide (((turnP c d b).num.sign) = (0 : Int))))) (wt_some' rfl) (ex_eql (c := (decide (((turnP c d b).num.sign) = (0 : Int)))) rfl rfl rfl) rfl (leB rfl) (st' (v := (Value.bool (decide (((turnP c d b).num.sign) = (0 : Int))))) (ex_pick_true rfl rfl) rfl (OkL.nil (OkQ.mid (sS rfl (sS rfl (sS rfl (sS rfl (sS rfl (sS rfl (sS rfl (sS rfl (sS rfl (sS rfl (sS rfl (sS rfl (sS rfl (sS rfl (sS rfl (sS rfl (sS (by first | rfl | (rw [hg3]; rfl) | rw [hg3]) (sS (by first | rfl | (rw [hg3]; rfl) | rw [hg3]) (sN))))))))))))))))))) (List.Sublist.refl _)))))
  ·skip
   refine OkL.retell (k := 45) (u := Value.bool false) rfl (by rw [hg3]) ?_
   have hg3' := hg3
   simp only [Bool.and_eq_true, Bool.or_eq_true, Bool.and_eq_false_iff, Bool.or_eq_false_iff, Bool.not_eq_true', Bool.not_eq_false', decide_eq_true_eq, decide_eq_false_iff_not] at hg3'
   exact OkL.skip (wt_not' rfl) rfl (leB rfl) (OkL.skip (wt_not' rfl) rfl (leB rfl) (st' (v := (Value.bool false)) (ex_pick_false rfl rfl) rfl (OkL.nil (OkQ.mid (sS rfl (sS rfl (sS rfl (sS rfl (sS rfl (sS rfl (sS rfl (sS rfl (sS rfl (sS rfl (sS rfl (sS rfl (sS rfl (sS rfl (sS rfl (sS rfl (sS (by first | rfl | (rw [hg3]; rfl) | rw [hg3]) (sS (by first | rfl | (rw [hg3]; rfl) | rw [hg3]) (sN))))))))))))))))))) (List.Sublist.refl _)))))
 refine asg' rfl (OkL.nil (OkQ.subF (sL [4, 5, 6, 7, 8, 9, 10, 11, 12, 13, 34] rfl) (OkQ.then_ ?_)))
 refine OkC.cond rfl (fun hc0 => ?_) (fun hc0 => ?_)
 ·simp only [Bool.and_eq_true, Bool.or_eq_true, Bool.and_eq_false_iff, Bool.or_eq_false_iff, Bool.not_eq_true', Bool.not_eq_false', decide_eq_true_eq, decide_eq_false_iff_not] at hc0
  have hq4 : turnP a b c = 0 ∧ turnP a b d = 0 ∧ turnP c d a = 0 ∧ turnP c d b = 0 := by obtain ⟨⟨⟨x1, x2⟩, x3⟩, x4⟩ := hc0; exact ⟨sgn_eq0 x1, sgn_eq0 x2, sgn_eq0 x3, sgn_eq0 x4⟩
  refine q4 (ldW' 4 tA49 rfl (ldW' 3 tA49 rfl (ldW' 2 tA49 rfl (ldW' 1 tA49 rfl (ck' Tryz.call32 (piece_ok a b c d ha hb hc hd) rfl ?_)))))
  refine st' (ex_extract (v := (vN (pceN a b c d))) rfl rfl) rfl (st' (ex_extract (v := (aG (ptL (pceP a b c d)))) rfl rfl) rfl (asg' rfl (stW0' rfl Tryz.sizeOf49 rfl (OkL.nil (OkQ.subF (sL [4, 5, 6, 7, 8, 9, 10, 11, 12, 13] rfl) ?_)))))
  exact OkQ.then_ (OkC.ret (OkQ.in_ret (OkQ.then_ret (ret_two rfl (rd_tmp (v := (vN (pceN a b c d))) rfl) (rd_agg (i := 0) (cs := ptL (pceP a b c d)) rfl rfl Tryz.isAgg49 Tryz.sizeOf49 rfl) (fun w hw => ⟨by rw [show cutQ a b c d = (pceN a b c d) by unfold cutQ; rw [if_pos hq4], show cutP a b c d = (pceP a b c d) by unfold cutP; rw [if_pos hq4]] <;> rfl, hw.out⟩)))))
 ·simp only [Bool.and_eq_true, Bool.or_eq_true, Bool.and_eq_false_iff, Bool.or_eq_false_iff, Bool.not_eq_true', Bool.not_eq_false', decide_eq_true_eq, decide_eq_false_iff_not] at hc0
  have hq4 : ¬ (turnP a b c = 0 ∧ turnP a b d = 0 ∧ turnP c d a = 0 ∧ turnP c d b = 0) := fun ⟨k1, k2, k3, k4⟩ => by rw [sgn_zero k1, sgn_zero k2, sgn_zero k3, sgn_zero k4] at hc0; simp at hc0
  refine q4 (mv' rfl (mv' rfl (st' (ex_mul (c := ((turnP a b c).num.sign * (turnP a b d).num.sign)) rfl rfl (wrap_i64 (by have := sgn_prod (turnP a b c) (turnP a b d); omega) (by have := sgn_prod (turnP a b c) (turnP a b d); omega))) rfl (st' (ex_gtr (c := (decide ((0 : Int) < ((turnP a b c).num.sign * (turnP a b d).num.sign)))) rfl rfl rfl) rfl (mv' rfl ?_)))))
  refine OkL.mid (FM := [(4, (pP b1 0)), (5, (pP b2 0)), (6, (pP b3 0)), (7, (pP b4 0)), (8, (vI 0)), (9, (pP b5 0)), (10, (vI ((turnP a b c).num.sign))), (11, (vI ((turnP a b d).num.sign))), (12, (vI ((turnP c d a).num.sign))), (13, (vI ((turnP c d b).num.sign))), (57, (vI ((turnP a b c).num.sign))), (58, (vI ((turnP a b d).num.sign))), (59, (vI ((turnP a b c).num.sign * (turnP a b d).num.sign))), (60, (Value.bool (decide ((0 : Int) < ((turnP a b c).num.sign * (turnP a b d).num.sign))))), (61, (Value.bool (decide ((0 : Int) < ((turnP a b c).num.sign * (turnP a b d).num.sign))))), (66, (Value.bool ((decide ((0 : Int) < ((turnP a b c).num.sign * (turnP a b d).num.sign))) || (decide ((0 : Int) < ((turnP c d a).num.sign * (turnP c d b).num.sign))))))]) (LM := [blk b5 49 (ptL (⟨0, 0⟩ : Pt)), blk b4 49 (ptL d), blk b3 49 (ptL c), blk b2 49 (ptL b), blk b1 49 (ptL a)]) 5 ?_ ?_
  ·rcases Bool.eq_false_or_eq_true (decide ((0 : Int) < ((turnP a b c).num.sign * (turnP a b d).num.sign))) with hg4 | hg4
   ·skip
    refine OkL.retell (k := 61) (u := Value.bool true) rfl (by rw [hg4]) ?_
    have hg4' := hg4
    replace hg4' := of_decide_eq_true hg4'
    exact OkL.skip (wt_not' rfl) rfl (leB rfl) (OkL.skip (wt_not' rfl) rfl (leB rfl) (OkL.skip (wt_not' rfl) rfl (leB rfl) (OkL.skip (wt_not' rfl) rfl (leB rfl) (st' (v := (Value.bool true)) (ex_pick_true rfl rfl) rfl (OkL.nil (OkQ.mid (sS rfl (sS rfl (sS rfl (sS rfl (sS rfl (sS rfl (sS rfl (sS rfl (sS rfl (sS rfl (sS rfl (sS rfl (sS rfl (sS rfl (sS (by first | rfl | (rw [hg4]; rfl) | rw [hg4]) (sS (by first | rfl | (rw [hg4]; rfl) | rw [hg4]) (sN))))))))))))))))) (List.Sublist.refl _)))))))
   ·skip
    refine OkL.retell (k := 61) (u := Value.bool false) rfl (by rw [hg4]) ?_
    have hg4' := hg4
    replace hg4' := of_decide_eq_false hg4'
    exact OkL.step (v := (vI ((turnP c d a).num.sign))) (wt_some' rfl) (ex_move rfl) rfl (leB rfl) (OkL.step (v := (vI ((turnP c d b).num.sign))) (wt_some' rfl) (ex_move rfl) rfl (leB rfl) (OkL.step (v := (vI ((turnP c d a).num.sign * (turnP c d b).num.sign))) (wt_some' rfl) (ex_mul (c := ((turnP c d a).num.sign * (turnP c d b).num.sign)) rfl rfl (wrap_i64 (by have := sgn_prod (turnP c d a) (turnP c d b); omega) (by have := sgn_prod (turnP c d a) (turnP c d b); omega))) rfl (leB rfl) (OkL.step (v := (Value.bool (decide ((0 : Int) < ((turnP c d a).num.sign * (turnP c d b).num.sign))))) (wt_some' rfl) (ex_gtr (c := (decide ((0 : Int) < ((turnP c d a).num.sign * (turnP c d b).num.sign)))) rfl rfl rfl) rfl (leB rfl) (st' (v := (Value.bool (decide ((0 : Int) < ((turnP c d a).num.sign * (turnP c d b).num.sign))))) (ex_pick_false rfl rfl) rfl (OkL.nil (OkQ.mid (sS rfl (sS rfl (sS rfl (sS rfl (sS rfl (sS rfl (sS rfl (sS rfl (sS rfl (sS rfl (sS rfl (sS rfl (sS rfl (sS rfl (sS (by first | rfl | (rw [hg4]; rfl) | rw [hg4]) (sS (by first | rfl | (rw [hg4]; rfl) | rw [hg4]) (sN))))))))))))))))) (List.Sublist.refl _)))))))
  refine asg' rfl (OkL.nil (OkQ.subF (sL [4, 5, 6, 7, 8, 9, 10, 11, 12, 13, 56] rfl) (OkQ.then_ ?_)))
  refine OkC.cond rfl (fun hc1 => ?_) (fun hc1 => ?_)
  ·simp only [Bool.and_eq_true, Bool.or_eq_true, Bool.and_eq_false_iff, Bool.or_eq_false_iff, Bool.not_eq_true', Bool.not_eq_false', decide_eq_true_eq, decide_eq_false_iff_not] at hc1
   have hq5 : 0 < (turnP a b c).num.sign * (turnP a b d).num.sign ∨ 0 < (turnP c d a).num.sign * (turnP c d b).num.sign := by omega
   refine q4 (st' (v := (aG (ptL (⟨0, 0⟩ : Pt)))) (ex_build_struct (zs := ptL (⟨0, 0⟩ : Pt)) (vs := ptL (⟨0, 0⟩ : Pt)) (pv := []) (places := [(0, 5), (5, 5)]) Tryz.zeroValue49 Tryz.underlying49 (fun w => by simp [Tryz.sizeOf47]) rfl (fill_numuk_49_ )) rfl (asg' rfl (stW0' rfl Tryz.sizeOf49 rfl (OkL.nil (OkQ.subF (sL [4, 5, 6, 7, 8, 9, 10, 11, 12, 13] rfl) ?_)))))
   exact OkQ.then_ (OkC.ret (OkQ.in_ret (OkQ.then_ret (ret_two rfl (rd_tmp (v := (vI 0)) rfl) (rd_agg (i := 0) (cs := ptL (⟨0, 0⟩ : Pt)) rfl rfl Tryz.isAgg49 Tryz.sizeOf49 rfl) (fun w hw => ⟨by rw [show cutQ a b c d = 0 by unfold cutQ; rw [if_neg hq4, if_pos hq5], show cutP a b c d = (⟨0, 0⟩ : Pt) by unfold cutP; rw [if_neg hq4, if_pos hq5]] <;> rfl, hw.out⟩)))))
  ·simp only [Bool.and_eq_true, Bool.or_eq_true, Bool.and_eq_false_iff, Bool.or_eq_false_iff, Bool.not_eq_true', Bool.not_eq_false', decide_eq_true_eq, decide_eq_false_iff_not] at hc1
   have hq5 : ¬ (0 < (turnP a b c).num.sign * (turnP a b d).num.sign ∨ 0 < (turnP c d a).num.sign * (turnP c d b).num.sign) := by omega
   have hden := cut_den hq4 hq5
   refine OkC.skip (OkQ.in_normal (q1 (rN [(0, true), (1, true), (3, true), (4, true), (2, false), (5, false)] [⟨6, 14, 49, ptL (⟨0, 0⟩ : Pt)⟩, ⟨7, 15, 49, ptL (⟨0, 0⟩ : Pt)⟩] [(8, false), (9, false)] sr (by kernel_rfl) (fun _ _ d _ _ h => by cases d <;> exact h) (newC rfl rfl tZ49 rfl (newC rfl rfl tZ49 rfl (newN))) rfl (uW' 3 tA49 rfl (uW' 4 tA49 rfl ?_)))))
   refine uW' 1 tA49 rfl (uW' 2 tA49 rfl (OkN.imp rfl fun EF EL => ?_))
   have hz1 := SzP_sub b a
   refine ck' Tryz.call19 (pSub_ok b a (by omega)) rfl (OkN.back0 sr rfl (OkN.imp rfl fun EF EL => ?_))
   have hz2 := SzP_sub d c
   refine ck' Tryz.call19 (pSub_ok d c (by omega)) rfl (OkN.back0 sr rfl (OkN.news2 fun b6 b7 => OkE.imp rfl (stW0' rfl Tryz.sizeOf49 rfl (OkE.back (sl (sl sr)) ?_))))
   refine OkE.imp rfl (stW1' rfl Tryz.sizeOf49 rfl (OkE.back (sl (sl sr)) (OkE.nil (OkQ.subF (sL [4, 5, 6, 7, 8, 9, 10, 11, 12, 13, 15, 14] rfl) (q1 ?_)))))
   refine rN [(0, true), (1, true), (3, true), (5, true), (6, true), (2, false), (4, false), (7, false), (8, false), (9, true), (10, true), (11, true)] [⟨12, 16, 47, fracL (0 : Rat)⟩] [(13, false), (14, true)] sr (by kernel_rfl) (fun _ _ d _ _ h => by cases d <;> exact h) (newC rfl rfl tZ47 rfl (newN)) rfl (uW' 4 tA49 rfl (uW' 6 tA49 rfl (uW' 1 tA49 rfl (uW' 0 tA49 rfl (uW' 1 tA49 rfl ?_)))))
   refine OkN.imp rfl fun EF EL => ?_
   have hz3 := SzP_sub c a
   refine ck' Tryz.call19 (pSub_ok c a (by omega)) rfl (OkN.back0 sr rfl (OkN.imp rfl fun EF EL => ?_))
   have hz4 := Sz_cross (c - a) (d - c)
   refine ck' Tryz.call34 (pCross_ok (c - a) (d - c) (by omega)) rfl (OkN.back0 sr rfl (OkN.imp rfl fun EF EL => ?_))
   have hz5 := Sz_cross (b - a) (d - c)
   refine ck' Tryz.call34 (pCross_ok (b - a) (d - c) (by omega)) rfl (OkN.back0 sr rfl (OkN.imp rfl fun EF EL => ?_))
   have hz6 := Sz_div (a := crossP (c - a) (d - c)) (b := crossP (b - a) (d - c)) (by assumption)
   refine ck' Tryz.call33 (fDiv_ok (crossP (c - a) (d - c)) (crossP (b - a) (d - c)) (by omega) (by assumption)) rfl (OkN.back0 sr rfl (uM' rfl (uE' rfl (ex_extract (v := (aG (fracL ((crossP (c - a) (d - c)) / (crossP (b - a) (d - c)))))) rfl rfl) rfl (uE' rfl (ex_extract (v := (vI 0)) rfl rfl) rfl (OkN.news1 fun b8 => ?_)))))
   refine OkE.imp rfl (stW0' rfl Tryz.sizeOf47 rfl (OkE.back (sl sr) (pS' rfl (OkE.nil (OkQ.subF (sL [4, 5, 6, 7, 8, 9, 10, 11, 12, 13, 15, 14, 16] rfl) ?_)))))
   refine q1 (rG' [(0, true), (1, true), (2, true), (3, false), (4, false), (5, true), (6, false)] (sk (sk (sk (sl sr)))) (pW' 6 tA49 rfl (pW' 1 tA49 rfl (pW' 0 tA47 rfl (OkE.imp rfl ?_)))))
   have hz7 := SzP_scale (b - a) ((crossP (c - a) (d - c)) / (crossP (b - a) (d - c)))
   refine ck' Tryz.call18 (pScale_ok (b - a) ((crossP (c - a) (d - c)) / (crossP (b - a) (d - c))) (by omega)) rfl (OkE.back (sk (sk (sk (sl sr)))) (OkE.imp rfl ?_))
   have hz8 := SzP_add a (scaleP (b - a) ((crossP (c - a) (d - c)) / (crossP (b - a) (d - c))))
   refine ck' Tryz.call17 (pAdd_ok a (scaleP (b - a) ((crossP (c - a) (d - c)) / (crossP (b - a) (d - c)))) (by omega)) rfl (OkE.back (sk (sk (sk (sl sr)))) (pS' rfl (OkE.imp rfl (stW3' rfl Tryz.sizeOf49 rfl (OkE.back (sk (sk (sk (sl sr)))) ?_)))))
   exact OkE.nil (OkQ.subF (sL [4, 5, 6, 7, 8, 9, 10, 11, 12, 13, 15, 14, 16] rfl) (OkQ.then_ (OkC.ret (ret_two rfl (rd_tmp (v := (vI 1)) rfl) (rd_agg (i := 3) (cs := ptL (a + (scaleP (b - a) ((crossP (c - a) (d - c)) / (crossP (b - a) (d - c)))))) rfl rfl Tryz.isAgg49 Tryz.sizeOf49 rfl) (fun w hw => ⟨by rw [show cutQ a b c d = 1 by unfold cutQ; rw [if_neg hq4, if_neg hq5], show cutP a b c d = a + (scaleP (b - a) ((crossP (c - a) (d - c)) / (crossP (b - a) (d - c)))) by unfold cutP; rw [if_neg hq4, if_neg hq5]] <;> rfl, hw.out⟩)))))
end
end Go.Proofs.YtnofgcpajmldkaaGreatDoor
