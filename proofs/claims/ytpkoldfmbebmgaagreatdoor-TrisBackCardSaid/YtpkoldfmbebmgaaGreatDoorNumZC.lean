/- Walks, printed by gen.py. -/
import Derived.Test.YtpkoldfmbebmgaaGreatDoorNumZA
import Derived.Test.YtpkoldfmbebmgaaGreatDoorNumZB
import Derived.Test.YtpkoldfmbebmgaaGreatDoorLaw
namespace Go.Proofs.YtpkoldfmbebmgaaGreatDoor
open Go Go.RowKit
set_option maxRecDepth 100000
set_option linter.unusedVariables false
set_option linter.unusedSimpArgs false

theorem one_ok (w : World) : Calls Tryz.prog 44 #[(vI 1)] w (Gives w (aG (fracL (1 : Rat)))) := fInt_ok 1 (by decide) (by decide) w

theorem TrisBack0_ok (l0 l1 l2 l3 : PD) (u v : QD) (k0 : l0.ok) (k1 : l1.ok) (k2 : l2.ok) (k3 : l3.ok) (ku : u.ok) (kv : v.ok) (h : turnP (ptOf l0) (ptOf l1) (ptOf l2) = 0) (w : World)  : Calls Tryz.prog 7 #[(aG (pdL l0 ++ pdL l1 ++ pdL l2 ++ pdL l3)), (aG (qdL u)), (aG (qdL v))] w (Gives w (Value.bool true)) := by
  obtain ⟨a, ha⟩ : ∃ q, q = ptOf l0 := ⟨_, rfl⟩
  obtain ⟨b, hb⟩ : ∃ q, q = ptOf l1 := ⟨_, rfl⟩
  obtain ⟨c, hc⟩ : ∃ q, q = ptOf l2 := ⟨_, rfl⟩
  obtain ⟨p, hp⟩ : ∃ q, q = ptOf l3 := ⟨_, rfl⟩
  have sa : SzP a ≤ 4 := by rw [ha]; exact SzP_ptOf k0
  have sb : SzP b ≤ 4 := by rw [hb]; exact SzP_ptOf k1
  have sc : SzP c ≤ 4 := by rw [hc]; exact SzP_ptOf k2
  have sp : SzP p ≤ 4 := by rw [hp]; exact SzP_ptOf k3
  obtain ⟨x, hx⟩ : ∃ q, q = qOf u := ⟨_, rfl⟩
  obtain ⟨y, hy⟩ : ∃ q, q = qOf v := ⟨_, rfl⟩
  have sx : Sz x ≤ 4 := by rw [hx]; exact Sz_qOf ku
  have sy : Sz y ≤ 4 := by rw [hy]; exact Sz_qOf kv
  rw [← ha, ← hb, ← hc] at h
  refine calls_of (args := [(aG (pdL l0 ++ pdL l1 ++ pdL l2 ++ pdL l3)), (aG (qdL u)), (aG (qdL v))]) Tryz.func7 rfl rfl (leB rfl) ?_
  refine OkC.subF (sC 0 rfl (sC 1 rfl (sC 2 rfl (sN)))) ?_
  refine q4 ?_
  refine OkL.open_ (T := 75) (cs := pdL l0 ++ pdL l1 ++ pdL l2 ++ pdL l3) (wt_none rfl) (op_box (cs := pdL l0 ++ pdL l1 ++ pdL l2 ++ pdL l3) rfl rfl) rfl (leB rfl) ?_; intro b1
  refine OkL.open_ (T := 24) (cs := qdL u) (wt_none rfl) (op_box (cs := qdL u) rfl rfl) rfl (leB rfl) ?_; intro b2
  refine OkL.open_ (T := 24) (cs := qdL v) (wt_none rfl) (op_box (cs := qdL v) rfl rfl) rfl (leB rfl) ?_; intro b3
  refine st (ex_assign rfl) (leB rfl) ?_
  refine q6 (sC 3 rfl (sC 4 rfl (sC 5 rfl (sC 6 rfl (sN))))) ?_
  refine OkC.drawn' (specs := [⟨.pure, fun _ => (pP b1 0), [], 0, []⟩, ⟨.held, fun _ => (aG (pdL l0)), [], 0, []⟩, ⟨.call, fun _ => (aG (ptL a)), [], 0, []⟩, ⟨.pure, fun _ => (pP b1 4), [], 0, []⟩, ⟨.held, fun _ => (aG (pdL l1)), [], 0, []⟩, ⟨.call, fun _ => (aG (ptL b)), [], 0, []⟩, ⟨.pure, fun _ => (pP b1 8), [], 0, []⟩, ⟨.held, fun _ => (aG (pdL l2)), [], 0, []⟩, ⟨.call, fun _ => (aG (ptL c)), [], 0, []⟩, ⟨.pure, fun _ => (pP b1 12), [], 0, []⟩, ⟨.held, fun _ => (aG (pdL l3)), [], 0, []⟩, ⟨.call, fun _ => (aG (ptL p)), [], 0, []⟩, ⟨.new, fun β => (pP (β 12) 0), [], 38, ptL (⟨0, 0⟩ : Pt)⟩, ⟨.new, fun β => (pP (β 13) 0), [], 38, ptL (⟨0, 0⟩ : Pt)⟩, ⟨.new, fun β => (pP (β 14) 0), [], 38, ptL (⟨0, 0⟩ : Pt)⟩, ⟨.new, fun β => (pP (β 15) 0), [], 38, ptL (⟨0, 0⟩ : Pt)⟩]) (by kernel_rfl) (fun hchk1 => ?_)
  refine dR (Lro := [blk b3 24 (qdL v), blk b2 24 (qdL u), blk b1 75 (pdL l0 ++ pdL l1 ++ pdL l2 ++ pdL l3)]) (List.Sublist.refl _) (dC (dC (dC (dC (dC (dC (dC (dC (dC (dC (dC (dC (DepAll.block (V := fun b => (Value.pointer (some ⟨b, 0, none⟩))) (DepAll.block (V := fun b => (Value.pointer (some ⟨b, 0, none⟩))) (DepAll.block (V := fun b => (Value.pointer (some ⟨b, 0, none⟩))) (DepAll.block (V := fun b => (Value.pointer (some ⟨b, 0, none⟩))) (dN))))))))))))))))) hchk1 (by kernel_rfl) (fun _ _ d _ _ h => by cases d <;> exact h) (vC (vc_pure0 (G := fun β => [(3, (pP b1 0))]) (fun β => sF (by kernel_rfl)) (fun β _ => ex_indexAddr_array (j := 0) rfl rfl Tryz.underlying75 Tryz.sizeOf26 rfl (by decide) rfl)) (vC (vc_held0 (G := fun β => [(21, (pP b1 0))]) (fun β => sF (by kernel_rfl)) (fun β => ex_load_agg (i := 2) (vs := pdL l0) rfl rfl Tryz.isAgg26 Tryz.sizeOf26 rfl rfl)) (vC (vc_call0 (G := fun β => [(22, (aG (pdL l0)))]) (fun β => sF (by kernel_rfl)) (fun β => op_call0 (args := [(aG (pdL l0))]) rfl rfl Tryz.call10) (fun β w hw => (by rw [ha]; exact POf_ok l0 k0 w))) (vC (vc_pure0 (G := fun β => [(3, (pP b1 0))]) (fun β => sF (by kernel_rfl)) (fun β _ => ex_indexAddr_array (j := 1) rfl rfl Tryz.underlying75 Tryz.sizeOf26 rfl (by decide) rfl)) (vC (vc_held0 (G := fun β => [(24, (pP b1 4))]) (fun β => sF (by kernel_rfl)) (fun β => ex_load_agg (i := 2) (vs := pdL l1) rfl rfl Tryz.isAgg26 Tryz.sizeOf26 rfl rfl)) (vC (vc_call0 (G := fun β => [(25, (aG (pdL l1)))]) (fun β => sF (by kernel_rfl)) (fun β => op_call0 (args := [(aG (pdL l1))]) rfl rfl Tryz.call10) (fun β w hw => (by rw [hb]; exact POf_ok l1 k1 w))) (vC (vc_pure0 (G := fun β => [(3, (pP b1 0))]) (fun β => sF (by kernel_rfl)) (fun β _ => ex_indexAddr_array (j := 2) rfl rfl Tryz.underlying75 Tryz.sizeOf26 rfl (by decide) rfl)) (vC (vc_held0 (G := fun β => [(27, (pP b1 8))]) (fun β => sF (by kernel_rfl)) (fun β => ex_load_agg (i := 2) (vs := pdL l2) rfl rfl Tryz.isAgg26 Tryz.sizeOf26 rfl rfl)) (vC (vc_call0 (G := fun β => [(28, (aG (pdL l2)))]) (fun β => sF (by kernel_rfl)) (fun β => op_call0 (args := [(aG (pdL l2))]) rfl rfl Tryz.call10) (fun β w hw => (by rw [hc]; exact POf_ok l2 k2 w))) (vC (vc_pure0 (G := fun β => [(3, (pP b1 0))]) (fun β => sF (by kernel_rfl)) (fun β _ => ex_indexAddr_array (j := 3) rfl rfl Tryz.underlying75 Tryz.sizeOf26 rfl (by decide) rfl)) (vC (vc_held0 (G := fun β => [(30, (pP b1 12))]) (fun β => sF (by kernel_rfl)) (fun β => ex_load_agg (i := 2) (vs := pdL l3) rfl rfl Tryz.isAgg26 Tryz.sizeOf26 rfl rfl)) (vC (vc_call0 (G := fun β => [(31, (aG (pdL l3)))]) (fun β => sF (by kernel_rfl)) (fun β => op_call0 (args := [(aG (pdL l3))]) rfl rfl Tryz.call10) (fun β w hw => (by rw [hp]; exact POf_ok l3 k3 w))) (vC (vc_new0 (V := fun b => (Value.pointer (some ⟨b, 0, none⟩))) (j := 12) (one_place hchk1 rfl rfl rfl) (G := fun β => []) (fun β => sN) (fun β => op_alloc (cs := ptL (⟨0, 0⟩ : Pt)) Tryz.zeroValue38 rfl)) (vC (vc_new0 (V := fun b => (Value.pointer (some ⟨b, 0, none⟩))) (j := 13) (one_place hchk1 rfl rfl rfl) (G := fun β => []) (fun β => sN) (fun β => op_alloc (cs := ptL (⟨0, 0⟩ : Pt)) Tryz.zeroValue38 rfl)) (vC (vc_new0 (V := fun b => (Value.pointer (some ⟨b, 0, none⟩))) (j := 14) (one_place hchk1 rfl rfl rfl) (G := fun β => []) (fun β => sN) (fun β => op_alloc (cs := ptL (⟨0, 0⟩ : Pt)) Tryz.zeroValue38 rfl)) (vC (vc_new0 (V := fun b => (Value.pointer (some ⟨b, 0, none⟩))) (j := 15) (one_place hchk1 rfl rfl rfl) (G := fun β => []) (fun β => sN) (fun β => op_alloc (cs := ptL (⟨0, 0⟩ : Pt)) Tryz.zeroValue38 rfl)) (VcAll.nil))))))))))))))))) (fun β => ?_)
  clear hchk1
  refine OkLH.sub (F' := [(4, (pP b2 0)), (5, (pP b3 0)), (6, (Value.bool false)), (23, (aG (ptL a))), (26, (aG (ptL b))), (29, (aG (ptL c))), (32, (aG (ptL p))), (7, (pP (β 12) 0)), (8, (pP (β 13) 0)), (9, (pP (β 14) 0)), (10, (pP (β 15) 0))]) (L' := [blk (β 12) 38 (ptL (⟨0, 0⟩ : Pt)), blk (β 13) 38 (ptL (⟨0, 0⟩ : Pt)), blk (β 14) 38 (ptL (⟨0, 0⟩ : Pt)), blk (β 15) 38 (ptL (⟨0, 0⟩ : Pt)), blk b3 24 (qdL v), blk b2 24 (qdL u), blk b1 75 (pdL l0 ++ pdL l1 ++ pdL l2 ++ pdL l3)]) (sF rfl) (List.Sublist.refl _) ?_
  generalize β 12 = b4
  generalize β 13 = b5
  generalize β 14 = b6
  generalize β 15 = b7
  refine OkLH.store' (i := 0) (off := 0) (vs := ptL a) (cs' := ptL a) (L' := [blk b4 38 (ptL a), blk b5 38 (ptL (⟨0, 0⟩ : Pt)), blk b6 38 (ptL (⟨0, 0⟩ : Pt)), blk b7 38 (ptL (⟨0, 0⟩ : Pt)), blk b3 24 (qdL v), blk b2 24 (qdL u), blk b1 75 (pdL l0 ++ pdL l1 ++ pdL l2 ++ pdL l3)]) (List.Sublist.cons _ (List.Sublist.cons _ (List.Sublist.cons _ (List.Sublist.cons _ (List.Sublist.refl _))))) (wt_none rfl) rfl rfl rfl rfl rfl Tryz.sizeOf38 rfl rfl rfl rfl ?_
  refine OkLH.store' (i := 1) (off := 0) (vs := ptL b) (cs' := ptL b) (L' := [blk b4 38 (ptL a), blk b5 38 (ptL b), blk b6 38 (ptL (⟨0, 0⟩ : Pt)), blk b7 38 (ptL (⟨0, 0⟩ : Pt)), blk b3 24 (qdL v), blk b2 24 (qdL u), blk b1 75 (pdL l0 ++ pdL l1 ++ pdL l2 ++ pdL l3)]) (List.Sublist.cons _ (List.Sublist.cons _ (List.Sublist.cons _ (List.Sublist.cons _ (List.Sublist.refl _))))) (wt_none rfl) rfl rfl rfl rfl rfl Tryz.sizeOf38 rfl rfl rfl rfl ?_
  refine OkLH.store' (i := 2) (off := 0) (vs := ptL c) (cs' := ptL c) (L' := [blk b4 38 (ptL a), blk b5 38 (ptL b), blk b6 38 (ptL c), blk b7 38 (ptL (⟨0, 0⟩ : Pt)), blk b3 24 (qdL v), blk b2 24 (qdL u), blk b1 75 (pdL l0 ++ pdL l1 ++ pdL l2 ++ pdL l3)]) (List.Sublist.cons _ (List.Sublist.cons _ (List.Sublist.cons _ (List.Sublist.cons _ (List.Sublist.refl _))))) (wt_none rfl) rfl rfl rfl rfl rfl Tryz.sizeOf38 rfl rfl rfl rfl ?_
  refine OkLH.store' (i := 3) (off := 0) (vs := ptL p) (cs' := ptL p) (L' := [blk b4 38 (ptL a), blk b5 38 (ptL b), blk b6 38 (ptL c), blk b7 38 (ptL p), blk b3 24 (qdL v), blk b2 24 (qdL u), blk b1 75 (pdL l0 ++ pdL l1 ++ pdL l2 ++ pdL l3)]) (List.Sublist.cons _ (List.Sublist.cons _ (List.Sublist.cons _ (List.Sublist.cons _ (List.Sublist.refl _))))) (wt_none rfl) rfl rfl rfl rfl rfl Tryz.sizeOf38 rfl rfl rfl rfl ?_
  refine q5 (sC 4 rfl (sC 5 rfl (sC 6 rfl (sC 7 rfl (sC 8 rfl (sC 9 rfl (sC 10 rfl (sN)))))))) ?_
  refine st (ex_load_agg (i := 0) (vs := ptL a) rfl rfl Tryz.isAgg38 Tryz.sizeOf38 rfl rfl) (leB rfl) ?_
  refine st (ex_load_agg (i := 1) (vs := ptL b) rfl rfl Tryz.isAgg38 Tryz.sizeOf38 rfl rfl) (leB rfl) ?_
  refine st (ex_load_agg (i := 2) (vs := ptL c) rfl rfl Tryz.isAgg38 Tryz.sizeOf38 rfl rfl) (leB rfl) ?_
  refine st (ex_load_agg (i := 3) (vs := ptL p) rfl rfl Tryz.isAgg38 Tryz.sizeOf38 rfl rfl) (leB rfl) ?_
  refine OkL.call (v := (Value.tuple #[(aG (fracL (0 : Rat) ++ fracL (0 : Rat) ++ fracL (0 : Rat))), (vI 1)])) (wt_none rfl) (op_call0 (args := [(aG (ptL a)), (aG (ptL b)), (aG (ptL c)), (aG (ptL p))]) rfl rfl Tryz.call26) (fun w hw => Bary0_ok a b c p (by omega) h w) rfl (leB rfl) ?_
  refine st (ex_move rfl) (leB rfl) ?_
  refine st (ex_extract (v := (aG (fracL (0 : Rat) ++ fracL (0 : Rat) ++ fracL (0 : Rat)))) rfl rfl) (leB rfl) ?_
  refine st (ex_extract (v := (vI 1)) rfl rfl) (leB rfl) ?_
  refine OkL.open_ (T := 56) (cs := fracL (0 : Rat) ++ fracL (0 : Rat) ++ fracL (0 : Rat)) (wt_none rfl) (op_alloc (cs := fracL (0 : Rat) ++ fracL (0 : Rat) ++ fracL (0 : Rat)) Tryz.zeroValue56 rfl) rfl (leB rfl) ?_; intro b8
  refine OkL.store' (i := 0) (off := 0) (vs := fracL (0 : Rat) ++ fracL (0 : Rat) ++ fracL (0 : Rat)) (cs' := fracL (0 : Rat) ++ fracL (0 : Rat) ++ fracL (0 : Rat)) (L' := [blk b8 56 (fracL (0 : Rat) ++ fracL (0 : Rat) ++ fracL (0 : Rat)), blk b4 38 (ptL a), blk b5 38 (ptL b), blk b6 38 (ptL c), blk b7 38 (ptL p), blk b3 24 (qdL v), blk b2 24 (qdL u), blk b1 75 (pdL l0 ++ pdL l1 ++ pdL l2 ++ pdL l3)]) (wt_none rfl) rfl rfl rfl rfl rfl Tryz.sizeOf56 rfl rfl rfl rfl ?_
  refine st (ex_assign rfl) (leB rfl) ?_
  refine q6 (sC 4 rfl (sC 5 rfl (sC 6 rfl (sC 7 rfl (sC 8 rfl (sC 9 rfl (sC 10 rfl (sC 11 rfl (sC 12 rfl (sN)))))))))) ?_
  refine q4 ?_
  refine st (ex_move rfl) (leB rfl) ?_
  refine st (ex_neq (c := true) rfl rfl (by decide)) (leB rfl) ?_
  refine OkL.nil ?_
  refine OkQ.subF (sC 4 rfl (sC 5 rfl (sC 6 rfl (sC 7 rfl (sC 8 rfl (sC 9 rfl (sC 10 rfl (sC 11 rfl (sC 12 rfl (sC 42 rfl (sN))))))))))) ?_
  refine OkQ.then_ ?_
  refine OkC.cond_true rfl ?_
  refine q4 ?_
  refine st (ex_move rfl) (leB rfl) ?_
  refine st (ex_eql (c := true) rfl rfl (by decide)) (leB rfl) ?_
  refine st (ex_move rfl) (leB rfl) ?_
  refine OkL.step (v := (aG (ptL a))) (wt_some rfl rfl rfl) (ex_load_agg (i := 1) (vs := ptL a) rfl rfl Tryz.isAgg38 Tryz.sizeOf38 rfl rfl) rfl (leB rfl) ?_
  refine OkL.step (v := (aG (ptL b))) (wt_some rfl rfl rfl) (ex_load_agg (i := 2) (vs := ptL b) rfl rfl Tryz.isAgg38 Tryz.sizeOf38 rfl rfl) rfl (leB rfl) ?_
  refine OkL.step (v := (aG (ptL c))) (wt_some rfl rfl rfl) (ex_load_agg (i := 3) (vs := ptL c) rfl rfl Tryz.isAgg38 Tryz.sizeOf38 rfl rfl) rfl (leB rfl) ?_
  refine OkL.call (v := (vI ((turnP a b c).num.sign))) (wt_some rfl rfl rfl) (op_call0 (args := [(aG (ptL a)), (aG (ptL b)), (aG (ptL c))]) rfl rfl Tryz.call50) (fun w hw => pTurn_ok a b c (by omega) w) rfl (leB rfl) ?_
  refine OkL.step (v := (Value.bool true)) (wt_some rfl rfl rfl) (ex_eql (c := true) rfl rfl (by rw [h]; rfl)) rfl (leB rfl) ?_
  refine st (v := (Value.bool true)) (ex_pick_true rfl rfl) (leB rfl) ?_
  refine st (ex_move rfl) (leB rfl) ?_
  refine OkL.step (v := (aG (ptL a))) (wt_some rfl rfl rfl) (ex_load_agg (i := 1) (vs := ptL a) rfl rfl Tryz.isAgg38 Tryz.sizeOf38 rfl rfl) rfl (leB rfl) ?_
  refine OkL.step (v := (aG (ptL b))) (wt_some rfl rfl rfl) (ex_load_agg (i := 2) (vs := ptL b) rfl rfl Tryz.isAgg38 Tryz.sizeOf38 rfl rfl) rfl (leB rfl) ?_
  refine OkL.step (v := (aG (ptL c))) (wt_some rfl rfl rfl) (ex_load_agg (i := 3) (vs := ptL c) rfl rfl Tryz.isAgg38 Tryz.sizeOf38 rfl rfl) rfl (leB rfl) ?_
  refine OkL.step (v := (aG (ptL p))) (wt_some rfl rfl rfl) (ex_load_agg (i := 4) (vs := ptL p) rfl rfl Tryz.isAgg38 Tryz.sizeOf38 rfl rfl) rfl (leB rfl) ?_
  refine OkL.call (v := (vI 0)) (wt_some rfl rfl rfl) (op_call0 (args := [(aG (ptL a)), (aG (ptL b)), (aG (ptL c)), (aG (ptL p))]) rfl rfl Tryz.call34) (fun w hw => Where0_ok a b c p (by omega) h w) rfl (leB rfl) ?_
  refine OkL.step (v := (Value.bool true)) (wt_some rfl rfl rfl) (ex_eql (c := true) rfl rfl (by decide)) rfl (leB rfl) ?_
  refine st (v := (Value.bool true)) (ex_pick_true rfl rfl) (leB rfl) ?_
  refine st (ex_move rfl) (leB rfl) ?_
  refine OkL.call (v := (Value.bool true)) (wt_some rfl rfl rfl) (op_call0 (args := []) rfl rfl Tryz.call21) (fun w hw => lives_ok w) rfl (leB rfl) ?_
  refine st (v := (Value.bool true)) (ex_pick_true rfl rfl) (leB rfl) ?_
  refine st (ex_assign rfl) (leB rfl) ?_
  refine OkL.nil ?_
  refine OkQ.subF (sC 4 rfl (sC 5 rfl (sC 6 rfl (sC 7 rfl (sC 8 rfl (sC 9 rfl (sC 10 rfl (sC 11 rfl (sC 12 rfl (sC 42 rfl (sN))))))))))) ?_
  refine OkQ.then_ ?_
  refine OkC.ret ?_
  refine OkQ.then_ret ?_
  exact ret_one rfl (rd_tmp (v := (Value.bool true)) rfl) (fun w hw => ⟨rfl, hw.out⟩)

theorem fill_numzc_56_0fracL_1fracL_2fracL (x0 : Rat) (x1 : Rat) (x2 : Rat) : Instr.fill (fun i => some (i * 5, 5)) (fracL (0 : Rat) ++ fracL (0 : Rat) ++ fracL (0 : Rat)).toArray [(0, .agg (fracL x0).toArray), (1, .agg (fracL x1).toArray), (2, .agg (fracL x2).toArray)] = some (fracL x0 ++ fracL x1 ++ fracL x2).toArray := by kernel_rfl
set_option maxHeartbeats 2000000 in
theorem TrisBack1_ok (l0 l1 l2 l3 : PD) (u v : QD) (k0 : l0.ok) (k1 : l1.ok) (k2 : l2.ok) (k3 : l3.ok) (ku : u.ok) (kv : v.ok) (h : turnP (ptOf l0) (ptOf l1) (ptOf l2) ≠ 0) (w : World)  : Calls Tryz.prog 7 #[(aG (pdL l0 ++ pdL l1 ++ pdL l2 ++ pdL l3)), (aG (qdL u)), (aG (qdL v))] w (Gives w (Value.bool true)) := by
  obtain ⟨a, ha⟩ : ∃ q, q = ptOf l0 := ⟨_, rfl⟩
  obtain ⟨b, hb⟩ : ∃ q, q = ptOf l1 := ⟨_, rfl⟩
  obtain ⟨c, hc⟩ : ∃ q, q = ptOf l2 := ⟨_, rfl⟩
  obtain ⟨p, hp⟩ : ∃ q, q = ptOf l3 := ⟨_, rfl⟩
  have sa : SzP a ≤ 4 := by rw [ha]; exact SzP_ptOf k0
  have sb : SzP b ≤ 4 := by rw [hb]; exact SzP_ptOf k1
  have sc : SzP c ≤ 4 := by rw [hc]; exact SzP_ptOf k2
  have sp : SzP p ≤ 4 := by rw [hp]; exact SzP_ptOf k3
  obtain ⟨x, hx⟩ : ∃ q, q = qOf u := ⟨_, rfl⟩
  obtain ⟨y, hy⟩ : ∃ q, q = qOf v := ⟨_, rfl⟩
  have sx : Sz x ≤ 4 := by rw [hx]; exact Sz_qOf ku
  have sy : Sz y ≤ 4 := by rw [hy]; exact Sz_qOf kv
  rw [← ha, ← hb, ← hc] at h
  have hns := sign_ne h
  have s1 := Sz_int (z := 1) (by omega) (by omega)
  have z1 := Sz_sub 1 x
  have z2 := Sz_sub (1 - x) y
  rw [show ((1 : Int) : Rat) = 1 from rfl] at s1
  obtain ⟨r, hr⟩ : ∃ r, r = scaleP a x + scaleP b y + scaleP c (1 - x - y) := ⟨_, rfl⟩
  have sr : SzP r ≤ 64 := by
    rw [hr]
    have g1 := SzP_scale a x; have g2 := SzP_scale b y; have g3 := SzP_scale c (1 - x - y); have g4 := SzP_add (scaleP a x) (scaleP b y); have g5 := SzP_add (scaleP a x + scaleP b y) (scaleP c (1 - x - y))
    omega
  obtain ⟨ql0, hql0⟩ : ∃ l, l = turnP p b c / turnP a b c := ⟨_, rfl⟩
  obtain ⟨ql1, hql1⟩ : ∃ l, l = turnP a p c / turnP a b c := ⟨_, rfl⟩
  obtain ⟨ql2, hql2⟩ : ∃ l, l = turnP a b p / turnP a b c := ⟨_, rfl⟩
  have hat := back_at (p := p) h
  have hsum := back_sum (p := p) h
  rw [← hql0, ← hql1, ← hql2] at hat hsum
  have t0 := Sz_turn p b c
  have t1 := Sz_turn a p c
  have t2 := Sz_turn a b p
  have t3 := Sz_turn a b c
  have sql0 : Sz ql0 ≤ 128 := by rw [hql0]; have := Sz_div (a := turnP p b c) h; omega
  have sql1 : Sz ql1 ≤ 128 := by rw [hql1]; have := Sz_div (a := turnP a p c) h; omega
  have sql2 : Sz ql2 ≤ 128 := by rw [hql2]; have := Sz_div (a := turnP a b p) h; omega
  refine calls_of (args := [(aG (pdL l0 ++ pdL l1 ++ pdL l2 ++ pdL l3)), (aG (qdL u)), (aG (qdL v))]) Tryz.func7 rfl rfl (leB rfl) ?_
  refine OkC.subF (sC 0 rfl (sC 1 rfl (sC 2 rfl (sN)))) ?_
  refine q4 ?_
  refine OkL.open_ (T := 75) (cs := pdL l0 ++ pdL l1 ++ pdL l2 ++ pdL l3) (wt_none rfl) (op_box (cs := pdL l0 ++ pdL l1 ++ pdL l2 ++ pdL l3) rfl rfl) rfl (leB rfl) ?_; intro b1
  refine OkL.open_ (T := 24) (cs := qdL u) (wt_none rfl) (op_box (cs := qdL u) rfl rfl) rfl (leB rfl) ?_; intro b2
  refine OkL.open_ (T := 24) (cs := qdL v) (wt_none rfl) (op_box (cs := qdL v) rfl rfl) rfl (leB rfl) ?_; intro b3
  refine st (ex_assign rfl) (leB rfl) ?_
  refine q6 (sC 3 rfl (sC 4 rfl (sC 5 rfl (sC 6 rfl (sN))))) ?_
  refine OkC.drawn' (specs := [⟨.pure, fun _ => (pP b1 0), [], 0, []⟩, ⟨.held, fun _ => (aG (pdL l0)), [], 0, []⟩, ⟨.call, fun _ => (aG (ptL a)), [], 0, []⟩, ⟨.pure, fun _ => (pP b1 4), [], 0, []⟩, ⟨.held, fun _ => (aG (pdL l1)), [], 0, []⟩, ⟨.call, fun _ => (aG (ptL b)), [], 0, []⟩, ⟨.pure, fun _ => (pP b1 8), [], 0, []⟩, ⟨.held, fun _ => (aG (pdL l2)), [], 0, []⟩, ⟨.call, fun _ => (aG (ptL c)), [], 0, []⟩, ⟨.pure, fun _ => (pP b1 12), [], 0, []⟩, ⟨.held, fun _ => (aG (pdL l3)), [], 0, []⟩, ⟨.call, fun _ => (aG (ptL p)), [], 0, []⟩, ⟨.new, fun β => (pP (β 12) 0), [], 38, ptL (⟨0, 0⟩ : Pt)⟩, ⟨.new, fun β => (pP (β 13) 0), [], 38, ptL (⟨0, 0⟩ : Pt)⟩, ⟨.new, fun β => (pP (β 14) 0), [], 38, ptL (⟨0, 0⟩ : Pt)⟩, ⟨.new, fun β => (pP (β 15) 0), [], 38, ptL (⟨0, 0⟩ : Pt)⟩]) (by kernel_rfl) (fun hchk1 => ?_)
  refine dR (Lro := [blk b3 24 (qdL v), blk b2 24 (qdL u), blk b1 75 (pdL l0 ++ pdL l1 ++ pdL l2 ++ pdL l3)]) (List.Sublist.refl _) (dC (dC (dC (dC (dC (dC (dC (dC (dC (dC (dC (dC (DepAll.block (V := fun b => (Value.pointer (some ⟨b, 0, none⟩))) (DepAll.block (V := fun b => (Value.pointer (some ⟨b, 0, none⟩))) (DepAll.block (V := fun b => (Value.pointer (some ⟨b, 0, none⟩))) (DepAll.block (V := fun b => (Value.pointer (some ⟨b, 0, none⟩))) (dN))))))))))))))))) hchk1 (by kernel_rfl) (fun _ _ d _ _ h => by cases d <;> exact h) (vC (vc_pure0 (G := fun β => [(3, (pP b1 0))]) (fun β => sF (by kernel_rfl)) (fun β _ => ex_indexAddr_array (j := 0) rfl rfl Tryz.underlying75 Tryz.sizeOf26 rfl (by decide) rfl)) (vC (vc_held0 (G := fun β => [(21, (pP b1 0))]) (fun β => sF (by kernel_rfl)) (fun β => ex_load_agg (i := 2) (vs := pdL l0) rfl rfl Tryz.isAgg26 Tryz.sizeOf26 rfl rfl)) (vC (vc_call0 (G := fun β => [(22, (aG (pdL l0)))]) (fun β => sF (by kernel_rfl)) (fun β => op_call0 (args := [(aG (pdL l0))]) rfl rfl Tryz.call10) (fun β w hw => (by rw [ha]; exact POf_ok l0 k0 w))) (vC (vc_pure0 (G := fun β => [(3, (pP b1 0))]) (fun β => sF (by kernel_rfl)) (fun β _ => ex_indexAddr_array (j := 1) rfl rfl Tryz.underlying75 Tryz.sizeOf26 rfl (by decide) rfl)) (vC (vc_held0 (G := fun β => [(24, (pP b1 4))]) (fun β => sF (by kernel_rfl)) (fun β => ex_load_agg (i := 2) (vs := pdL l1) rfl rfl Tryz.isAgg26 Tryz.sizeOf26 rfl rfl)) (vC (vc_call0 (G := fun β => [(25, (aG (pdL l1)))]) (fun β => sF (by kernel_rfl)) (fun β => op_call0 (args := [(aG (pdL l1))]) rfl rfl Tryz.call10) (fun β w hw => (by rw [hb]; exact POf_ok l1 k1 w))) (vC (vc_pure0 (G := fun β => [(3, (pP b1 0))]) (fun β => sF (by kernel_rfl)) (fun β _ => ex_indexAddr_array (j := 2) rfl rfl Tryz.underlying75 Tryz.sizeOf26 rfl (by decide) rfl)) (vC (vc_held0 (G := fun β => [(27, (pP b1 8))]) (fun β => sF (by kernel_rfl)) (fun β => ex_load_agg (i := 2) (vs := pdL l2) rfl rfl Tryz.isAgg26 Tryz.sizeOf26 rfl rfl)) (vC (vc_call0 (G := fun β => [(28, (aG (pdL l2)))]) (fun β => sF (by kernel_rfl)) (fun β => op_call0 (args := [(aG (pdL l2))]) rfl rfl Tryz.call10) (fun β w hw => (by rw [hc]; exact POf_ok l2 k2 w))) (vC (vc_pure0 (G := fun β => [(3, (pP b1 0))]) (fun β => sF (by kernel_rfl)) (fun β _ => ex_indexAddr_array (j := 3) rfl rfl Tryz.underlying75 Tryz.sizeOf26 rfl (by decide) rfl)) (vC (vc_held0 (G := fun β => [(30, (pP b1 12))]) (fun β => sF (by kernel_rfl)) (fun β => ex_load_agg (i := 2) (vs := pdL l3) rfl rfl Tryz.isAgg26 Tryz.sizeOf26 rfl rfl)) (vC (vc_call0 (G := fun β => [(31, (aG (pdL l3)))]) (fun β => sF (by kernel_rfl)) (fun β => op_call0 (args := [(aG (pdL l3))]) rfl rfl Tryz.call10) (fun β w hw => (by rw [hp]; exact POf_ok l3 k3 w))) (vC (vc_new0 (V := fun b => (Value.pointer (some ⟨b, 0, none⟩))) (j := 12) (one_place hchk1 rfl rfl rfl) (G := fun β => []) (fun β => sN) (fun β => op_alloc (cs := ptL (⟨0, 0⟩ : Pt)) Tryz.zeroValue38 rfl)) (vC (vc_new0 (V := fun b => (Value.pointer (some ⟨b, 0, none⟩))) (j := 13) (one_place hchk1 rfl rfl rfl) (G := fun β => []) (fun β => sN) (fun β => op_alloc (cs := ptL (⟨0, 0⟩ : Pt)) Tryz.zeroValue38 rfl)) (vC (vc_new0 (V := fun b => (Value.pointer (some ⟨b, 0, none⟩))) (j := 14) (one_place hchk1 rfl rfl rfl) (G := fun β => []) (fun β => sN) (fun β => op_alloc (cs := ptL (⟨0, 0⟩ : Pt)) Tryz.zeroValue38 rfl)) (vC (vc_new0 (V := fun b => (Value.pointer (some ⟨b, 0, none⟩))) (j := 15) (one_place hchk1 rfl rfl rfl) (G := fun β => []) (fun β => sN) (fun β => op_alloc (cs := ptL (⟨0, 0⟩ : Pt)) Tryz.zeroValue38 rfl)) (VcAll.nil))))))))))))))))) (fun β => ?_)
  clear hchk1
  refine OkLH.sub (F' := [(4, (pP b2 0)), (5, (pP b3 0)), (6, (Value.bool false)), (23, (aG (ptL a))), (26, (aG (ptL b))), (29, (aG (ptL c))), (32, (aG (ptL p))), (7, (pP (β 12) 0)), (8, (pP (β 13) 0)), (9, (pP (β 14) 0)), (10, (pP (β 15) 0))]) (L' := [blk (β 12) 38 (ptL (⟨0, 0⟩ : Pt)), blk (β 13) 38 (ptL (⟨0, 0⟩ : Pt)), blk (β 14) 38 (ptL (⟨0, 0⟩ : Pt)), blk (β 15) 38 (ptL (⟨0, 0⟩ : Pt)), blk b3 24 (qdL v), blk b2 24 (qdL u), blk b1 75 (pdL l0 ++ pdL l1 ++ pdL l2 ++ pdL l3)]) (sF rfl) (List.Sublist.refl _) ?_
  generalize β 12 = b4
  generalize β 13 = b5
  generalize β 14 = b6
  generalize β 15 = b7
  refine OkLH.store' (i := 0) (off := 0) (vs := ptL a) (cs' := ptL a) (L' := [blk b4 38 (ptL a), blk b5 38 (ptL (⟨0, 0⟩ : Pt)), blk b6 38 (ptL (⟨0, 0⟩ : Pt)), blk b7 38 (ptL (⟨0, 0⟩ : Pt)), blk b3 24 (qdL v), blk b2 24 (qdL u), blk b1 75 (pdL l0 ++ pdL l1 ++ pdL l2 ++ pdL l3)]) (List.Sublist.cons _ (List.Sublist.cons _ (List.Sublist.cons _ (List.Sublist.cons _ (List.Sublist.refl _))))) (wt_none rfl) rfl rfl rfl rfl rfl Tryz.sizeOf38 rfl rfl rfl rfl ?_
  refine OkLH.store' (i := 1) (off := 0) (vs := ptL b) (cs' := ptL b) (L' := [blk b4 38 (ptL a), blk b5 38 (ptL b), blk b6 38 (ptL (⟨0, 0⟩ : Pt)), blk b7 38 (ptL (⟨0, 0⟩ : Pt)), blk b3 24 (qdL v), blk b2 24 (qdL u), blk b1 75 (pdL l0 ++ pdL l1 ++ pdL l2 ++ pdL l3)]) (List.Sublist.cons _ (List.Sublist.cons _ (List.Sublist.cons _ (List.Sublist.cons _ (List.Sublist.refl _))))) (wt_none rfl) rfl rfl rfl rfl rfl Tryz.sizeOf38 rfl rfl rfl rfl ?_
  refine OkLH.store' (i := 2) (off := 0) (vs := ptL c) (cs' := ptL c) (L' := [blk b4 38 (ptL a), blk b5 38 (ptL b), blk b6 38 (ptL c), blk b7 38 (ptL (⟨0, 0⟩ : Pt)), blk b3 24 (qdL v), blk b2 24 (qdL u), blk b1 75 (pdL l0 ++ pdL l1 ++ pdL l2 ++ pdL l3)]) (List.Sublist.cons _ (List.Sublist.cons _ (List.Sublist.cons _ (List.Sublist.cons _ (List.Sublist.refl _))))) (wt_none rfl) rfl rfl rfl rfl rfl Tryz.sizeOf38 rfl rfl rfl rfl ?_
  refine OkLH.store' (i := 3) (off := 0) (vs := ptL p) (cs' := ptL p) (L' := [blk b4 38 (ptL a), blk b5 38 (ptL b), blk b6 38 (ptL c), blk b7 38 (ptL p), blk b3 24 (qdL v), blk b2 24 (qdL u), blk b1 75 (pdL l0 ++ pdL l1 ++ pdL l2 ++ pdL l3)]) (List.Sublist.cons _ (List.Sublist.cons _ (List.Sublist.cons _ (List.Sublist.cons _ (List.Sublist.refl _))))) (wt_none rfl) rfl rfl rfl rfl rfl Tryz.sizeOf38 rfl rfl rfl rfl ?_
  refine q5 (sC 4 rfl (sC 5 rfl (sC 6 rfl (sC 7 rfl (sC 8 rfl (sC 9 rfl (sC 10 rfl (sN)))))))) ?_
  refine st (ex_load_agg (i := 0) (vs := ptL a) rfl rfl Tryz.isAgg38 Tryz.sizeOf38 rfl rfl) (leB rfl) ?_
  refine st (ex_load_agg (i := 1) (vs := ptL b) rfl rfl Tryz.isAgg38 Tryz.sizeOf38 rfl rfl) (leB rfl) ?_
  refine st (ex_load_agg (i := 2) (vs := ptL c) rfl rfl Tryz.isAgg38 Tryz.sizeOf38 rfl rfl) (leB rfl) ?_
  refine st (ex_load_agg (i := 3) (vs := ptL p) rfl rfl Tryz.isAgg38 Tryz.sizeOf38 rfl rfl) (leB rfl) ?_
  refine OkL.call (v := (Value.tuple #[(aG (fracL ql0 ++ fracL ql1 ++ fracL ql2)), (vI 0)])) (wt_none rfl) (op_call0 (args := [(aG (ptL a)), (aG (ptL b)), (aG (ptL c)), (aG (ptL p))]) rfl rfl Tryz.call26) (fun w hw => (by rw [hql0, hql1, hql2]; exact Bary_ok a b c p (by omega) h w)) rfl (leB rfl) ?_
  refine st (ex_move rfl) (leB rfl) ?_
  refine st (ex_extract (v := (aG (fracL ql0 ++ fracL ql1 ++ fracL ql2))) rfl rfl) (leB rfl) ?_
  refine st (ex_extract (v := (vI 0)) rfl rfl) (leB rfl) ?_
  refine OkL.open_ (T := 56) (cs := fracL (0 : Rat) ++ fracL (0 : Rat) ++ fracL (0 : Rat)) (wt_none rfl) (op_alloc (cs := fracL (0 : Rat) ++ fracL (0 : Rat) ++ fracL (0 : Rat)) Tryz.zeroValue56 rfl) rfl (leB rfl) ?_; intro b8
  refine OkL.store' (i := 0) (off := 0) (vs := fracL ql0 ++ fracL ql1 ++ fracL ql2) (cs' := fracL ql0 ++ fracL ql1 ++ fracL ql2) (L' := [blk b8 56 (fracL ql0 ++ fracL ql1 ++ fracL ql2), blk b4 38 (ptL a), blk b5 38 (ptL b), blk b6 38 (ptL c), blk b7 38 (ptL p), blk b3 24 (qdL v), blk b2 24 (qdL u), blk b1 75 (pdL l0 ++ pdL l1 ++ pdL l2 ++ pdL l3)]) (wt_none rfl) rfl rfl rfl rfl rfl Tryz.sizeOf56 rfl rfl rfl rfl ?_
  refine st (ex_assign rfl) (leB rfl) ?_
  refine q6 (sC 4 rfl (sC 5 rfl (sC 6 rfl (sC 7 rfl (sC 8 rfl (sC 9 rfl (sC 10 rfl (sC 11 rfl (sC 12 rfl (sN)))))))))) ?_
  refine q4 ?_
  refine st (ex_move rfl) (leB rfl) ?_
  refine st (ex_neq (c := false) rfl rfl (by decide)) (leB rfl) ?_
  refine OkL.nil ?_
  refine OkQ.subF (sC 4 rfl (sC 5 rfl (sC 6 rfl (sC 7 rfl (sC 8 rfl (sC 9 rfl (sC 10 rfl (sC 11 rfl (sC 12 rfl (sC 42 rfl (sN))))))))))) ?_
  refine OkQ.then_ ?_
  refine OkC.cond_false rfl ?_
  refine OkC.skip ?_
  refine q2 ?_
  refine OkL.call (v := (aG (fracL (1 : Rat)))) (wt_none rfl) (op_call0 (args := [(vI 1)]) rfl rfl Tryz.call44) (fun w hw => one_ok w) rfl (leB rfl) ?_
  refine OkL.open_ (T := 36) (cs := fracL (0 : Rat)) (wt_none rfl) (op_alloc (cs := fracL (0 : Rat)) Tryz.zeroValue36 rfl) rfl (leB rfl) ?_; intro b9
  refine OkL.store' (i := 0) (off := 0) (vs := fracL (1 : Rat)) (cs' := fracL (1 : Rat)) (L' := [blk b9 36 (fracL (1 : Rat)), blk b8 56 (fracL ql0 ++ fracL ql1 ++ fracL ql2), blk b4 38 (ptL a), blk b5 38 (ptL b), blk b6 38 (ptL c), blk b7 38 (ptL p), blk b3 24 (qdL v), blk b2 24 (qdL u), blk b1 75 (pdL l0 ++ pdL l1 ++ pdL l2 ++ pdL l3)]) (wt_none rfl) rfl rfl rfl rfl rfl Tryz.sizeOf36 rfl rfl rfl rfl ?_
  refine q6 (sC 4 rfl (sC 5 rfl (sC 6 rfl (sC 7 rfl (sC 8 rfl (sC 9 rfl (sC 10 rfl (sC 11 rfl (sC 12 rfl (sC 42 rfl (sC 13 rfl (sN)))))))))))) ?_
  have hz1 := Sz_sub (1 : Rat) x
  have hz2 := Sz_sub ((1 : Rat) - x) y
  refine OkC.drawn' (specs := [⟨.held, fun _ => (aG (qdL u)), [], 0, []⟩, ⟨.call, fun _ => (aG (fracL x)), [], 0, []⟩, ⟨.held, fun _ => (aG (qdL v)), [], 0, []⟩, ⟨.call, fun _ => (aG (fracL y)), [], 0, []⟩, ⟨.held, fun _ => (aG (fracL (1 : Rat))), [], 0, []⟩, ⟨.held, fun _ => (aG (qdL u)), [], 0, []⟩, ⟨.call, fun _ => (aG (fracL x)), [], 0, []⟩, ⟨.call, fun _ => (aG (fracL ((1 : Rat) - x))), [], 0, []⟩, ⟨.held, fun _ => (aG (qdL v)), [], 0, []⟩, ⟨.call, fun _ => (aG (fracL y)), [], 0, []⟩, ⟨.call, fun _ => (aG (fracL (((1 : Rat) - x) - y))), [], 0, []⟩, ⟨.pure, fun _ => (aG (fracL x ++ fracL y ++ fracL (((1 : Rat) - x) - y))), [], 0, []⟩, ⟨.new, fun β => (pP (β 12) 0), [], 56, fracL (0 : Rat) ++ fracL (0 : Rat) ++ fracL (0 : Rat)⟩]) (by kernel_rfl) (fun hchk2 => ?_)
  refine dR (Lro := [blk b9 36 (fracL (1 : Rat)), blk b8 56 (fracL ql0 ++ fracL ql1 ++ fracL ql2), blk b4 38 (ptL a), blk b5 38 (ptL b), blk b6 38 (ptL c), blk b7 38 (ptL p), blk b3 24 (qdL v), blk b2 24 (qdL u), blk b1 75 (pdL l0 ++ pdL l1 ++ pdL l2 ++ pdL l3)]) (List.Sublist.refl _) (dC (dC (dC (dC (dC (dC (dC (dC (dC (dC (dC (dC (DepAll.block (V := fun b => (Value.pointer (some ⟨b, 0, none⟩))) (dN)))))))))))))) hchk2 (by kernel_rfl) (fun _ _ d _ _ h => by cases d <;> exact h) (vC (vc_held0 (G := fun β => [(4, (pP b2 0))]) (fun β => sF (by kernel_rfl)) (fun β => ex_load_agg (i := 7) (vs := qdL u) rfl rfl Tryz.isAgg24 Tryz.sizeOf24 rfl rfl)) (vC (vc_call0 (G := fun β => [(64, (aG (qdL u)))]) (fun β => sF (by kernel_rfl)) (fun β => op_call0 (args := [(aG (qdL u))]) rfl rfl Tryz.call29) (fun β w hw => (by rw [hx]; exact QOf_ok u ku w))) (vC (vc_held0 (G := fun β => [(5, (pP b3 0))]) (fun β => sF (by kernel_rfl)) (fun β => ex_load_agg (i := 6) (vs := qdL v) rfl rfl Tryz.isAgg24 Tryz.sizeOf24 rfl rfl)) (vC (vc_call0 (G := fun β => [(66, (aG (qdL v)))]) (fun β => sF (by kernel_rfl)) (fun β => op_call0 (args := [(aG (qdL v))]) rfl rfl Tryz.call29) (fun β w hw => (by rw [hy]; exact QOf_ok v kv w))) (vC (vc_held0 (G := fun β => [(13, (pP b9 0))]) (fun β => sF (by kernel_rfl)) (fun β => ex_load_agg (i := 0) (vs := fracL (1 : Rat)) rfl rfl Tryz.isAgg36 Tryz.sizeOf36 rfl rfl)) (vC (vc_held0 (G := fun β => [(4, (pP b2 0))]) (fun β => sF (by kernel_rfl)) (fun β => ex_load_agg (i := 7) (vs := qdL u) rfl rfl Tryz.isAgg24 Tryz.sizeOf24 rfl rfl)) (vC (vc_call0 (G := fun β => [(69, (aG (qdL u)))]) (fun β => sF (by kernel_rfl)) (fun β => op_call0 (args := [(aG (qdL u))]) rfl rfl Tryz.call29) (fun β w hw => (by rw [hx]; exact QOf_ok u ku w))) (vC (vc_call0 (G := fun β => [(68, (aG (fracL (1 : Rat)))), (70, (aG (fracL x)))]) (fun β => sF (by kernel_rfl)) (fun β => op_call0 (args := [(aG (fracL (1 : Rat))), (aG (fracL x))]) rfl rfl Tryz.call39) (fun β w hw => fSub_ok (1 : Rat) x (by (try simp only [Sz_neg]); omega) w)) (vC (vc_held0 (G := fun β => [(5, (pP b3 0))]) (fun β => sF (by kernel_rfl)) (fun β => ex_load_agg (i := 6) (vs := qdL v) rfl rfl Tryz.isAgg24 Tryz.sizeOf24 rfl rfl)) (vC (vc_call0 (G := fun β => [(72, (aG (qdL v)))]) (fun β => sF (by kernel_rfl)) (fun β => op_call0 (args := [(aG (qdL v))]) rfl rfl Tryz.call29) (fun β w hw => (by rw [hy]; exact QOf_ok v kv w))) (vC (vc_call0 (G := fun β => [(71, (aG (fracL ((1 : Rat) - x)))), (73, (aG (fracL y)))]) (fun β => sF (by kernel_rfl)) (fun β => op_call0 (args := [(aG (fracL ((1 : Rat) - x))), (aG (fracL y))]) rfl rfl Tryz.call39) (fun β w hw => fSub_ok ((1 : Rat) - x) y (by (try simp only [Sz_neg]); omega) w)) (vC (vc_pure0 (G := fun β => [(65, (aG (fracL x))), (67, (aG (fracL y))), (74, (aG (fracL (((1 : Rat) - x) - y))))]) (fun β => sF (by kernel_rfl)) (fun β _ => ex_build_array (zs := fracL (0 : Rat) ++ fracL (0 : Rat) ++ fracL (0 : Rat)) (vs := fracL x ++ fracL y ++ fracL (((1 : Rat) - x) - y)) (pv := [(0, (aG (fracL x))), (1, (aG (fracL y))), (2, (aG (fracL (((1 : Rat) - x) - y))))]) Tryz.zeroValue56 Tryz.underlying56 Tryz.sizeOf36 rfl (fill_numzc_56_0fracL_1fracL_2fracL x y (((1 : Rat) - x) - y)))) (vC (vc_new0 (V := fun b => (Value.pointer (some ⟨b, 0, none⟩))) (j := 12) (one_place hchk2 rfl rfl rfl) (G := fun β => []) (fun β => sN) (fun β => op_alloc (cs := fracL (0 : Rat) ++ fracL (0 : Rat) ++ fracL (0 : Rat)) Tryz.zeroValue56 rfl)) (VcAll.nil)))))))))))))) (fun β => ?_)
  clear hchk2
  refine OkLH.sub (F' := [(6, (Value.bool false)), (7, (pP b4 0)), (8, (pP b5 0)), (9, (pP b6 0)), (10, (pP b7 0)), (11, (pP b8 0)), (12, (vI 0)), (42, (Value.bool false)), (13, (pP b9 0)), (75, (aG (fracL x ++ fracL y ++ fracL (((1 : Rat) - x) - y)))), (14, (pP (β 12) 0))]) (L' := [blk (β 12) 56 (fracL (0 : Rat) ++ fracL (0 : Rat) ++ fracL (0 : Rat)), blk b9 36 (fracL (1 : Rat)), blk b8 56 (fracL ql0 ++ fracL ql1 ++ fracL ql2), blk b4 38 (ptL a), blk b5 38 (ptL b), blk b6 38 (ptL c), blk b7 38 (ptL p), blk b3 24 (qdL v), blk b2 24 (qdL u), blk b1 75 (pdL l0 ++ pdL l1 ++ pdL l2 ++ pdL l3)]) (sF rfl) (List.Sublist.refl _) ?_
  generalize β 12 = b10
  refine OkLH.store' (i := 0) (off := 0) (vs := fracL x ++ fracL y ++ fracL (((1 : Rat) - x) - y)) (cs' := fracL x ++ fracL y ++ fracL (((1 : Rat) - x) - y)) (L' := [blk b10 56 (fracL x ++ fracL y ++ fracL (((1 : Rat) - x) - y)), blk b9 36 (fracL (1 : Rat)), blk b8 56 (fracL ql0 ++ fracL ql1 ++ fracL ql2), blk b4 38 (ptL a), blk b5 38 (ptL b), blk b6 38 (ptL c), blk b7 38 (ptL p), blk b3 24 (qdL v), blk b2 24 (qdL u), blk b1 75 (pdL l0 ++ pdL l1 ++ pdL l2 ++ pdL l3)]) (List.Sublist.cons _ (List.Sublist.refl _)) (wt_none rfl) rfl rfl rfl rfl rfl Tryz.sizeOf56 rfl rfl rfl rfl ?_
  refine q7 (sC 6 rfl (sC 7 rfl (sC 8 rfl (sC 9 rfl (sC 10 rfl (sC 11 rfl (sC 12 rfl (sC 42 rfl (sC 13 rfl (sC 14 rfl (sN))))))))))) ?_
  refine OkC.drawn' (specs := [⟨.held, fun _ => (aG (ptL a)), [], 0, []⟩, ⟨.held, fun _ => (aG (ptL b)), [], 0, []⟩, ⟨.held, fun _ => (aG (ptL c)), [], 0, []⟩, ⟨.held, fun _ => (aG (ptL a)), [], 0, []⟩, ⟨.held, fun _ => (aG (ptL b)), [], 0, []⟩, ⟨.held, fun _ => (aG (ptL c)), [], 0, []⟩, ⟨.held, fun _ => (aG (fracL x ++ fracL y ++ fracL (((1 : Rat) - x) - y))), [], 0, []⟩, ⟨.call, fun _ => (aG (ptL r)), [], 0, []⟩, ⟨.call, fun _ => (Value.tuple #[(aG (fracL x ++ fracL y ++ fracL (1 - x - y))), (vI 0)]), [], 0, []⟩, ⟨.pure, fun _ => (Value.tuple #[(aG (fracL x ++ fracL y ++ fracL (1 - x - y))), (vI 0)]), [], 0, []⟩, ⟨.pure, fun _ => (aG (fracL x ++ fracL y ++ fracL (1 - x - y))), [], 0, []⟩, ⟨.pure, fun _ => (vI 0), [], 0, []⟩, ⟨.new, fun β => (pP (β 12) 0), [], 56, fracL (0 : Rat) ++ fracL (0 : Rat) ++ fracL (0 : Rat)⟩]) (by kernel_rfl) (fun hchk3 => ?_)
  refine dR (Lro := [blk b10 56 (fracL x ++ fracL y ++ fracL (((1 : Rat) - x) - y)), blk b9 36 (fracL (1 : Rat)), blk b8 56 (fracL ql0 ++ fracL ql1 ++ fracL ql2), blk b4 38 (ptL a), blk b5 38 (ptL b), blk b6 38 (ptL c), blk b7 38 (ptL p), blk b3 24 (qdL v), blk b2 24 (qdL u), blk b1 75 (pdL l0 ++ pdL l1 ++ pdL l2 ++ pdL l3)]) (List.Sublist.refl _) (dC (dC (dC (dC (dC (dC (dC (dC (dC (dC (dC (dC (DepAll.block (V := fun b => (Value.pointer (some ⟨b, 0, none⟩))) (dN)))))))))))))) hchk3 (by kernel_rfl) (fun _ _ d _ _ h => by cases d <;> exact h) (vC (vc_held0 (G := fun β => [(7, (pP b4 0))]) (fun β => sF (by kernel_rfl)) (fun β => ex_load_agg (i := 3) (vs := ptL a) rfl rfl Tryz.isAgg38 Tryz.sizeOf38 rfl rfl)) (vC (vc_held0 (G := fun β => [(8, (pP b5 0))]) (fun β => sF (by kernel_rfl)) (fun β => ex_load_agg (i := 4) (vs := ptL b) rfl rfl Tryz.isAgg38 Tryz.sizeOf38 rfl rfl)) (vC (vc_held0 (G := fun β => [(9, (pP b6 0))]) (fun β => sF (by kernel_rfl)) (fun β => ex_load_agg (i := 5) (vs := ptL c) rfl rfl Tryz.isAgg38 Tryz.sizeOf38 rfl rfl)) (vC (vc_held0 (G := fun β => [(7, (pP b4 0))]) (fun β => sF (by kernel_rfl)) (fun β => ex_load_agg (i := 3) (vs := ptL a) rfl rfl Tryz.isAgg38 Tryz.sizeOf38 rfl rfl)) (vC (vc_held0 (G := fun β => [(8, (pP b5 0))]) (fun β => sF (by kernel_rfl)) (fun β => ex_load_agg (i := 4) (vs := ptL b) rfl rfl Tryz.isAgg38 Tryz.sizeOf38 rfl rfl)) (vC (vc_held0 (G := fun β => [(9, (pP b6 0))]) (fun β => sF (by kernel_rfl)) (fun β => ex_load_agg (i := 5) (vs := ptL c) rfl rfl Tryz.isAgg38 Tryz.sizeOf38 rfl rfl)) (vC (vc_held0 (G := fun β => [(14, (pP b10 0))]) (fun β => sF (by kernel_rfl)) (fun β => ex_load_agg (i := 0) (vs := fracL x ++ fracL y ++ fracL (((1 : Rat) - x) - y)) rfl rfl Tryz.isAgg56 Tryz.sizeOf56 rfl rfl)) (vC (vc_call0 (G := fun β => [(80, (aG (ptL a))), (81, (aG (ptL b))), (82, (aG (ptL c))), (83, (aG (fracL x ++ fracL y ++ fracL (((1 : Rat) - x) - y))))]) (fun β => sF (by kernel_rfl)) (fun β => op_call0 (args := [(aG (ptL a)), (aG (ptL b)), (aG (ptL c)), (aG (fracL x ++ fracL y ++ fracL (((1 : Rat) - x) - y)))]) rfl rfl Tryz.call28) (fun β w hw => (by rw [hr]; exact At_ok a b c x y (1 - x - y) (by omega) (by omega) w))) (vC (vc_call0 (G := fun β => [(77, (aG (ptL a))), (78, (aG (ptL b))), (79, (aG (ptL c))), (84, (aG (ptL r)))]) (fun β => sF (by kernel_rfl)) (fun β => op_call0 (args := [(aG (ptL a)), (aG (ptL b)), (aG (ptL c)), (aG (ptL r))]) rfl rfl Tryz.call26) (fun β w hw => (by have h9 := Bary_ok a b c r (by omega) h w; rw [hr, (back_bary h x y).1, (back_bary h x y).2.1, (back_bary h x y).2.2, ← hr] at h9; exact h9))) (vC (vc_pure0 (G := fun β => [(85, (Value.tuple #[(aG (fracL x ++ fracL y ++ fracL (1 - x - y))), (vI 0)]))]) (fun β => sF (by kernel_rfl)) (fun β _ => ex_move rfl)) (vC (vc_pure0 (G := fun β => [(76, (Value.tuple #[(aG (fracL x ++ fracL y ++ fracL (1 - x - y))), (vI 0)]))]) (fun β => sF (by kernel_rfl)) (fun β _ => ex_extract (v := (aG (fracL x ++ fracL y ++ fracL (1 - x - y)))) rfl rfl)) (vC (vc_pure0 (G := fun β => [(76, (Value.tuple #[(aG (fracL x ++ fracL y ++ fracL (1 - x - y))), (vI 0)]))]) (fun β => sF (by kernel_rfl)) (fun β _ => ex_extract (v := (vI 0)) rfl rfl)) (vC (vc_new0 (V := fun b => (Value.pointer (some ⟨b, 0, none⟩))) (j := 12) (one_place hchk3 rfl rfl rfl) (G := fun β => []) (fun β => sN) (fun β => op_alloc (cs := fracL (0 : Rat) ++ fracL (0 : Rat) ++ fracL (0 : Rat)) Tryz.zeroValue56 rfl)) (VcAll.nil)))))))))))))) (fun β => ?_)
  clear hchk3
  refine OkLH.sub (F' := [(6, (Value.bool false)), (7, (pP b4 0)), (8, (pP b5 0)), (9, (pP b6 0)), (10, (pP b7 0)), (11, (pP b8 0)), (12, (vI 0)), (42, (Value.bool false)), (13, (pP b9 0)), (14, (pP b10 0)), (86, (aG (fracL x ++ fracL y ++ fracL (1 - x - y)))), (87, (vI 0)), (15, (pP (β 12) 0))]) (L' := [blk (β 12) 56 (fracL (0 : Rat) ++ fracL (0 : Rat) ++ fracL (0 : Rat)), blk b10 56 (fracL x ++ fracL y ++ fracL (((1 : Rat) - x) - y)), blk b9 36 (fracL (1 : Rat)), blk b8 56 (fracL ql0 ++ fracL ql1 ++ fracL ql2), blk b4 38 (ptL a), blk b5 38 (ptL b), blk b6 38 (ptL c), blk b7 38 (ptL p), blk b3 24 (qdL v), blk b2 24 (qdL u), blk b1 75 (pdL l0 ++ pdL l1 ++ pdL l2 ++ pdL l3)]) (sF rfl) (List.Sublist.refl _) ?_
  generalize β 12 = b11
  refine OkLH.store' (i := 0) (off := 0) (vs := fracL x ++ fracL y ++ fracL (1 - x - y)) (cs' := fracL x ++ fracL y ++ fracL (1 - x - y)) (L' := [blk b11 56 (fracL x ++ fracL y ++ fracL (1 - x - y)), blk b10 56 (fracL x ++ fracL y ++ fracL (((1 : Rat) - x) - y)), blk b9 36 (fracL (1 : Rat)), blk b8 56 (fracL ql0 ++ fracL ql1 ++ fracL ql2), blk b4 38 (ptL a), blk b5 38 (ptL b), blk b6 38 (ptL c), blk b7 38 (ptL p), blk b3 24 (qdL v), blk b2 24 (qdL u), blk b1 75 (pdL l0 ++ pdL l1 ++ pdL l2 ++ pdL l3)]) (List.Sublist.cons _ (List.Sublist.refl _)) (wt_none rfl) rfl rfl rfl rfl rfl Tryz.sizeOf56 rfl rfl rfl rfl ?_
  refine OkLH.step (v := (vI 0)) (List.Sublist.cons _ (List.Sublist.refl _)) (wt_none rfl) (ex_assign rfl) rfl (leB rfl) ?_
  refine q5 (sC 6 rfl (sC 7 rfl (sC 8 rfl (sC 9 rfl (sC 10 rfl (sC 11 rfl (sC 12 rfl (sC 42 rfl (sC 13 rfl (sC 14 rfl (sC 15 rfl (sN)))))))))))) ?_
  refine st (ex_assign rfl) (leB rfl) ?_
  refine OkL.nil ?_
  refine q2 ?_
  refine st (ex_assign rfl) (leB rfl) ?_
  refine OkL.nil ?_
  refine q1 ?_
  refine q4 ?_
  refine st (ex_assign rfl) (leB rfl) ?_
  refine OkL.nil ?_
  refine OkQ.then_ ?_
  refine OkC.block ?_
  refine OkC.unroll 5 ?_
  refine OkR.step ?_
  refine OkC.seq ?_
  refine q4 ?_
  refine st (ex_move rfl) (leB rfl) ?_
  refine st (ex_lss (c := true) rfl rfl (by decide)) (leB rfl) ?_
  refine OkL.nil ?_
  refine OkQ.then_ ?_
  refine OkC.cond_true rfl ?_
  refine OkC.skip ?_
  refine q1 ?_
  refine OkC.block ?_
  refine OkC.seq ?_
  refine q4 ?_
  refine st (ex_move rfl) (leB rfl) ?_
  refine st (v := (pP b8 0)) (ex_indexAddr_array (j := 0) rfl rfl Tryz.underlying56 Tryz.sizeOf36 rfl (by decide) rfl) (leB rfl) ?_
  refine st (ex_load_agg (i := 3) (vs := fracL ql0) rfl rfl Tryz.isAgg36 Tryz.sizeOf36 rfl rfl) (leB rfl) ?_
  refine OkL.call (v := (vI ql0.num.sign)) (wt_none rfl) (op_call0 (args := [(aG (fracL ql0))]) rfl rfl Tryz.call20) (fun w hw => fSign_ok ql0 w) rfl (leB rfl) ?_
  refine st (ex_lss (c := (decide (ql0.num.sign < (0 : Int)))) rfl rfl rfl) (leB rfl) ?_
  refine OkL.nil ?_
  refine OkQ.then_ ?_
  refine OkC.join1 (J := fun (bl0 : Nat) => bl0 = 0 + ng ql0) (FI := fun (bl0 : Nat) => [(6, (Value.bool false)), (7, (pP b4 0)), (8, (pP b5 0)), (9, (pP b6 0)), (10, (pP b7 0)), (11, (pP b8 0)), (13, (pP b9 0)), (14, (pP b10 0)), (15, (pP b11 0)), (18, (vI 0)), (19, (vI 0)), (88, (vI 0)), (89, (Value.bool true)), (92, (vI 0)), (93, (pP b8 0)), (94, (aG (fracL ql0))), (95, (vI ql0.num.sign)), (96, (Value.bool (decide (ql0.num.sign < (0 : Int))))), (17, (vN bl0))]) (LI := fun (bl0 : Nat) => [blk b11 56 (fracL x ++ fracL y ++ fracL (1 - x - y)), blk b10 56 (fracL x ++ fracL y ++ fracL (((1 : Rat) - x) - y)), blk b9 36 (fracL (1 : Rat)), blk b8 56 (fracL ql0 ++ fracL ql1 ++ fracL ql2), blk b4 38 (ptL a), blk b5 38 (ptL b), blk b6 38 (ptL c), blk b7 38 (ptL p), blk b3 24 (qdL v), blk b2 24 (qdL u), blk b1 75 (pdL l0 ++ pdL l1 ++ pdL l2 ++ pdL l3)]) ?_ ?_
  · skip
    refine OkC.cond rfl (fun hc2 => ?_) (fun hc2 => ?_)
    · replace hc2 := of_decide_eq_true hc2
      refine OkC.region ?_
      refine st (ex_move rfl) (leB rfl) ?_
      refine st (ex_add (c := (1 : Int)) rfl rfl (by decide)) (leB rfl) ?_
      refine st (ex_assign rfl) (leB rfl) ?_
      refine OkL.nil ?_
      exact OkQ.join1 1 (by have e9 := ng_one hc2; omega) (sS rfl (sS rfl (sS rfl (sS rfl (sS rfl (sS rfl (sS rfl (sS rfl (sS rfl (sS rfl (sS rfl (sS rfl (sS rfl (sS rfl (sS rfl (sS rfl (sS rfl (sS rfl (sS rfl (sN)))))))))))))))))))) (List.Sublist.refl _)
    · replace hc2 := of_decide_eq_false hc2
      refine OkC.skip ?_
      exact OkQ.join1 0 (by have e9 := ng_zero hc2; omega) (sS rfl (sS rfl (sS rfl (sS rfl (sS rfl (sS rfl (sS rfl (sS rfl (sS rfl (sS rfl (sS rfl (sS rfl (sS rfl (sS rfl (sS rfl (sS rfl (sS rfl (sS rfl (sS rfl (sN)))))))))))))))))))) (List.Sublist.refl _)
  · intro bl0 hJ
    replace hJ : bl0 = 0 + ng ql0 := hJ
    have ebl0 := hJ
    refine OkQ.sub (F' := [(6, (Value.bool false)), (7, (pP b4 0)), (8, (pP b5 0)), (9, (pP b6 0)), (10, (pP b7 0)), (11, (pP b8 0)), (13, (pP b9 0)), (14, (pP b10 0)), (15, (pP b11 0)), (18, (vI 0)), (19, (vI 0)), (88, (vI 0)), (89, (Value.bool true)), (92, (vI 0)), (93, (pP b8 0)), (94, (aG (fracL ql0))), (95, (vI ql0.num.sign)), (96, (Value.bool (decide (ql0.num.sign < (0 : Int))))), (17, (vN bl0))]) (L' := [blk b11 56 (fracL x ++ fracL y ++ fracL (1 - x - y)), blk b10 56 (fracL x ++ fracL y ++ fracL (((1 : Rat) - x) - y)), blk b9 36 (fracL (1 : Rat)), blk b8 56 (fracL ql0 ++ fracL ql1 ++ fracL ql2), blk b4 38 (ptL a), blk b5 38 (ptL b), blk b6 38 (ptL c), blk b7 38 (ptL p), blk b3 24 (qdL v), blk b2 24 (qdL u), blk b1 75 (pdL l0 ++ pdL l1 ++ pdL l2 ++ pdL l3)]) (sF rfl) (List.Sublist.refl _) ?_
    have zbl0 := ng_le ql0
    refine q2 ?_
    refine st (ex_move rfl) (leB rfl) ?_
    refine st (v := (pP b8 0)) (ex_indexAddr_array (j := 0) rfl rfl Tryz.underlying56 Tryz.sizeOf36 rfl (by decide) rfl) (leB rfl) ?_
    refine st (ex_load_agg (i := 3) (vs := fracL ql0) rfl rfl Tryz.isAgg36 Tryz.sizeOf36 rfl rfl) (leB rfl) ?_
    refine OkL.call (v := (vI ql0.num.sign)) (wt_none rfl) (op_call0 (args := [(aG (fracL ql0))]) rfl rfl Tryz.call20) (fun w hw => fSign_ok ql0 w) rfl (leB rfl) ?_
    refine st (ex_eql (c := (decide (ql0.num.sign = (0 : Int)))) rfl rfl rfl) (leB rfl) ?_
    refine OkL.nil ?_
    refine OkQ.then_ ?_
    refine OkC.join1 (J := fun (no0 : Nat) => no0 = 0 + zq ql0) (FI := fun (no0 : Nat) => [(6, (Value.bool false)), (7, (pP b4 0)), (8, (pP b5 0)), (9, (pP b6 0)), (10, (pP b7 0)), (11, (pP b8 0)), (13, (pP b9 0)), (14, (pP b10 0)), (15, (pP b11 0)), (19, (vI 0)), (88, (vI 0)), (89, (Value.bool true)), (92, (vI 0)), (93, (pP b8 0)), (94, (aG (fracL ql0))), (95, (vI ql0.num.sign)), (96, (Value.bool (decide (ql0.num.sign < (0 : Int))))), (17, (vN bl0)), (99, (vI 0)), (100, (pP b8 0)), (101, (aG (fracL ql0))), (102, (vI ql0.num.sign)), (103, (Value.bool (decide (ql0.num.sign = (0 : Int))))), (18, (vN no0))]) (LI := fun (no0 : Nat) => [blk b11 56 (fracL x ++ fracL y ++ fracL (1 - x - y)), blk b10 56 (fracL x ++ fracL y ++ fracL (((1 : Rat) - x) - y)), blk b9 36 (fracL (1 : Rat)), blk b8 56 (fracL ql0 ++ fracL ql1 ++ fracL ql2), blk b4 38 (ptL a), blk b5 38 (ptL b), blk b6 38 (ptL c), blk b7 38 (ptL p), blk b3 24 (qdL v), blk b2 24 (qdL u), blk b1 75 (pdL l0 ++ pdL l1 ++ pdL l2 ++ pdL l3)]) ?_ ?_
    · skip
      refine OkC.cond rfl (fun hc3 => ?_) (fun hc3 => ?_)
      · replace hc3 := of_decide_eq_true hc3
        refine OkC.region ?_
        refine st (ex_move rfl) (leB rfl) ?_
        refine st (ex_add (c := (1 : Int)) rfl rfl (by decide)) (leB rfl) ?_
        refine st (ex_assign rfl) (leB rfl) ?_
        refine OkL.nil ?_
        exact OkQ.join1 1 (by have e9 := zq_one hc3; omega) (sS rfl (sS rfl (sS rfl (sS rfl (sS rfl (sS rfl (sS rfl (sS rfl (sS rfl (sS rfl (sS rfl (sS rfl (sS rfl (sS rfl (sS rfl (sS rfl (sS rfl (sS rfl (sS rfl (sS rfl (sS rfl (sS rfl (sS rfl (sS rfl (sN))))))))))))))))))))))))) (List.Sublist.refl _)
      · replace hc3 := of_decide_eq_false hc3
        refine OkC.skip ?_
        exact OkQ.join1 0 (by have e9 := zq_zero hc3; omega) (sS rfl (sS rfl (sS rfl (sS rfl (sS rfl (sS rfl (sS rfl (sS rfl (sS rfl (sS rfl (sS rfl (sS rfl (sS rfl (sS rfl (sS rfl (sS rfl (sS rfl (sS rfl (sS rfl (sS rfl (sS rfl (sS rfl (sS rfl (sS rfl (sN))))))))))))))))))))))))) (List.Sublist.refl _)
    · intro no0 hJ
      replace hJ : no0 = 0 + zq ql0 := hJ
      have eno0 := hJ
      refine OkQ.sub (F' := [(6, (Value.bool false)), (7, (pP b4 0)), (8, (pP b5 0)), (9, (pP b6 0)), (10, (pP b7 0)), (11, (pP b8 0)), (13, (pP b9 0)), (14, (pP b10 0)), (15, (pP b11 0)), (19, (vI 0)), (88, (vI 0)), (89, (Value.bool true)), (92, (vI 0)), (93, (pP b8 0)), (94, (aG (fracL ql0))), (95, (vI ql0.num.sign)), (96, (Value.bool (decide (ql0.num.sign < (0 : Int))))), (17, (vN bl0)), (99, (vI 0)), (100, (pP b8 0)), (101, (aG (fracL ql0))), (102, (vI ql0.num.sign)), (103, (Value.bool (decide (ql0.num.sign = (0 : Int))))), (18, (vN no0))]) (L' := [blk b11 56 (fracL x ++ fracL y ++ fracL (1 - x - y)), blk b10 56 (fracL x ++ fracL y ++ fracL (((1 : Rat) - x) - y)), blk b9 36 (fracL (1 : Rat)), blk b8 56 (fracL ql0 ++ fracL ql1 ++ fracL ql2), blk b4 38 (ptL a), blk b5 38 (ptL b), blk b6 38 (ptL c), blk b7 38 (ptL p), blk b3 24 (qdL v), blk b2 24 (qdL u), blk b1 75 (pdL l0 ++ pdL l1 ++ pdL l2 ++ pdL l3)]) (sF rfl) (List.Sublist.refl _) ?_
      have zno0 := zq_le ql0
      refine OkQ.in_normal ?_
      refine OkQ.then_ ?_
      refine OkC.region ?_
      refine st (ex_move rfl) (leB rfl) ?_
      refine st (ex_add (c := (1 : Int)) rfl rfl (by decide)) (leB rfl) ?_
      refine st (ex_assign rfl) (leB rfl) ?_
      refine OkL.nil ?_
      refine OkQ.again ?_
      refine OkR.step ?_
      refine OkC.seq ?_
      refine q4 ?_
      refine st (ex_move rfl) (leB rfl) ?_
      refine st (ex_lss (c := true) rfl rfl (by decide)) (leB rfl) ?_
      refine OkL.nil ?_
      refine OkQ.then_ ?_
      refine OkC.cond_true rfl ?_
      refine OkC.skip ?_
      refine q1 ?_
      refine OkC.block ?_
      refine OkC.seq ?_
      refine q4 ?_
      refine st (ex_move rfl) (leB rfl) ?_
      refine st (v := (pP b8 5)) (ex_indexAddr_array (j := 1) rfl rfl Tryz.underlying56 Tryz.sizeOf36 rfl (by decide) rfl) (leB rfl) ?_
      refine st (ex_load_agg (i := 3) (vs := fracL ql1) rfl rfl Tryz.isAgg36 Tryz.sizeOf36 rfl rfl) (leB rfl) ?_
      refine OkL.call (v := (vI ql1.num.sign)) (wt_none rfl) (op_call0 (args := [(aG (fracL ql1))]) rfl rfl Tryz.call20) (fun w hw => fSign_ok ql1 w) rfl (leB rfl) ?_
      refine st (ex_lss (c := (decide (ql1.num.sign < (0 : Int)))) rfl rfl rfl) (leB rfl) ?_
      refine OkL.nil ?_
      refine OkQ.then_ ?_
      refine OkC.join1 (J := fun (bl1 : Nat) => bl1 = bl0 + ng ql1) (FI := fun (bl1 : Nat) => [(6, (Value.bool false)), (7, (pP b4 0)), (8, (pP b5 0)), (9, (pP b6 0)), (10, (pP b7 0)), (11, (pP b8 0)), (13, (pP b9 0)), (14, (pP b10 0)), (15, (pP b11 0)), (19, (vI 1)), (88, (vI 1)), (89, (Value.bool true)), (92, (vI 1)), (93, (pP b8 5)), (94, (aG (fracL ql1))), (95, (vI ql1.num.sign)), (96, (Value.bool (decide (ql1.num.sign < (0 : Int))))), (99, (vI 0)), (100, (pP b8 0)), (101, (aG (fracL ql0))), (102, (vI ql0.num.sign)), (103, (Value.bool (decide (ql0.num.sign = (0 : Int))))), (18, (vN no0)), (90, (vI 0)), (91, (vI 1)), (17, (vN bl1))]) (LI := fun (bl1 : Nat) => [blk b11 56 (fracL x ++ fracL y ++ fracL (1 - x - y)), blk b10 56 (fracL x ++ fracL y ++ fracL (((1 : Rat) - x) - y)), blk b9 36 (fracL (1 : Rat)), blk b8 56 (fracL ql0 ++ fracL ql1 ++ fracL ql2), blk b4 38 (ptL a), blk b5 38 (ptL b), blk b6 38 (ptL c), blk b7 38 (ptL p), blk b3 24 (qdL v), blk b2 24 (qdL u), blk b1 75 (pdL l0 ++ pdL l1 ++ pdL l2 ++ pdL l3)]) ?_ ?_
      · skip
        refine OkC.cond rfl (fun hc2 => ?_) (fun hc2 => ?_)
        · replace hc2 := of_decide_eq_true hc2
          refine OkC.region ?_
          refine st (ex_move rfl) (leB rfl) ?_
          refine st (ex_add (c := ((bl0 + 1 : Nat) : Int)) rfl rfl (addN_i64 (a := bl0) (b := 1) (by omega))) (leB rfl) ?_
          refine st (ex_assign rfl) (leB rfl) ?_
          refine OkL.nil ?_
          exact OkQ.join1 (bl0 + 1) (by have e9 := ng_one hc2; omega) (sS rfl (sS rfl (sS rfl (sS rfl (sS rfl (sS rfl (sS rfl (sS rfl (sS rfl (sS rfl (sS rfl (sS rfl (sS rfl (sS rfl (sS rfl (sS rfl (sS rfl (sS rfl (sS rfl (sS rfl (sS rfl (sS rfl (sS rfl (sS rfl (sS rfl (sS rfl (sN))))))))))))))))))))))))))) (List.Sublist.refl _)
        · replace hc2 := of_decide_eq_false hc2
          refine OkC.skip ?_
          exact OkQ.join1 bl0 (by have e9 := ng_zero hc2; omega) (sS rfl (sS rfl (sS rfl (sS rfl (sS rfl (sS rfl (sS rfl (sS rfl (sS rfl (sS rfl (sS rfl (sS rfl (sS rfl (sS rfl (sS rfl (sS rfl (sS rfl (sS rfl (sS rfl (sS rfl (sS rfl (sS rfl (sS rfl (sS rfl (sS rfl (sS rfl (sN))))))))))))))))))))))))))) (List.Sublist.refl _)
      · intro bl1 hJ
        replace hJ : bl1 = bl0 + ng ql1 := hJ
        have ebl1 := hJ
        refine OkQ.sub (F' := [(6, (Value.bool false)), (7, (pP b4 0)), (8, (pP b5 0)), (9, (pP b6 0)), (10, (pP b7 0)), (11, (pP b8 0)), (13, (pP b9 0)), (14, (pP b10 0)), (15, (pP b11 0)), (19, (vI 1)), (88, (vI 1)), (89, (Value.bool true)), (92, (vI 1)), (93, (pP b8 5)), (94, (aG (fracL ql1))), (95, (vI ql1.num.sign)), (96, (Value.bool (decide (ql1.num.sign < (0 : Int))))), (99, (vI 0)), (100, (pP b8 0)), (101, (aG (fracL ql0))), (102, (vI ql0.num.sign)), (103, (Value.bool (decide (ql0.num.sign = (0 : Int))))), (18, (vN no0)), (90, (vI 0)), (91, (vI 1)), (17, (vN bl1))]) (L' := [blk b11 56 (fracL x ++ fracL y ++ fracL (1 - x - y)), blk b10 56 (fracL x ++ fracL y ++ fracL (((1 : Rat) - x) - y)), blk b9 36 (fracL (1 : Rat)), blk b8 56 (fracL ql0 ++ fracL ql1 ++ fracL ql2), blk b4 38 (ptL a), blk b5 38 (ptL b), blk b6 38 (ptL c), blk b7 38 (ptL p), blk b3 24 (qdL v), blk b2 24 (qdL u), blk b1 75 (pdL l0 ++ pdL l1 ++ pdL l2 ++ pdL l3)]) (sF rfl) (List.Sublist.refl _) ?_
        have zbl1 := ng_le ql1
        refine q2 ?_
        refine st (ex_move rfl) (leB rfl) ?_
        refine st (v := (pP b8 5)) (ex_indexAddr_array (j := 1) rfl rfl Tryz.underlying56 Tryz.sizeOf36 rfl (by decide) rfl) (leB rfl) ?_
        refine st (ex_load_agg (i := 3) (vs := fracL ql1) rfl rfl Tryz.isAgg36 Tryz.sizeOf36 rfl rfl) (leB rfl) ?_
        refine OkL.call (v := (vI ql1.num.sign)) (wt_none rfl) (op_call0 (args := [(aG (fracL ql1))]) rfl rfl Tryz.call20) (fun w hw => fSign_ok ql1 w) rfl (leB rfl) ?_
        refine st (ex_eql (c := (decide (ql1.num.sign = (0 : Int)))) rfl rfl rfl) (leB rfl) ?_
        refine OkL.nil ?_
        refine OkQ.then_ ?_
        refine OkC.join1 (J := fun (no1 : Nat) => no1 = no0 + zq ql1) (FI := fun (no1 : Nat) => [(6, (Value.bool false)), (7, (pP b4 0)), (8, (pP b5 0)), (9, (pP b6 0)), (10, (pP b7 0)), (11, (pP b8 0)), (13, (pP b9 0)), (14, (pP b10 0)), (15, (pP b11 0)), (19, (vI 1)), (88, (vI 1)), (89, (Value.bool true)), (92, (vI 1)), (93, (pP b8 5)), (94, (aG (fracL ql1))), (95, (vI ql1.num.sign)), (96, (Value.bool (decide (ql1.num.sign < (0 : Int))))), (99, (vI 1)), (100, (pP b8 5)), (101, (aG (fracL ql1))), (102, (vI ql1.num.sign)), (103, (Value.bool (decide (ql1.num.sign = (0 : Int))))), (90, (vI 0)), (91, (vI 1)), (17, (vN bl1)), (18, (vN no1))]) (LI := fun (no1 : Nat) => [blk b11 56 (fracL x ++ fracL y ++ fracL (1 - x - y)), blk b10 56 (fracL x ++ fracL y ++ fracL (((1 : Rat) - x) - y)), blk b9 36 (fracL (1 : Rat)), blk b8 56 (fracL ql0 ++ fracL ql1 ++ fracL ql2), blk b4 38 (ptL a), blk b5 38 (ptL b), blk b6 38 (ptL c), blk b7 38 (ptL p), blk b3 24 (qdL v), blk b2 24 (qdL u), blk b1 75 (pdL l0 ++ pdL l1 ++ pdL l2 ++ pdL l3)]) ?_ ?_
        · skip
          refine OkC.cond rfl (fun hc3 => ?_) (fun hc3 => ?_)
          · replace hc3 := of_decide_eq_true hc3
            refine OkC.region ?_
            refine st (ex_move rfl) (leB rfl) ?_
            refine st (ex_add (c := ((no0 + 1 : Nat) : Int)) rfl rfl (addN_i64 (a := no0) (b := 1) (by omega))) (leB rfl) ?_
            refine st (ex_assign rfl) (leB rfl) ?_
            refine OkL.nil ?_
            exact OkQ.join1 (no0 + 1) (by have e9 := zq_one hc3; omega) (sS rfl (sS rfl (sS rfl (sS rfl (sS rfl (sS rfl (sS rfl (sS rfl (sS rfl (sS rfl (sS rfl (sS rfl (sS rfl (sS rfl (sS rfl (sS rfl (sS rfl (sS rfl (sS rfl (sS rfl (sS rfl (sS rfl (sS rfl (sS rfl (sS rfl (sS rfl (sN))))))))))))))))))))))))))) (List.Sublist.refl _)
          · replace hc3 := of_decide_eq_false hc3
            refine OkC.skip ?_
            exact OkQ.join1 no0 (by have e9 := zq_zero hc3; omega) (sS rfl (sS rfl (sS rfl (sS rfl (sS rfl (sS rfl (sS rfl (sS rfl (sS rfl (sS rfl (sS rfl (sS rfl (sS rfl (sS rfl (sS rfl (sS rfl (sS rfl (sS rfl (sS rfl (sS rfl (sS rfl (sS rfl (sS rfl (sS rfl (sS rfl (sS rfl (sN))))))))))))))))))))))))))) (List.Sublist.refl _)
        · intro no1 hJ
          replace hJ : no1 = no0 + zq ql1 := hJ
          have eno1 := hJ
          refine OkQ.sub (F' := [(6, (Value.bool false)), (7, (pP b4 0)), (8, (pP b5 0)), (9, (pP b6 0)), (10, (pP b7 0)), (11, (pP b8 0)), (13, (pP b9 0)), (14, (pP b10 0)), (15, (pP b11 0)), (19, (vI 1)), (88, (vI 1)), (89, (Value.bool true)), (92, (vI 1)), (93, (pP b8 5)), (94, (aG (fracL ql1))), (95, (vI ql1.num.sign)), (96, (Value.bool (decide (ql1.num.sign < (0 : Int))))), (99, (vI 1)), (100, (pP b8 5)), (101, (aG (fracL ql1))), (102, (vI ql1.num.sign)), (103, (Value.bool (decide (ql1.num.sign = (0 : Int))))), (90, (vI 0)), (91, (vI 1)), (17, (vN bl1)), (18, (vN no1))]) (L' := [blk b11 56 (fracL x ++ fracL y ++ fracL (1 - x - y)), blk b10 56 (fracL x ++ fracL y ++ fracL (((1 : Rat) - x) - y)), blk b9 36 (fracL (1 : Rat)), blk b8 56 (fracL ql0 ++ fracL ql1 ++ fracL ql2), blk b4 38 (ptL a), blk b5 38 (ptL b), blk b6 38 (ptL c), blk b7 38 (ptL p), blk b3 24 (qdL v), blk b2 24 (qdL u), blk b1 75 (pdL l0 ++ pdL l1 ++ pdL l2 ++ pdL l3)]) (sF rfl) (List.Sublist.refl _) ?_
          have zno1 := zq_le ql1
          refine OkQ.in_normal ?_
          refine OkQ.then_ ?_
          refine OkC.region ?_
          refine st (ex_move rfl) (leB rfl) ?_
          refine st (ex_add (c := (2 : Int)) rfl rfl (by decide)) (leB rfl) ?_
          refine st (ex_assign rfl) (leB rfl) ?_
          refine OkL.nil ?_
          refine OkQ.again ?_
          refine OkR.step ?_
          refine OkC.seq ?_
          refine q4 ?_
          refine st (ex_move rfl) (leB rfl) ?_
          refine st (ex_lss (c := true) rfl rfl (by decide)) (leB rfl) ?_
          refine OkL.nil ?_
          refine OkQ.then_ ?_
          refine OkC.cond_true rfl ?_
          refine OkC.skip ?_
          refine q1 ?_
          refine OkC.block ?_
          refine OkC.seq ?_
          refine q4 ?_
          refine st (ex_move rfl) (leB rfl) ?_
          refine st (v := (pP b8 10)) (ex_indexAddr_array (j := 2) rfl rfl Tryz.underlying56 Tryz.sizeOf36 rfl (by decide) rfl) (leB rfl) ?_
          refine st (ex_load_agg (i := 3) (vs := fracL ql2) rfl rfl Tryz.isAgg36 Tryz.sizeOf36 rfl rfl) (leB rfl) ?_
          refine OkL.call (v := (vI ql2.num.sign)) (wt_none rfl) (op_call0 (args := [(aG (fracL ql2))]) rfl rfl Tryz.call20) (fun w hw => fSign_ok ql2 w) rfl (leB rfl) ?_
          refine st (ex_lss (c := (decide (ql2.num.sign < (0 : Int)))) rfl rfl rfl) (leB rfl) ?_
          refine OkL.nil ?_
          refine OkQ.then_ ?_
          refine OkC.join1 (J := fun (bl2 : Nat) => bl2 = bl1 + ng ql2) (FI := fun (bl2 : Nat) => [(6, (Value.bool false)), (7, (pP b4 0)), (8, (pP b5 0)), (9, (pP b6 0)), (10, (pP b7 0)), (11, (pP b8 0)), (13, (pP b9 0)), (14, (pP b10 0)), (15, (pP b11 0)), (19, (vI 2)), (88, (vI 2)), (89, (Value.bool true)), (92, (vI 2)), (93, (pP b8 10)), (94, (aG (fracL ql2))), (95, (vI ql2.num.sign)), (96, (Value.bool (decide (ql2.num.sign < (0 : Int))))), (99, (vI 1)), (100, (pP b8 5)), (101, (aG (fracL ql1))), (102, (vI ql1.num.sign)), (103, (Value.bool (decide (ql1.num.sign = (0 : Int))))), (90, (vI 1)), (91, (vI 2)), (18, (vN no1)), (17, (vN bl2))]) (LI := fun (bl2 : Nat) => [blk b11 56 (fracL x ++ fracL y ++ fracL (1 - x - y)), blk b10 56 (fracL x ++ fracL y ++ fracL (((1 : Rat) - x) - y)), blk b9 36 (fracL (1 : Rat)), blk b8 56 (fracL ql0 ++ fracL ql1 ++ fracL ql2), blk b4 38 (ptL a), blk b5 38 (ptL b), blk b6 38 (ptL c), blk b7 38 (ptL p), blk b3 24 (qdL v), blk b2 24 (qdL u), blk b1 75 (pdL l0 ++ pdL l1 ++ pdL l2 ++ pdL l3)]) ?_ ?_
          · skip
            refine OkC.cond rfl (fun hc2 => ?_) (fun hc2 => ?_)
            · replace hc2 := of_decide_eq_true hc2
              refine OkC.region ?_
              refine st (ex_move rfl) (leB rfl) ?_
              refine st (ex_add (c := ((bl1 + 1 : Nat) : Int)) rfl rfl (addN_i64 (a := bl1) (b := 1) (by omega))) (leB rfl) ?_
              refine st (ex_assign rfl) (leB rfl) ?_
              refine OkL.nil ?_
              exact OkQ.join1 (bl1 + 1) (by have e9 := ng_one hc2; omega) (sS rfl (sS rfl (sS rfl (sS rfl (sS rfl (sS rfl (sS rfl (sS rfl (sS rfl (sS rfl (sS rfl (sS rfl (sS rfl (sS rfl (sS rfl (sS rfl (sS rfl (sS rfl (sS rfl (sS rfl (sS rfl (sS rfl (sS rfl (sS rfl (sS rfl (sS rfl (sN))))))))))))))))))))))))))) (List.Sublist.refl _)
            · replace hc2 := of_decide_eq_false hc2
              refine OkC.skip ?_
              exact OkQ.join1 bl1 (by have e9 := ng_zero hc2; omega) (sS rfl (sS rfl (sS rfl (sS rfl (sS rfl (sS rfl (sS rfl (sS rfl (sS rfl (sS rfl (sS rfl (sS rfl (sS rfl (sS rfl (sS rfl (sS rfl (sS rfl (sS rfl (sS rfl (sS rfl (sS rfl (sS rfl (sS rfl (sS rfl (sS rfl (sS rfl (sN))))))))))))))))))))))))))) (List.Sublist.refl _)
          · intro bl2 hJ
            replace hJ : bl2 = bl1 + ng ql2 := hJ
            have ebl2 := hJ
            refine OkQ.sub (F' := [(6, (Value.bool false)), (7, (pP b4 0)), (8, (pP b5 0)), (9, (pP b6 0)), (10, (pP b7 0)), (11, (pP b8 0)), (13, (pP b9 0)), (14, (pP b10 0)), (15, (pP b11 0)), (19, (vI 2)), (88, (vI 2)), (89, (Value.bool true)), (92, (vI 2)), (93, (pP b8 10)), (94, (aG (fracL ql2))), (95, (vI ql2.num.sign)), (96, (Value.bool (decide (ql2.num.sign < (0 : Int))))), (99, (vI 1)), (100, (pP b8 5)), (101, (aG (fracL ql1))), (102, (vI ql1.num.sign)), (103, (Value.bool (decide (ql1.num.sign = (0 : Int))))), (90, (vI 1)), (91, (vI 2)), (18, (vN no1)), (17, (vN bl2))]) (L' := [blk b11 56 (fracL x ++ fracL y ++ fracL (1 - x - y)), blk b10 56 (fracL x ++ fracL y ++ fracL (((1 : Rat) - x) - y)), blk b9 36 (fracL (1 : Rat)), blk b8 56 (fracL ql0 ++ fracL ql1 ++ fracL ql2), blk b4 38 (ptL a), blk b5 38 (ptL b), blk b6 38 (ptL c), blk b7 38 (ptL p), blk b3 24 (qdL v), blk b2 24 (qdL u), blk b1 75 (pdL l0 ++ pdL l1 ++ pdL l2 ++ pdL l3)]) (sF rfl) (List.Sublist.refl _) ?_
            have zbl2 := ng_le ql2
            refine q2 ?_
            refine st (ex_move rfl) (leB rfl) ?_
            refine st (v := (pP b8 10)) (ex_indexAddr_array (j := 2) rfl rfl Tryz.underlying56 Tryz.sizeOf36 rfl (by decide) rfl) (leB rfl) ?_
            refine st (ex_load_agg (i := 3) (vs := fracL ql2) rfl rfl Tryz.isAgg36 Tryz.sizeOf36 rfl rfl) (leB rfl) ?_
            refine OkL.call (v := (vI ql2.num.sign)) (wt_none rfl) (op_call0 (args := [(aG (fracL ql2))]) rfl rfl Tryz.call20) (fun w hw => fSign_ok ql2 w) rfl (leB rfl) ?_
            refine st (ex_eql (c := (decide (ql2.num.sign = (0 : Int)))) rfl rfl rfl) (leB rfl) ?_
            refine OkL.nil ?_
            refine OkQ.then_ ?_
            refine OkC.join1 (J := fun (no2 : Nat) => no2 = no1 + zq ql2) (FI := fun (no2 : Nat) => [(6, (Value.bool false)), (7, (pP b4 0)), (8, (pP b5 0)), (9, (pP b6 0)), (10, (pP b7 0)), (11, (pP b8 0)), (13, (pP b9 0)), (14, (pP b10 0)), (15, (pP b11 0)), (19, (vI 2)), (88, (vI 2)), (89, (Value.bool true)), (92, (vI 2)), (93, (pP b8 10)), (94, (aG (fracL ql2))), (95, (vI ql2.num.sign)), (96, (Value.bool (decide (ql2.num.sign < (0 : Int))))), (99, (vI 2)), (100, (pP b8 10)), (101, (aG (fracL ql2))), (102, (vI ql2.num.sign)), (103, (Value.bool (decide (ql2.num.sign = (0 : Int))))), (90, (vI 1)), (91, (vI 2)), (17, (vN bl2)), (18, (vN no2))]) (LI := fun (no2 : Nat) => [blk b11 56 (fracL x ++ fracL y ++ fracL (1 - x - y)), blk b10 56 (fracL x ++ fracL y ++ fracL (((1 : Rat) - x) - y)), blk b9 36 (fracL (1 : Rat)), blk b8 56 (fracL ql0 ++ fracL ql1 ++ fracL ql2), blk b4 38 (ptL a), blk b5 38 (ptL b), blk b6 38 (ptL c), blk b7 38 (ptL p), blk b3 24 (qdL v), blk b2 24 (qdL u), blk b1 75 (pdL l0 ++ pdL l1 ++ pdL l2 ++ pdL l3)]) ?_ ?_
            · skip
              refine OkC.cond rfl (fun hc3 => ?_) (fun hc3 => ?_)
              · replace hc3 := of_decide_eq_true hc3
                refine OkC.region ?_
                refine st (ex_move rfl) (leB rfl) ?_
                refine st (ex_add (c := ((no1 + 1 : Nat) : Int)) rfl rfl (addN_i64 (a := no1) (b := 1) (by omega))) (leB rfl) ?_
                refine st (ex_assign rfl) (leB rfl) ?_
                refine OkL.nil ?_
                exact OkQ.join1 (no1 + 1) (by have e9 := zq_one hc3; omega) (sS rfl (sS rfl (sS rfl (sS rfl (sS rfl (sS rfl (sS rfl (sS rfl (sS rfl (sS rfl (sS rfl (sS rfl (sS rfl (sS rfl (sS rfl (sS rfl (sS rfl (sS rfl (sS rfl (sS rfl (sS rfl (sS rfl (sS rfl (sS rfl (sS rfl (sS rfl (sN))))))))))))))))))))))))))) (List.Sublist.refl _)
              · replace hc3 := of_decide_eq_false hc3
                refine OkC.skip ?_
                exact OkQ.join1 no1 (by have e9 := zq_zero hc3; omega) (sS rfl (sS rfl (sS rfl (sS rfl (sS rfl (sS rfl (sS rfl (sS rfl (sS rfl (sS rfl (sS rfl (sS rfl (sS rfl (sS rfl (sS rfl (sS rfl (sS rfl (sS rfl (sS rfl (sS rfl (sS rfl (sS rfl (sS rfl (sS rfl (sS rfl (sS rfl (sN))))))))))))))))))))))))))) (List.Sublist.refl _)
            · intro no2 hJ
              replace hJ : no2 = no1 + zq ql2 := hJ
              have eno2 := hJ
              refine OkQ.sub (F' := [(6, (Value.bool false)), (7, (pP b4 0)), (8, (pP b5 0)), (9, (pP b6 0)), (10, (pP b7 0)), (11, (pP b8 0)), (13, (pP b9 0)), (14, (pP b10 0)), (15, (pP b11 0)), (19, (vI 2)), (88, (vI 2)), (89, (Value.bool true)), (92, (vI 2)), (93, (pP b8 10)), (94, (aG (fracL ql2))), (95, (vI ql2.num.sign)), (96, (Value.bool (decide (ql2.num.sign < (0 : Int))))), (99, (vI 2)), (100, (pP b8 10)), (101, (aG (fracL ql2))), (102, (vI ql2.num.sign)), (103, (Value.bool (decide (ql2.num.sign = (0 : Int))))), (90, (vI 1)), (91, (vI 2)), (17, (vN bl2)), (18, (vN no2))]) (L' := [blk b11 56 (fracL x ++ fracL y ++ fracL (1 - x - y)), blk b10 56 (fracL x ++ fracL y ++ fracL (((1 : Rat) - x) - y)), blk b9 36 (fracL (1 : Rat)), blk b8 56 (fracL ql0 ++ fracL ql1 ++ fracL ql2), blk b4 38 (ptL a), blk b5 38 (ptL b), blk b6 38 (ptL c), blk b7 38 (ptL p), blk b3 24 (qdL v), blk b2 24 (qdL u), blk b1 75 (pdL l0 ++ pdL l1 ++ pdL l2 ++ pdL l3)]) (sF rfl) (List.Sublist.refl _) ?_
              have zno2 := zq_le ql2
              refine OkQ.in_normal ?_
              refine OkQ.then_ ?_
              refine OkC.region ?_
              refine st (ex_move rfl) (leB rfl) ?_
              refine st (ex_add (c := (3 : Int)) rfl rfl (by decide)) (leB rfl) ?_
              refine st (ex_assign rfl) (leB rfl) ?_
              refine OkL.nil ?_
              refine OkQ.again ?_
              refine OkR.step ?_
              refine OkC.seq ?_
              refine q4 ?_
              refine st (ex_move rfl) (leB rfl) ?_
              refine st (ex_lss (c := false) rfl rfl (by decide)) (leB rfl) ?_
              refine OkL.nil ?_
              refine OkQ.then_ ?_
              refine OkC.cond_false rfl ?_
              refine OkC.exit ?_
              refine OkQ.then_exit ?_
              refine OkQ.then_exit ?_
              refine OkQ.in_exit ?_
              refine q2 ?_
              refine st (ex_move rfl) (leB rfl) ?_
              refine st (ex_add (c := ((1 + no2 : Nat) : Int)) rfl rfl (addN_i64 (a := 1) (b := no2) (by omega))) (leB rfl) ?_
              refine st (ex_assign rfl) (leB rfl) ?_
              refine q6 (sC 6 rfl (sC 7 rfl (sC 8 rfl (sC 9 rfl (sC 10 rfl (sC 11 rfl (sC 13 rfl (sC 14 rfl (sC 15 rfl (sC 19 rfl (sC 88 rfl (sC 89 rfl (sC 92 rfl (sC 93 rfl (sC 94 rfl (sC 95 rfl (sC 96 rfl (sC 99 rfl (sC 100 rfl (sC 101 rfl (sC 102 rfl (sC 103 rfl (sC 90 rfl (sC 91 rfl (sC 17 rfl (sC 18 rfl (sC 20 rfl (sN)))))))))))))))))))))))))))) ?_
              refine q4 ?_
              refine st (ex_move rfl) (leB rfl) ?_
              refine st (ex_gtr (c := (decide (0 < bl2))) rfl rfl (ltN (a := 0) (b := bl2))) (leB rfl) ?_
              refine OkL.nil ?_
              refine OkQ.subF (sC 6 rfl (sC 7 rfl (sC 8 rfl (sC 9 rfl (sC 10 rfl (sC 11 rfl (sC 13 rfl (sC 14 rfl (sC 15 rfl (sC 19 rfl (sC 88 rfl (sC 89 rfl (sC 92 rfl (sC 93 rfl (sC 94 rfl (sC 95 rfl (sC 96 rfl (sC 99 rfl (sC 100 rfl (sC 101 rfl (sC 102 rfl (sC 103 rfl (sC 90 rfl (sC 91 rfl (sC 17 rfl (sC 18 rfl (sC 20 rfl (sC 109 rfl (sN))))))))))))))))))))))))))))) ?_
              refine OkQ.then_ ?_
              refine OkC.join1 (J := fun (wn : Nat) => wn = whereN ql0 ql1 ql2) (FI := fun (wn : Nat) => [(6, (Value.bool false)), (7, (pP b4 0)), (8, (pP b5 0)), (9, (pP b6 0)), (10, (pP b7 0)), (11, (pP b8 0)), (13, (pP b9 0)), (14, (pP b10 0)), (15, (pP b11 0)), (20, (vN wn))]) (LI := fun (wn : Nat) => [blk b11 56 (fracL x ++ fracL y ++ fracL (1 - x - y)), blk b10 56 (fracL x ++ fracL y ++ fracL (((1 : Rat) - x) - y)), blk b9 36 (fracL (1 : Rat)), blk b8 56 (fracL ql0 ++ fracL ql1 ++ fracL ql2), blk b4 38 (ptL a), blk b5 38 (ptL b), blk b6 38 (ptL c), blk b7 38 (ptL p), blk b3 24 (qdL v), blk b2 24 (qdL u), blk b1 75 (pdL l0 ++ pdL l1 ++ pdL l2 ++ pdL l3)]) ?_ ?_
              · skip
                refine OkC.cond rfl (fun hc4 => ?_) (fun hc4 => ?_)
                · replace hc4 := of_decide_eq_true hc4
                  refine OkC.region ?_
                  refine st (ex_assign rfl) (leB rfl) ?_
                  refine OkL.nil ?_
                  exact OkQ.join1 0 ((where_some (by omega) hc4).symm) (sS rfl (sS rfl (sS rfl (sS rfl (sS rfl (sS rfl (sS rfl (sS rfl (sS rfl (sS rfl (sN))))))))))) (List.Sublist.refl _)
                · replace hc4 := of_decide_eq_false hc4
                  refine OkC.skip ?_
                  exact OkQ.join1 (1 + no2) ((where_none (b := bl2) (by omega) (by omega) hc4).symm) (sS rfl (sS rfl (sS rfl (sS rfl (sS rfl (sS rfl (sS rfl (sS rfl (sS rfl (sS rfl (sN))))))))))) (List.Sublist.refl _)
              · intro wn hJ
                replace hJ : wn = whereN ql0 ql1 ql2 := hJ
                have ew := hJ
                refine OkQ.sub (F' := [(6, (Value.bool false)), (7, (pP b4 0)), (8, (pP b5 0)), (9, (pP b6 0)), (10, (pP b7 0)), (11, (pP b8 0)), (13, (pP b9 0)), (14, (pP b10 0)), (15, (pP b11 0)), (20, (vN wn))]) (L' := [blk b11 56 (fracL x ++ fracL y ++ fracL (1 - x - y)), blk b10 56 (fracL x ++ fracL y ++ fracL (((1 : Rat) - x) - y)), blk b9 36 (fracL (1 : Rat)), blk b8 56 (fracL ql0 ++ fracL ql1 ++ fracL ql2), blk b4 38 (ptL a), blk b5 38 (ptL b), blk b6 38 (ptL c), blk b7 38 (ptL p), blk b3 24 (qdL v), blk b2 24 (qdL u), blk b1 75 (pdL l0 ++ pdL l1 ++ pdL l2 ++ pdL l3)]) (sF rfl) (List.Sublist.refl _) ?_
                refine q1 ?_
                have hz3 := Sz_add ql0 ql1
                have hz4 := Sz_add (ql0 + ql1) ql2
                refine OkC.drawn' (specs := [⟨.held, fun _ => (aG (ptL a)), [], 0, []⟩, ⟨.held, fun _ => (aG (ptL b)), [], 0, []⟩, ⟨.held, fun _ => (aG (ptL c)), [], 0, []⟩, ⟨.call, fun _ => (vI ((turnP a b c).num.sign)), [], 0, []⟩, ⟨.pure, fun _ => (Value.bool true), [], 0, []⟩, ⟨.pure, fun _ => (Value.bool true), [], 0, []⟩, ⟨.held, fun _ => (aG (ptL a)), [], 0, []⟩, ⟨.held, fun _ => (aG (ptL b)), [], 0, []⟩, ⟨.held, fun _ => (aG (ptL c)), [], 0, []⟩, ⟨.held, fun _ => (aG (fracL ql0 ++ fracL ql1 ++ fracL ql2)), [], 0, []⟩, ⟨.call, fun _ => (aG (ptL p)), [], 0, []⟩, ⟨.held, fun _ => (aG (ptL p)), [], 0, []⟩, ⟨.pure, fun _ => (Value.bool true), [], 0, []⟩, ⟨.pure, fun _ => (Value.bool true), [], 0, []⟩, ⟨.pure, fun _ => (Value.bool true), [], 0, []⟩, ⟨.pure, fun _ => (pP b8 0), [], 0, []⟩, ⟨.held, fun _ => (aG (fracL ql0)), [], 0, []⟩, ⟨.pure, fun _ => (pP b8 5), [], 0, []⟩, ⟨.held, fun _ => (aG (fracL ql1)), [], 0, []⟩, ⟨.pure, fun _ => (pP b8 10), [], 0, []⟩, ⟨.held, fun _ => (aG (fracL ql2)), [], 0, []⟩, ⟨.new, fun β => (Value.slice (some ⟨(β 21), 0, none⟩) 3 3), [], 36, fracsL [ql0, ql1, ql2]⟩, ⟨.call, fun _ => (aG (fracL (ql0 + ql1 + ql2))), [21], 0, []⟩, ⟨.held, fun _ => (aG (fracL (1 : Rat))), [], 0, []⟩, ⟨.pure, fun _ => (Value.bool true), [], 0, []⟩, ⟨.pure, fun _ => (Value.bool true), [], 0, []⟩, ⟨.pure, fun _ => (Value.bool true), [], 0, []⟩, ⟨.held, fun _ => (aG (fracL x ++ fracL y ++ fracL (1 - x - y))), [], 0, []⟩, ⟨.held, fun _ => (aG (fracL x ++ fracL y ++ fracL (((1 : Rat) - x) - y))), [], 0, []⟩, ⟨.pure, fun _ => (Value.bool true), [], 0, []⟩, ⟨.pure, fun _ => (Value.bool true), [], 0, []⟩, ⟨.pure, fun _ => (Value.bool true), [], 0, []⟩, ⟨.held, fun _ => (aG (ptL a)), [], 0, []⟩, ⟨.held, fun _ => (aG (ptL b)), [], 0, []⟩, ⟨.held, fun _ => (aG (ptL c)), [], 0, []⟩, ⟨.held, fun _ => (aG (ptL p)), [], 0, []⟩, ⟨.call, fun _ => (vN (whereN ql0 ql1 ql2)), [], 0, []⟩, ⟨.pure, fun _ => (vN wn), [], 0, []⟩, ⟨.pure, fun _ => (Value.bool true), [], 0, []⟩, ⟨.pure, fun _ => (Value.bool true), [], 0, []⟩, ⟨.pure, fun _ => (Value.bool true), [], 0, []⟩, ⟨.call, fun _ => (Value.bool true), [], 0, []⟩, ⟨.pure, fun _ => (Value.bool true), [], 0, []⟩]) (by kernel_rfl) (fun hchk4 => ?_)
                refine dR (Lro := [blk b11 56 (fracL x ++ fracL y ++ fracL (1 - x - y)), blk b10 56 (fracL x ++ fracL y ++ fracL (((1 : Rat) - x) - y)), blk b9 36 (fracL (1 : Rat)), blk b8 56 (fracL ql0 ++ fracL ql1 ++ fracL ql2), blk b4 38 (ptL a), blk b5 38 (ptL b), blk b6 38 (ptL c), blk b7 38 (ptL p), blk b3 24 (qdL v), blk b2 24 (qdL u), blk b1 75 (pdL l0 ++ pdL l1 ++ pdL l2 ++ pdL l3)]) (List.Sublist.refl _) (dC (dC (dC (dC (dC (dC (dC (dC (dC (dC (dC (dC (dC (dC (dC (dC (dC (dC (dC (dC (dC (DepAll.block (V := fun bq => (Value.slice (some ⟨bq, 0, none⟩) 3 3)) (dC (dC (dC (dC (dC (dC (dC (dC (dC (dC (dC (dC (dC (dC (dC (dC (dC (dC (dC (dC (dC (dN)))))))))))))))))))))))))))))))))))))))))))) hchk4 (by kernel_rfl) (fun _ _ d _ _ h => by cases d <;> exact h) (vC (vc_held0 (G := fun β => [(7, (pP b4 0))]) (fun β => sF (by kernel_rfl)) (fun β => ex_load_agg (i := 4) (vs := ptL a) rfl rfl Tryz.isAgg38 Tryz.sizeOf38 rfl rfl)) (vC (vc_held0 (G := fun β => [(8, (pP b5 0))]) (fun β => sF (by kernel_rfl)) (fun β => ex_load_agg (i := 5) (vs := ptL b) rfl rfl Tryz.isAgg38 Tryz.sizeOf38 rfl rfl)) (vC (vc_held0 (G := fun β => [(9, (pP b6 0))]) (fun β => sF (by kernel_rfl)) (fun β => ex_load_agg (i := 6) (vs := ptL c) rfl rfl Tryz.isAgg38 Tryz.sizeOf38 rfl rfl)) (vC (vc_call0 (G := fun β => [(110, (aG (ptL a))), (111, (aG (ptL b))), (112, (aG (ptL c)))]) (fun β => sF (by kernel_rfl)) (fun β => op_call0 (args := [(aG (ptL a)), (aG (ptL b)), (aG (ptL c))]) rfl rfl Tryz.call50) (fun β w hw => pTurn_ok a b c (by omega) w)) (vC (vc_pure0 (G := fun β => [(113, (vI ((turnP a b c).num.sign)))]) (fun β => sF (by kernel_rfl)) (fun β _ => ex_neq (c := true) rfl rfl (decide_eq_true hns))) (vC (vc_pure0 (G := fun β => [(114, (Value.bool true))]) (fun β => sF (by kernel_rfl)) (fun β _ => ex_move rfl)) (vC (vc_held (G := fun β => [(7, (pP b4 0)), (115, (Value.bool true))]) (fun β => sF (by kernel_rfl)) (fun β => wt_some rfl rfl rfl) (fun β => ex_load_agg (i := 4) (vs := ptL a) rfl rfl Tryz.isAgg38 Tryz.sizeOf38 rfl rfl)) (vC (vc_held (G := fun β => [(8, (pP b5 0)), (115, (Value.bool true))]) (fun β => sF (by kernel_rfl)) (fun β => wt_some rfl rfl rfl) (fun β => ex_load_agg (i := 5) (vs := ptL b) rfl rfl Tryz.isAgg38 Tryz.sizeOf38 rfl rfl)) (vC (vc_held (G := fun β => [(9, (pP b6 0)), (115, (Value.bool true))]) (fun β => sF (by kernel_rfl)) (fun β => wt_some rfl rfl rfl) (fun β => ex_load_agg (i := 6) (vs := ptL c) rfl rfl Tryz.isAgg38 Tryz.sizeOf38 rfl rfl)) (vC (vc_held (G := fun β => [(11, (pP b8 0)), (115, (Value.bool true))]) (fun β => sF (by kernel_rfl)) (fun β => wt_some rfl rfl rfl) (fun β => ex_load_agg (i := 3) (vs := fracL ql0 ++ fracL ql1 ++ fracL ql2) rfl rfl Tryz.isAgg56 Tryz.sizeOf56 rfl rfl)) (vC (vc_call (G := fun β => [(115, (Value.bool true)), (116, (aG (ptL a))), (117, (aG (ptL b))), (118, (aG (ptL c))), (119, (aG (fracL ql0 ++ fracL ql1 ++ fracL ql2)))]) (fun β => sF (by kernel_rfl)) (fun β => wt_some rfl rfl rfl) (fun β => op_call0 (args := [(aG (ptL a)), (aG (ptL b)), (aG (ptL c)), (aG (fracL ql0 ++ fracL ql1 ++ fracL ql2))]) rfl rfl Tryz.call28) (fun β w hw => (by have h9 := At_ok a b c ql0 ql1 ql2 (by omega) (by omega) w; rw [hat] at h9; exact h9))) (vC (vc_held (G := fun β => [(10, (pP b7 0)), (115, (Value.bool true))]) (fun β => sF (by kernel_rfl)) (fun β => wt_some rfl rfl rfl) (fun β => ex_load_agg (i := 7) (vs := ptL p) rfl rfl Tryz.isAgg38 Tryz.sizeOf38 rfl rfl)) (vC (vc_pure (G := fun β => [(115, (Value.bool true)), (120, (aG (ptL p))), (121, (aG (ptL p)))]) (fun β => sF (by kernel_rfl)) (fun β => wt_some rfl rfl rfl) (fun β _ => ex_eql_agg (c := true) rfl rfl Tryz.eqGuardType38 (eqB_pt_t 9994 rfl))) (vC (vc_pure0 (G := fun β => [(115, (Value.bool true)), (122, (Value.bool true))]) (fun β => sF (by kernel_rfl)) (fun β _ => ex_pick_true rfl rfl)) (vC (vc_pure0 (G := fun β => [(123, (Value.bool true))]) (fun β => sF (by kernel_rfl)) (fun β _ => ex_move rfl)) (vC (vc_pure (G := fun β => [(11, (pP b8 0)), (124, (Value.bool true))]) (fun β => sF (by kernel_rfl)) (fun β => wt_some rfl rfl rfl) (fun β _ => ex_indexAddr_array (j := 0) rfl rfl Tryz.underlying56 Tryz.sizeOf36 rfl (by decide) rfl)) (vC (vc_held (G := fun β => [(124, (Value.bool true)), (125, (pP b8 0))]) (fun β => sF (by kernel_rfl)) (fun β => wt_some rfl rfl rfl) (fun β => ex_load_agg (i := 3) (vs := fracL ql0) rfl rfl Tryz.isAgg36 Tryz.sizeOf36 rfl rfl)) (vC (vc_pure (G := fun β => [(11, (pP b8 0)), (124, (Value.bool true))]) (fun β => sF (by kernel_rfl)) (fun β => wt_some rfl rfl rfl) (fun β _ => ex_indexAddr_array (j := 1) rfl rfl Tryz.underlying56 Tryz.sizeOf36 rfl (by decide) rfl)) (vC (vc_held (G := fun β => [(124, (Value.bool true)), (127, (pP b8 5))]) (fun β => sF (by kernel_rfl)) (fun β => wt_some rfl rfl rfl) (fun β => ex_load_agg (i := 3) (vs := fracL ql1) rfl rfl Tryz.isAgg36 Tryz.sizeOf36 rfl rfl)) (vC (vc_pure (G := fun β => [(11, (pP b8 0)), (124, (Value.bool true))]) (fun β => sF (by kernel_rfl)) (fun β => wt_some rfl rfl rfl) (fun β _ => ex_indexAddr_array (j := 2) rfl rfl Tryz.underlying56 Tryz.sizeOf36 rfl (by decide) rfl)) (vC (vc_held (G := fun β => [(124, (Value.bool true)), (129, (pP b8 10))]) (fun β => sF (by kernel_rfl)) (fun β => wt_some rfl rfl rfl) (fun β => ex_load_agg (i := 3) (vs := fracL ql2) rfl rfl Tryz.isAgg36 Tryz.sizeOf36 rfl rfl)) (vC (vc_new (V := fun bq => (Value.slice (some ⟨bq, 0, none⟩) 3 3)) (j := 21) (one_place hchk4 rfl rfl rfl) (G := fun β => [(124, (Value.bool true)), (126, (aG (fracL ql0))), (128, (aG (fracL ql1))), (130, (aG (fracL ql2)))]) (fun β => sF (by kernel_rfl)) (fun β => wt_some rfl rfl rfl) (fun β => op_buildSlice (z := .agg (fracL (0 : Rat)).toArray) (cs := fracsL [ql0, ql1, ql2]) (pv := [(0, (aG (fracL ql0))), (1, (aG (fracL ql1))), (2, (aG (fracL ql2)))]) Tryz.underlying109 Tryz.sizeOf36 Tryz.zeroValue36 (by decide) (by decide) rfl (fillS_3 ql0 ql1 ql2))) (vC (vc_call (G := fun β => [(124, (Value.bool true)), (131, (Value.slice (some ⟨(β 21), 0, none⟩) 3 3))]) (fun β => sF (by kernel_rfl)) (fun β => wt_some rfl rfl rfl) (fun β => op_call0 (args := [(Value.slice (some ⟨(β 21), 0, none⟩) 3 3)]) rfl rfl Tryz.call49) (fun β w hw => Sum3_ok ql0 ql1 ql2 _ _ (by omega) w (hw.get (i := 0) rfl))) (vC (vc_held (G := fun β => [(13, (pP b9 0)), (124, (Value.bool true))]) (fun β => sF (by kernel_rfl)) (fun β => wt_some rfl rfl rfl) (fun β => ex_load_agg (i := 2) (vs := fracL (1 : Rat)) rfl rfl Tryz.isAgg36 Tryz.sizeOf36 rfl rfl)) (vC (vc_pure (G := fun β => [(124, (Value.bool true)), (132, (aG (fracL (ql0 + ql1 + ql2)))), (133, (aG (fracL (1 : Rat))))]) (fun β => sF (by kernel_rfl)) (fun β => wt_some rfl rfl rfl) (fun β _ => ex_eql_agg (c := true) rfl rfl Tryz.eqGuardType36 (eqB_frac_t 9995 hsum))) (vC (vc_pure0 (G := fun β => [(124, (Value.bool true)), (134, (Value.bool true))]) (fun β => sF (by kernel_rfl)) (fun β _ => ex_pick_true rfl rfl)) (vC (vc_pure0 (G := fun β => [(135, (Value.bool true))]) (fun β => sF (by kernel_rfl)) (fun β _ => ex_move rfl)) (vC (vc_held (G := fun β => [(15, (pP b11 0)), (136, (Value.bool true))]) (fun β => sF (by kernel_rfl)) (fun β => wt_some rfl rfl rfl) (fun β => ex_load_agg (i := 0) (vs := fracL x ++ fracL y ++ fracL (1 - x - y)) rfl rfl Tryz.isAgg56 Tryz.sizeOf56 rfl rfl)) (vC (vc_held (G := fun β => [(14, (pP b10 0)), (136, (Value.bool true))]) (fun β => sF (by kernel_rfl)) (fun β => wt_some rfl rfl rfl) (fun β => ex_load_agg (i := 1) (vs := fracL x ++ fracL y ++ fracL (((1 : Rat) - x) - y)) rfl rfl Tryz.isAgg56 Tryz.sizeOf56 rfl rfl)) (vC (vc_pure (G := fun β => [(136, (Value.bool true)), (137, (aG (fracL x ++ fracL y ++ fracL (1 - x - y)))), (138, (aG (fracL x ++ fracL y ++ fracL (((1 : Rat) - x) - y))))]) (fun β => sF (by kernel_rfl)) (fun β => wt_some rfl rfl rfl) (fun β _ => ex_eql_agg (c := true) rfl rfl Tryz.eqGuardType56 (eqB_frac3_t 9994 ⟨rfl, rfl, rfl⟩))) (vC (vc_pure0 (G := fun β => [(136, (Value.bool true)), (139, (Value.bool true))]) (fun β => sF (by kernel_rfl)) (fun β _ => ex_pick_true rfl rfl)) (vC (vc_pure0 (G := fun β => [(140, (Value.bool true))]) (fun β => sF (by kernel_rfl)) (fun β _ => ex_move rfl)) (vC (vc_held (G := fun β => [(7, (pP b4 0)), (141, (Value.bool true))]) (fun β => sF (by kernel_rfl)) (fun β => wt_some rfl rfl rfl) (fun β => ex_load_agg (i := 4) (vs := ptL a) rfl rfl Tryz.isAgg38 Tryz.sizeOf38 rfl rfl)) (vC (vc_held (G := fun β => [(8, (pP b5 0)), (141, (Value.bool true))]) (fun β => sF (by kernel_rfl)) (fun β => wt_some rfl rfl rfl) (fun β => ex_load_agg (i := 5) (vs := ptL b) rfl rfl Tryz.isAgg38 Tryz.sizeOf38 rfl rfl)) (vC (vc_held (G := fun β => [(9, (pP b6 0)), (141, (Value.bool true))]) (fun β => sF (by kernel_rfl)) (fun β => wt_some rfl rfl rfl) (fun β => ex_load_agg (i := 6) (vs := ptL c) rfl rfl Tryz.isAgg38 Tryz.sizeOf38 rfl rfl)) (vC (vc_held (G := fun β => [(10, (pP b7 0)), (141, (Value.bool true))]) (fun β => sF (by kernel_rfl)) (fun β => wt_some rfl rfl rfl) (fun β => ex_load_agg (i := 7) (vs := ptL p) rfl rfl Tryz.isAgg38 Tryz.sizeOf38 rfl rfl)) (vC (vc_call (G := fun β => [(141, (Value.bool true)), (142, (aG (ptL a))), (143, (aG (ptL b))), (144, (aG (ptL c))), (145, (aG (ptL p)))]) (fun β => sF (by kernel_rfl)) (fun β => wt_some rfl rfl rfl) (fun β => op_call0 (args := [(aG (ptL a)), (aG (ptL b)), (aG (ptL c)), (aG (ptL p))]) rfl rfl Tryz.call34) (fun β w hw => (by rw [hql0, hql1, hql2]; exact Where_ok a b c p (by omega) h w))) (vC (vc_pure (G := fun β => [(20, (vN wn)), (141, (Value.bool true))]) (fun β => sF (by kernel_rfl)) (fun β => wt_some rfl rfl rfl) (fun β _ => ex_move rfl)) (vC (vc_pure (G := fun β => [(141, (Value.bool true)), (146, (vN (whereN ql0 ql1 ql2))), (147, (vN wn))]) (fun β => sF (by kernel_rfl)) (fun β => wt_some rfl rfl rfl) (fun β _ => ex_eql (c := true) rfl rfl (by rw [ew]; simp))) (vC (vc_pure0 (G := fun β => [(141, (Value.bool true)), (148, (Value.bool true))]) (fun β => sF (by kernel_rfl)) (fun β _ => ex_pick_true rfl rfl)) (vC (vc_pure0 (G := fun β => [(149, (Value.bool true))]) (fun β => sF (by kernel_rfl)) (fun β _ => ex_move rfl)) (vC (vc_call (G := fun β => [(150, (Value.bool true))]) (fun β => sF (by kernel_rfl)) (fun β => wt_some rfl rfl rfl) (fun β => op_call0 (args := []) rfl rfl Tryz.call21) (fun β w hw => lives_ok w)) (vC (vc_pure0 (G := fun β => [(150, (Value.bool true)), (151, (Value.bool true))]) (fun β => sF (by kernel_rfl)) (fun β _ => ex_pick_true rfl rfl)) (VcAll.nil)))))))))))))))))))))))))))))))))))))))))))) (fun β => ?_)
                clear hchk4
                refine OkLH.sub (F' := [(6, (Value.bool false)), (7, (pP b4 0)), (8, (pP b5 0)), (9, (pP b6 0)), (10, (pP b7 0)), (11, (pP b8 0)), (13, (pP b9 0)), (14, (pP b10 0)), (15, (pP b11 0)), (20, (vN wn)), (152, (Value.bool true))]) (L' := [blk (β 21) 36 (fracsL [ql0, ql1, ql2]), blk b11 56 (fracL x ++ fracL y ++ fracL (1 - x - y)), blk b10 56 (fracL x ++ fracL y ++ fracL (((1 : Rat) - x) - y)), blk b9 36 (fracL (1 : Rat)), blk b8 56 (fracL ql0 ++ fracL ql1 ++ fracL ql2), blk b4 38 (ptL a), blk b5 38 (ptL b), blk b6 38 (ptL c), blk b7 38 (ptL p), blk b3 24 (qdL v), blk b2 24 (qdL u), blk b1 75 (pdL l0 ++ pdL l1 ++ pdL l2 ++ pdL l3)]) (sF rfl) (List.Sublist.refl _) ?_
                generalize β 21 = b12
                refine OkLH.step (v := (Value.bool true)) (List.Sublist.cons _ (List.Sublist.refl _)) (wt_none rfl) (ex_assign rfl) rfl (leB rfl) ?_
                refine OkLH.nil ?_
                refine OkQ.subF (sC 6 rfl (sC 7 rfl (sC 8 rfl (sC 9 rfl (sC 10 rfl (sC 11 rfl (sC 13 rfl (sC 14 rfl (sC 15 rfl (sC 20 rfl (sN))))))))))) ?_
                refine OkQ.then_ ?_
                refine OkC.ret ?_
                exact ret_one rfl (rd_tmp (v := (Value.bool true)) rfl) (fun w hw => ⟨rfl, hw.out⟩)

theorem TrisBack_ok (l0 l1 l2 l3 : PD) (u v : QD) (k0 : l0.ok) (k1 : l1.ok) (k2 : l2.ok) (k3 : l3.ok) (ku : u.ok) (kv : v.ok) (w : World) : Calls Tryz.prog 7 #[(aG (pdL l0 ++ pdL l1 ++ pdL l2 ++ pdL l3)), (aG (qdL u)), (aG (qdL v))] w (Gives w (.bool true)) := by
  by_cases h : turnP (ptOf l0) (ptOf l1) (ptOf l2) = 0
  · exact TrisBack0_ok l0 l1 l2 l3 u v k0 k1 k2 k3 ku kv h w
  · exact TrisBack1_ok l0 l1 l2 l3 u v k0 k1 k2 k3 ku kv h w


end Go.Proofs.YtpkoldfmbebmgaaGreatDoor
