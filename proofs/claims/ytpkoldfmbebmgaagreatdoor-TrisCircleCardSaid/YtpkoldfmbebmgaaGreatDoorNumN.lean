/- Walks, printed by gen.py. -/
import Derived.Test.YtpkoldfmbebmgaaGreatDoorNumM
namespace Go.Proofs.YtpkoldfmbebmgaaGreatDoor
open Go Go.RowKit
set_option maxRecDepth 100000
set_option linter.unusedVariables false
set_option linter.unusedSimpArgs false

theorem fOf_ok (x y : Int) (h1 : -9223372036854775808 ≤ x) (h2 : x < 9223372036854775808) (h3 : -9223372036854775808 ≤ y) (h4 : y < 9223372036854775808) (hy : y ≠ 0) (w : World)  : Calls Tryz.prog 46 #[(vI x), (vI y)] w (Gives w (Value.tuple #[(aG (fracL (((x : Int) : Rat) / ((y : Int) : Rat)))), (vI 0)])) := by
  have hb : ((y : Int) : Rat) ≠ 0 := fun e => hy (by exact_mod_cast e)
  have s1 := Sz_int h1 h2
  have s2 := Sz_int h3 h4
  refine calls_of (args := [(vI x), (vI y)]) Tryz.func46 rfl rfl (leB rfl) ?_
  refine OkC.subF (sC 0 rfl (sC 1 rfl (sN))) ?_
  refine q4 ?_
  refine OkL.open_ (T := 36) (cs := fracL (0 : Rat)) (wt_none rfl) (op_alloc (cs := fracL (0 : Rat)) Tryz.zeroValue36 rfl) rfl (leB rfl) ?_; intro b1
  refine st (ex_assign rfl) (leB rfl) ?_
  refine OkL.nil ?_
  refine q2 ?_
  refine st (ex_move rfl) (leB rfl) ?_
  refine OkL.call (v := (aG (fracL ((x : Int) : Rat)))) (wt_none rfl) (op_call0 (args := [(vI x)]) rfl rfl Tryz.call44) (fun w hw => fInt_ok x (by omega) (by omega) w) rfl (leB rfl) ?_
  refine st (ex_move rfl) (leB rfl) ?_
  refine OkL.call (v := (aG (fracL ((y : Int) : Rat)))) (wt_none rfl) (op_call0 (args := [(vI y)]) rfl rfl Tryz.call44) (fun w hw => fInt_ok y (by omega) (by omega) w) rfl (leB rfl) ?_
  have hz1 := Sz_div (a := ((x : Int) : Rat)) (b := ((y : Int) : Rat)) (by assumption)
  refine OkL.call (v := (Value.tuple #[(aG (fracL (((x : Int) : Rat) / ((y : Int) : Rat)))), (vI 0)])) (wt_none rfl) (op_call0 (args := [(aG (fracL ((x : Int) : Rat))), (aG (fracL ((y : Int) : Rat)))]) rfl rfl Tryz.call54) (fun w hw => fDiv_ok ((x : Int) : Rat) ((y : Int) : Rat) (by omega) (by assumption) w) rfl (leB rfl) ?_
  refine st (ex_extract (v := (aG (fracL (((x : Int) : Rat) / ((y : Int) : Rat))))) rfl rfl) (leB rfl) ?_
  refine st (ex_extract (v := (vI 0)) rfl rfl) (leB rfl) ?_
  refine OkL.store' (i := 0) (off := 0) (vs := fracL (((x : Int) : Rat) / ((y : Int) : Rat))) (cs' := fracL (((x : Int) : Rat) / ((y : Int) : Rat))) (L' := [blk b1 36 (fracL (((x : Int) : Rat) / ((y : Int) : Rat)))]) (wt_none rfl) rfl rfl rfl rfl rfl Tryz.sizeOf36 rfl rfl rfl rfl ?_
  refine st (ex_assign rfl) (leB rfl) ?_
  refine OkL.nil ?_
  refine OkQ.subF (sC 4 rfl (sC 5 rfl (sN))) ?_
  refine OkQ.then_ ?_
  refine OkC.ret ?_
  exact ret_two rfl (rd_agg (i := 0) (cs := fracL (((x : Int) : Rat) / ((y : Int) : Rat))) rfl rfl Tryz.isAgg36 Tryz.sizeOf36 rfl) (rd_tmp (v := (vI 0)) rfl) (fun w hw => ⟨rfl, hw.out⟩)

theorem phalf_ok  (w : World)  : Calls Tryz.prog 88 #[] w (Gives w (aG (fracL ((1 : Rat) / 2)))) := by
  refine calls_of (args := []) Tryz.func88 rfl rfl (leB rfl) ?_
  refine OkC.subF (sN) ?_
  refine q4 ?_
  refine OkL.open_ (T := 36) (cs := fracL (0 : Rat)) (wt_none rfl) (op_alloc (cs := fracL (0 : Rat)) Tryz.zeroValue36 rfl) rfl (leB rfl) ?_; intro b1
  refine OkL.nil ?_
  refine q2 ?_
  refine OkL.call (v := (Value.tuple #[(aG (fracL (((1 : Int) : Rat) / ((2 : Int) : Rat)))), (vI 0)])) (wt_none rfl) (op_call0 (args := [(vI 1), (vI 2)]) rfl rfl Tryz.call46) (fun w hw => fOf_ok (1 : Int) (2 : Int) (by omega) (by omega) (by omega) (by omega) (by omega) w) rfl (leB rfl) ?_
  refine st (ex_move rfl) (leB rfl) ?_
  refine st (ex_extract (v := (aG (fracL (((1 : Int) : Rat) / ((2 : Int) : Rat))))) rfl rfl) (leB rfl) ?_
  refine OkL.retell (k := 5) (u := (aG (fracL ((1 : Rat) / 2)))) rfl (by rw [half_of]) ?_
  refine st (ex_extract (v := (vI 0)) rfl rfl) (leB rfl) ?_
  refine OkL.open_ (T := 36) (cs := fracL (0 : Rat)) (wt_none rfl) (op_alloc (cs := fracL (0 : Rat)) Tryz.zeroValue36 rfl) rfl (leB rfl) ?_; intro b2
  refine OkL.store' (i := 0) (off := 0) (vs := fracL ((1 : Rat) / 2)) (cs' := fracL ((1 : Rat) / 2)) (L' := [blk b2 36 (fracL ((1 : Rat) / 2)), blk b1 36 (fracL (0 : Rat))]) (wt_none rfl) rfl rfl rfl rfl rfl Tryz.sizeOf36 rfl rfl rfl rfl ?_
  refine st (ex_assign rfl) (leB rfl) ?_
  refine q3 (sC 0 rfl (sC 1 rfl (sN))) ?_
  refine st (ex_load_agg (i := 0) (vs := fracL ((1 : Rat) / 2)) rfl rfl Tryz.isAgg36 Tryz.sizeOf36 rfl rfl) (leB rfl) ?_
  refine OkL.store' (i := 1) (off := 0) (vs := fracL ((1 : Rat) / 2)) (cs' := fracL ((1 : Rat) / 2)) (L' := [blk b2 36 (fracL ((1 : Rat) / 2)), blk b1 36 (fracL ((1 : Rat) / 2))]) (wt_none rfl) rfl rfl rfl rfl rfl Tryz.sizeOf36 rfl rfl rfl rfl ?_
  refine OkL.nil ?_
  refine OkQ.subF (sC 0 rfl (sC 1 rfl (sN))) ?_
  refine OkQ.then_ ?_
  refine OkC.ret ?_
  exact ret_one rfl (rd_agg (i := 1) (cs := fracL ((1 : Rat) / 2)) rfl rfl Tryz.isAgg36 Tryz.sizeOf36 rfl) (fun w hw => ⟨rfl, hw.out⟩)

theorem pMid_ok (a b : Pt) (hs : SzP a + SzP b ≤ 17179869184) (w : World)  : Calls Tryz.prog 42 #[(aG (ptL a)), (aG (ptL b))] w (Gives w (aG (ptL (scaleP (a + b) (1 / 2))))) := by
  have sh := Sz_half
  refine calls_of (args := [(aG (ptL a)), (aG (ptL b))]) Tryz.func42 rfl rfl (leB rfl) ?_
  refine OkC.subF (sC 0 rfl (sC 1 rfl (sN))) ?_
  refine q4 ?_
  refine OkL.open_ (T := 38) (cs := ptL a) (wt_none rfl) (op_box (cs := ptL a) rfl rfl) rfl (leB rfl) ?_; intro b1
  refine OkL.open_ (T := 38) (cs := ptL b) (wt_none rfl) (op_box (cs := ptL b) rfl rfl) rfl (leB rfl) ?_; intro b2
  refine OkL.open_ (T := 38) (cs := ptL (⟨0, 0⟩ : Pt)) (wt_none rfl) (op_alloc (cs := ptL (⟨0, 0⟩ : Pt)) Tryz.zeroValue38 rfl) rfl (leB rfl) ?_; intro b3
  refine q3 (sC 2 rfl (sC 3 rfl (sC 4 rfl (sN)))) ?_
  refine st (ex_load_agg (i := 2) (vs := ptL a) rfl rfl Tryz.isAgg38 Tryz.sizeOf38 rfl rfl) (leB rfl) ?_
  refine st (ex_load_agg (i := 1) (vs := ptL b) rfl rfl Tryz.isAgg38 Tryz.sizeOf38 rfl rfl) (leB rfl) ?_
  have hz1 := SzP_add a b
  refine OkL.call (v := (aG (ptL (a + b)))) (wt_none rfl) (op_call0 (args := [(aG (ptL a)), (aG (ptL b))]) rfl rfl Tryz.call38) (fun w hw => pAdd_ok a b (by omega) w) rfl (leB rfl) ?_
  refine OkL.call (v := (aG (fracL ((1 : Rat) / 2)))) (wt_none rfl) (op_call0 (args := []) rfl rfl Tryz.call88) (fun w hw => phalf_ok w) rfl (leB rfl) ?_
  have hz2 := SzP_scale (a + b) ((1 : Rat) / 2)
  refine OkL.call (v := (aG (ptL (scaleP (a + b) ((1 : Rat) / 2))))) (wt_none rfl) (op_call0 (args := [(aG (ptL (a + b))), (aG (fracL ((1 : Rat) / 2)))]) rfl rfl Tryz.call64) (fun w hw => pScale_ok (a + b) ((1 : Rat) / 2) (by omega) w) rfl (leB rfl) ?_
  refine OkL.store' (i := 0) (off := 0) (vs := ptL (scaleP (a + b) ((1 : Rat) / 2))) (cs' := ptL (scaleP (a + b) ((1 : Rat) / 2))) (L' := [blk b3 38 (ptL (scaleP (a + b) ((1 : Rat) / 2))), blk b2 38 (ptL b), blk b1 38 (ptL a)]) (wt_none rfl) rfl rfl rfl rfl rfl Tryz.sizeOf38 rfl rfl rfl rfl ?_
  refine OkL.nil ?_
  refine OkQ.subF (sC 4 rfl (sN)) ?_
  refine OkQ.then_ ?_
  refine OkC.ret ?_
  exact ret_one rfl (rd_agg (i := 0) (cs := ptL (scaleP (a + b) ((1 : Rat) / 2))) rfl rfl Tryz.isAgg38 Tryz.sizeOf38 rfl) (fun w hw => ⟨rfl, hw.out⟩)

theorem thalf_ok (x : Rat) (hs : Sz x ≤ 137438953472) (w : World)  : Calls Tryz.prog 74 #[(aG (fracL x))] w (Gives w (aG (fracL (x * (1 / 2))))) := by
  have sh := Sz_half
  refine calls_of (args := [(aG (fracL x))]) Tryz.func74 rfl rfl (leB rfl) ?_
  refine OkC.subF (sC 0 rfl (sN)) ?_
  refine q4 ?_
  refine OkL.open_ (T := 36) (cs := fracL x) (wt_none rfl) (op_box (cs := fracL x) rfl rfl) rfl (leB rfl) ?_; intro b1
  refine OkL.open_ (T := 36) (cs := fracL (0 : Rat)) (wt_none rfl) (op_alloc (cs := fracL (0 : Rat)) Tryz.zeroValue36 rfl) rfl (leB rfl) ?_; intro b2
  refine q3 (sC 1 rfl (sC 2 rfl (sN))) ?_
  refine OkL.call (v := (Value.tuple #[(aG (fracL (((1 : Int) : Rat) / ((2 : Int) : Rat)))), (vI 0)])) (wt_none rfl) (op_call0 (args := [(vI 1), (vI 2)]) rfl rfl Tryz.call46) (fun w hw => fOf_ok (1 : Int) (2 : Int) (by omega) (by omega) (by omega) (by omega) (by omega) w) rfl (leB rfl) ?_
  refine st (ex_move rfl) (leB rfl) ?_
  refine st (ex_extract (v := (aG (fracL (((1 : Int) : Rat) / ((2 : Int) : Rat))))) rfl rfl) (leB rfl) ?_
  refine OkL.retell (k := 7) (u := (aG (fracL ((1 : Rat) / 2)))) rfl (by rw [half_of]) ?_
  refine st (ex_extract (v := (vI 0)) rfl rfl) (leB rfl) ?_
  refine OkL.open_ (T := 36) (cs := fracL (0 : Rat)) (wt_none rfl) (op_alloc (cs := fracL (0 : Rat)) Tryz.zeroValue36 rfl) rfl (leB rfl) ?_; intro b3
  refine OkL.store' (i := 0) (off := 0) (vs := fracL ((1 : Rat) / 2)) (cs' := fracL ((1 : Rat) / 2)) (L' := [blk b3 36 (fracL ((1 : Rat) / 2)), blk b2 36 (fracL (0 : Rat)), blk b1 36 (fracL x)]) (wt_none rfl) rfl rfl rfl rfl rfl Tryz.sizeOf36 rfl rfl rfl rfl ?_
  refine st (ex_assign rfl) (leB rfl) ?_
  refine q3 (sC 1 rfl (sC 2 rfl (sC 3 rfl (sN)))) ?_
  refine st (ex_load_agg (i := 2) (vs := fracL x) rfl rfl Tryz.isAgg36 Tryz.sizeOf36 rfl rfl) (leB rfl) ?_
  refine st (ex_load_agg (i := 0) (vs := fracL ((1 : Rat) / 2)) rfl rfl Tryz.isAgg36 Tryz.sizeOf36 rfl rfl) (leB rfl) ?_
  have hz1 := Sz_mul x ((1 : Rat) / 2)
  refine OkL.call (v := (aG (fracL (x * ((1 : Rat) / 2))))) (wt_none rfl) (op_call0 (args := [(aG (fracL x)), (aG (fracL ((1 : Rat) / 2)))]) rfl rfl Tryz.call40) (fun w hw => fMul_ok x ((1 : Rat) / 2) (by (try simp only [Sz_neg]); omega) w) rfl (leB rfl) ?_
  refine OkL.store' (i := 1) (off := 0) (vs := fracL (x * ((1 : Rat) / 2))) (cs' := fracL (x * ((1 : Rat) / 2))) (L' := [blk b3 36 (fracL ((1 : Rat) / 2)), blk b2 36 (fracL (x * ((1 : Rat) / 2))), blk b1 36 (fracL x)]) (wt_none rfl) rfl rfl rfl rfl rfl Tryz.sizeOf36 rfl rfl rfl rfl ?_
  refine OkL.nil ?_
  refine OkQ.subF (sC 2 rfl (sC 3 rfl (sN))) ?_
  refine OkQ.then_ ?_
  refine OkC.ret ?_
  exact ret_one rfl (rd_agg (i := 1) (cs := fracL (x * ((1 : Rat) / 2))) rfl rfl Tryz.isAgg36 Tryz.sizeOf36 rfl) (fun w hw => ⟨rfl, hw.out⟩)

theorem twice_ok (a b c : Pt) (hs : SzP a + SzP b + SzP c ≤ 8589934592) (w : World)  : Calls Tryz.prog 53 #[(aG (ptL a)), (aG (ptL b)), (aG (ptL c))] w (Gives w (aG (fracL (turnP a b c)))) := by
  refine calls_of (args := [(aG (ptL a)), (aG (ptL b)), (aG (ptL c))]) Tryz.func53 rfl rfl (leB rfl) ?_
  refine OkC.subF (sC 0 rfl (sC 1 rfl (sC 2 rfl (sN)))) ?_
  refine q4 ?_
  refine OkL.open_ (T := 38) (cs := ptL a) (wt_none rfl) (op_box (cs := ptL a) rfl rfl) rfl (leB rfl) ?_; intro b1
  refine OkL.open_ (T := 38) (cs := ptL b) (wt_none rfl) (op_box (cs := ptL b) rfl rfl) rfl (leB rfl) ?_; intro b2
  refine OkL.open_ (T := 38) (cs := ptL c) (wt_none rfl) (op_box (cs := ptL c) rfl rfl) rfl (leB rfl) ?_; intro b3
  refine OkL.open_ (T := 36) (cs := fracL (0 : Rat)) (wt_none rfl) (op_alloc (cs := fracL (0 : Rat)) Tryz.zeroValue36 rfl) rfl (leB rfl) ?_; intro b4
  refine q6 (sC 3 rfl (sC 4 rfl (sC 5 rfl (sC 6 rfl (sN))))) ?_
  have hz1 := SzP_sub b a
  have hz2 := SzP_sub c a
  have hz3 := Sz_cross (b - a) (c - a)
  refine dR (specs := [⟨.held, fun _ => (aG (ptL b)), [], 0, []⟩, ⟨.held, fun _ => (aG (ptL a)), [], 0, []⟩, ⟨.call, fun _ => (aG (ptL (b - a))), [], 0, []⟩, ⟨.held, fun _ => (aG (ptL c)), [], 0, []⟩, ⟨.held, fun _ => (aG (ptL a)), [], 0, []⟩, ⟨.call, fun _ => (aG (ptL (c - a))), [], 0, []⟩, ⟨.call, fun _ => (aG (fracL (crossP (b - a) (c - a)))), [], 0, []⟩]) (Lro := [blk b3 38 (ptL c), blk b2 38 (ptL b), blk b1 38 (ptL a)]) (List.Sublist.cons _ (List.Sublist.refl _)) (dC (dC (dC (dC (dC (dC (dC (dN)))))))) (by kernel_rfl) (by kernel_rfl) (fun _ _ d _ _ h => by cases d <;> exact h) (vC (vc_held0 (G := fun β => [(4, (pP b2 0))]) (fun β => sF (by kernel_rfl)) (fun β => ex_load_agg (i := 1) (vs := ptL b) rfl rfl Tryz.isAgg38 Tryz.sizeOf38 rfl rfl)) (vC (vc_held0 (G := fun β => [(3, (pP b1 0))]) (fun β => sF (by kernel_rfl)) (fun β => ex_load_agg (i := 2) (vs := ptL a) rfl rfl Tryz.isAgg38 Tryz.sizeOf38 rfl rfl)) (vC (vc_call0 (G := fun β => [(7, (aG (ptL b))), (8, (aG (ptL a)))]) (fun β => sF (by kernel_rfl)) (fun β => op_call0 (args := [(aG (ptL b)), (aG (ptL a))]) rfl rfl Tryz.call48) (fun β w hw => pSub_ok b a (by omega) w)) (vC (vc_held0 (G := fun β => [(5, (pP b3 0))]) (fun β => sF (by kernel_rfl)) (fun β => ex_load_agg (i := 0) (vs := ptL c) rfl rfl Tryz.isAgg38 Tryz.sizeOf38 rfl rfl)) (vC (vc_held0 (G := fun β => [(3, (pP b1 0))]) (fun β => sF (by kernel_rfl)) (fun β => ex_load_agg (i := 2) (vs := ptL a) rfl rfl Tryz.isAgg38 Tryz.sizeOf38 rfl rfl)) (vC (vc_call0 (G := fun β => [(10, (aG (ptL c))), (11, (aG (ptL a)))]) (fun β => sF (by kernel_rfl)) (fun β => op_call0 (args := [(aG (ptL c)), (aG (ptL a))]) rfl rfl Tryz.call48) (fun β w hw => pSub_ok c a (by omega) w)) (vC (vc_call0 (G := fun β => [(9, (aG (ptL (b - a)))), (12, (aG (ptL (c - a))))]) (fun β => sF (by kernel_rfl)) (fun β => op_call0 (args := [(aG (ptL (b - a))), (aG (ptL (c - a)))]) rfl rfl Tryz.call63) (fun β w hw => pCross_ok (b - a) (c - a) (by omega) w)) (VcAll.nil)))))))) (fun β => ?_)
  refine OkLH.sub (F' := [(6, (pP b4 0)), (13, (aG (fracL (crossP (b - a) (c - a)))))]) (L' := [blk b4 36 (fracL (0 : Rat)), blk b3 38 (ptL c), blk b2 38 (ptL b), blk b1 38 (ptL a)]) (sF rfl) (List.Sublist.refl _) ?_
  refine OkLH.store' (i := 0) (off := 0) (vs := fracL (crossP (b - a) (c - a))) (cs' := fracL (crossP (b - a) (c - a))) (L' := [blk b4 36 (fracL (crossP (b - a) (c - a))), blk b3 38 (ptL c), blk b2 38 (ptL b), blk b1 38 (ptL a)]) (List.Sublist.cons _ (List.Sublist.refl _)) (wt_none rfl) rfl rfl rfl rfl rfl Tryz.sizeOf36 rfl rfl rfl rfl ?_
  refine OkLH.nil ?_
  refine OkQ.subF (sC 6 rfl (sN)) ?_
  refine OkQ.then_ ?_
  refine OkC.ret ?_
  exact ret_one rfl (rd_agg (i := 0) (cs := fracL (crossP (b - a) (c - a))) rfl rfl Tryz.isAgg36 Tryz.sizeOf36 rfl) (fun w hw => ⟨rfl, hw.out⟩)

theorem Area_ok (a b c : Pt) (hs : SzP a + SzP b + SzP c ≤ 8589934592) (w : World)  : Calls Tryz.prog 32 #[(aG (ptL a)), (aG (ptL b)), (aG (ptL c))] w (Gives w (aG (fracL (turnP a b c * (1 / 2))))) := by
  refine calls_of (args := [(aG (ptL a)), (aG (ptL b)), (aG (ptL c))]) Tryz.func32 rfl rfl (leB rfl) ?_
  refine OkC.subF (sC 0 rfl (sC 1 rfl (sC 2 rfl (sN)))) ?_
  refine q4 ?_
  refine OkL.open_ (T := 38) (cs := ptL a) (wt_none rfl) (op_box (cs := ptL a) rfl rfl) rfl (leB rfl) ?_; intro b1
  refine OkL.open_ (T := 38) (cs := ptL b) (wt_none rfl) (op_box (cs := ptL b) rfl rfl) rfl (leB rfl) ?_; intro b2
  refine OkL.open_ (T := 38) (cs := ptL c) (wt_none rfl) (op_box (cs := ptL c) rfl rfl) rfl (leB rfl) ?_; intro b3
  refine OkL.open_ (T := 36) (cs := fracL (0 : Rat)) (wt_none rfl) (op_alloc (cs := fracL (0 : Rat)) Tryz.zeroValue36 rfl) rfl (leB rfl) ?_; intro b4
  refine q3 (sC 3 rfl (sC 4 rfl (sC 5 rfl (sC 6 rfl (sN))))) ?_
  refine st (ex_load_agg (i := 3) (vs := ptL a) rfl rfl Tryz.isAgg38 Tryz.sizeOf38 rfl rfl) (leB rfl) ?_
  refine st (ex_load_agg (i := 2) (vs := ptL b) rfl rfl Tryz.isAgg38 Tryz.sizeOf38 rfl rfl) (leB rfl) ?_
  refine st (ex_load_agg (i := 1) (vs := ptL c) rfl rfl Tryz.isAgg38 Tryz.sizeOf38 rfl rfl) (leB rfl) ?_
  have hz1 := Sz_turn a b c
  refine OkL.call (v := (aG (fracL (turnP a b c)))) (wt_none rfl) (op_call0 (args := [(aG (ptL a)), (aG (ptL b)), (aG (ptL c))]) rfl rfl Tryz.call53) (fun w hw => twice_ok a b c (by omega) w) rfl (leB rfl) ?_
  have hz2 := Sz_mul (turnP a b c) (1 / 2)
  refine OkL.call (v := (aG (fracL ((turnP a b c) * (1 / 2))))) (wt_none rfl) (op_call0 (args := [(aG (fracL (turnP a b c)))]) rfl rfl Tryz.call74) (fun w hw => thalf_ok (turnP a b c) (by omega) w) rfl (leB rfl) ?_
  refine OkL.store' (i := 0) (off := 0) (vs := fracL ((turnP a b c) * (1 / 2))) (cs' := fracL ((turnP a b c) * (1 / 2))) (L' := [blk b4 36 (fracL ((turnP a b c) * (1 / 2))), blk b3 38 (ptL c), blk b2 38 (ptL b), blk b1 38 (ptL a)]) (wt_none rfl) rfl rfl rfl rfl rfl Tryz.sizeOf36 rfl rfl rfl rfl ?_
  refine OkL.nil ?_
  refine OkQ.subF (sC 6 rfl (sN)) ?_
  refine OkQ.then_ ?_
  refine OkC.ret ?_
  exact ret_one rfl (rd_agg (i := 0) (cs := fracL ((turnP a b c) * (1 / 2))) rfl rfl Tryz.isAgg36 Tryz.sizeOf36 rfl) (fun w hw => ⟨rfl, hw.out⟩)


end Go.Proofs.YtpkoldfmbebmgaaGreatDoor
