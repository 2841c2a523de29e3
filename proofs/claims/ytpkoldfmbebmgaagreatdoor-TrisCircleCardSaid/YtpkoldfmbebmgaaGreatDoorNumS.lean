/- Walks, printed by gen.py. -/
import Derived.Test.YtpkoldfmbebmgaaGreatDoorNumR
namespace Go.Proofs.YtpkoldfmbebmgaaGreatDoor
open Go Go.RowKit
set_option maxRecDepth 100000
set_option linter.unusedVariables false
set_option linter.unusedSimpArgs false

theorem fill_nums_49_  : Instr.fill (fun i => some (i * 10, 10)) (ptL (⟨0, 0⟩ : Pt) ++ ptL (⟨0, 0⟩ : Pt) ++ ptL (⟨0, 0⟩ : Pt)).toArray [] = some (ptL (⟨0, 0⟩ : Pt) ++ ptL (⟨0, 0⟩ : Pt) ++ ptL (⟨0, 0⟩ : Pt)).toArray := by kernel_rfl
theorem Grads0_ok (a b c : Pt) (hs : SzP a + SzP b + SzP c ≤ 1048576) (h : turnP a b c = 0) (w : World)  : Calls Tryz.prog 12 #[(aG (ptL a)), (aG (ptL b)), (aG (ptL c))] w (Gives w (Value.tuple #[(aG (ptL (⟨0, 0⟩ : Pt) ++ ptL (⟨0, 0⟩ : Pt) ++ ptL (⟨0, 0⟩ : Pt))), (vI 1)])) := by
  refine calls_of (args := [(aG (ptL a)), (aG (ptL b)), (aG (ptL c))]) Tryz.func12 rfl rfl (leB rfl) ?_
  refine OkC.subF (sC 0 rfl (sC 1 rfl (sC 2 rfl (sN)))) ?_
  refine q4 ?_
  refine OkL.open_ (T := 38) (cs := ptL a) (wt_none rfl) (op_box (cs := ptL a) rfl rfl) rfl (leB rfl) ?_; intro b1
  refine OkL.open_ (T := 38) (cs := ptL b) (wt_none rfl) (op_box (cs := ptL b) rfl rfl) rfl (leB rfl) ?_; intro b2
  refine OkL.open_ (T := 38) (cs := ptL c) (wt_none rfl) (op_box (cs := ptL c) rfl rfl) rfl (leB rfl) ?_; intro b3
  refine OkL.open_ (T := 49) (cs := ptL (⟨0, 0⟩ : Pt) ++ ptL (⟨0, 0⟩ : Pt) ++ ptL (⟨0, 0⟩ : Pt)) (wt_none rfl) (op_alloc (cs := ptL (⟨0, 0⟩ : Pt) ++ ptL (⟨0, 0⟩ : Pt) ++ ptL (⟨0, 0⟩ : Pt)) Tryz.zeroValue49 rfl) rfl (leB rfl) ?_; intro b4
  refine st (ex_assign rfl) (leB rfl) ?_
  refine q3 (sC 3 rfl (sC 4 rfl (sC 5 rfl (sC 6 rfl (sC 7 rfl (sN)))))) ?_
  refine st (ex_load_agg (i := 3) (vs := ptL a) rfl rfl Tryz.isAgg38 Tryz.sizeOf38 rfl rfl) (leB rfl) ?_
  refine st (ex_load_agg (i := 2) (vs := ptL b) rfl rfl Tryz.isAgg38 Tryz.sizeOf38 rfl rfl) (leB rfl) ?_
  refine st (ex_load_agg (i := 1) (vs := ptL c) rfl rfl Tryz.isAgg38 Tryz.sizeOf38 rfl rfl) (leB rfl) ?_
  have hz1 := Sz_turn a b c
  refine OkL.call (v := (aG (fracL (turnP a b c)))) (wt_none rfl) (op_call0 (args := [(aG (ptL a)), (aG (ptL b)), (aG (ptL c))]) rfl rfl Tryz.call53) (fun w hw => twice_ok a b c (by omega) w) rfl (leB rfl) ?_
  refine OkL.open_ (T := 36) (cs := fracL (0 : Rat)) (wt_none rfl) (op_alloc (cs := fracL (0 : Rat)) Tryz.zeroValue36 rfl) rfl (leB rfl) ?_; intro b5
  refine OkL.store' (i := 0) (off := 0) (vs := fracL (turnP a b c)) (cs' := fracL (turnP a b c)) (L' := [blk b5 36 (fracL (turnP a b c)), blk b4 49 (ptL (⟨0, 0⟩ : Pt) ++ ptL (⟨0, 0⟩ : Pt) ++ ptL (⟨0, 0⟩ : Pt)), blk b3 38 (ptL c), blk b2 38 (ptL b), blk b1 38 (ptL a)]) (wt_none rfl) rfl rfl rfl rfl rfl Tryz.sizeOf36 rfl rfl rfl rfl ?_
  refine q6 (sC 3 rfl (sC 4 rfl (sC 5 rfl (sC 6 rfl (sC 7 rfl (sC 8 rfl (sN))))))) ?_
  refine q4 ?_
  refine st (ex_load_agg (i := 0) (vs := fracL (turnP a b c)) rfl rfl Tryz.isAgg36 Tryz.sizeOf36 rfl rfl) (leB rfl) ?_
  refine OkL.call (v := (vI ((turnP a b c).num.sign))) (wt_none rfl) (op_call0 (args := [(aG (fracL (turnP a b c)))]) rfl rfl Tryz.call20) (fun w hw => fSign_ok (turnP a b c) w) rfl (leB rfl) ?_
  refine st (ex_eql (c := (decide (((turnP a b c).num.sign) = (0 : Int)))) rfl rfl rfl) (leB rfl) ?_
  refine OkL.nil ?_
  refine OkQ.subF (sC 3 rfl (sC 4 rfl (sC 5 rfl (sC 6 rfl (sC 7 rfl (sC 8 rfl (sC 19 rfl (sN)))))))) ?_
  refine OkQ.then_ ?_
  refine OkC.cond rfl (fun hc0 => ?_) (fun hc0 => ?_)
  · replace hc0 := of_decide_eq_true hc0
    refine q4 ?_
    refine st (v := (aG (ptL (⟨0, 0⟩ : Pt) ++ ptL (⟨0, 0⟩ : Pt) ++ ptL (⟨0, 0⟩ : Pt)))) (ex_build_array (zs := ptL (⟨0, 0⟩ : Pt) ++ ptL (⟨0, 0⟩ : Pt) ++ ptL (⟨0, 0⟩ : Pt)) (vs := ptL (⟨0, 0⟩ : Pt) ++ ptL (⟨0, 0⟩ : Pt) ++ ptL (⟨0, 0⟩ : Pt)) (pv := []) Tryz.zeroValue49 Tryz.underlying49 Tryz.sizeOf38 rfl (fill_nums_49_ )) (leB rfl) ?_
    refine OkL.store' (i := 1) (off := 0) (vs := ptL (⟨0, 0⟩ : Pt) ++ ptL (⟨0, 0⟩ : Pt) ++ ptL (⟨0, 0⟩ : Pt)) (cs' := ptL (⟨0, 0⟩ : Pt) ++ ptL (⟨0, 0⟩ : Pt) ++ ptL (⟨0, 0⟩ : Pt)) (L' := [blk b5 36 (fracL (turnP a b c)), blk b4 49 (ptL (⟨0, 0⟩ : Pt) ++ ptL (⟨0, 0⟩ : Pt) ++ ptL (⟨0, 0⟩ : Pt)), blk b3 38 (ptL c), blk b2 38 (ptL b), blk b1 38 (ptL a)]) (wt_none rfl) rfl rfl rfl rfl rfl Tryz.sizeOf49 rfl rfl rfl rfl ?_
    refine st (ex_assign rfl) (leB rfl) ?_
    refine OkL.nil ?_
    refine OkQ.subF (sC 3 rfl (sC 4 rfl (sC 5 rfl (sC 6 rfl (sC 7 rfl (sC 8 rfl (sN))))))) ?_
    refine OkQ.then_ ?_
    refine OkC.ret ?_
    refine OkQ.then_ret ?_
    exact ret_two rfl (rd_agg (i := 1) (cs := ptL (⟨0, 0⟩ : Pt) ++ ptL (⟨0, 0⟩ : Pt) ++ ptL (⟨0, 0⟩ : Pt)) rfl rfl Tryz.isAgg49 Tryz.sizeOf49 rfl) (rd_tmp (v := (vI 1)) rfl) (fun w hw => ⟨rfl, hw.out⟩)
  · replace hc0 := of_decide_eq_false hc0
    exact absurd (by rw [h]; rfl) hc0

theorem fill_nums_56_  : Instr.fill (fun i => some (i * 5, 5)) (fracL (0 : Rat) ++ fracL (0 : Rat) ++ fracL (0 : Rat)).toArray [] = some (fracL (0 : Rat) ++ fracL (0 : Rat) ++ fracL (0 : Rat)).toArray := by kernel_rfl
theorem Cots0_ok (a b c : Pt) (hs : SzP a + SzP b + SzP c ≤ 1048576) (h : turnP a b c = 0) (w : World)  : Calls Tryz.prog 14 #[(aG (ptL a)), (aG (ptL b)), (aG (ptL c))] w (Gives w (Value.tuple #[(aG (fracL (0 : Rat) ++ fracL (0 : Rat) ++ fracL (0 : Rat))), (vI 1)])) := by
  refine calls_of (args := [(aG (ptL a)), (aG (ptL b)), (aG (ptL c))]) Tryz.func14 rfl rfl (leB rfl) ?_
  refine OkC.subF (sC 0 rfl (sC 1 rfl (sC 2 rfl (sN)))) ?_
  refine q4 ?_
  refine OkL.open_ (T := 38) (cs := ptL a) (wt_none rfl) (op_box (cs := ptL a) rfl rfl) rfl (leB rfl) ?_; intro b1
  refine OkL.open_ (T := 38) (cs := ptL b) (wt_none rfl) (op_box (cs := ptL b) rfl rfl) rfl (leB rfl) ?_; intro b2
  refine OkL.open_ (T := 38) (cs := ptL c) (wt_none rfl) (op_box (cs := ptL c) rfl rfl) rfl (leB rfl) ?_; intro b3
  refine OkL.open_ (T := 56) (cs := fracL (0 : Rat) ++ fracL (0 : Rat) ++ fracL (0 : Rat)) (wt_none rfl) (op_alloc (cs := fracL (0 : Rat) ++ fracL (0 : Rat) ++ fracL (0 : Rat)) Tryz.zeroValue56 rfl) rfl (leB rfl) ?_; intro b4
  refine st (ex_assign rfl) (leB rfl) ?_
  refine q3 (sC 3 rfl (sC 4 rfl (sC 5 rfl (sC 6 rfl (sC 7 rfl (sN)))))) ?_
  refine st (ex_load_agg (i := 3) (vs := ptL a) rfl rfl Tryz.isAgg38 Tryz.sizeOf38 rfl rfl) (leB rfl) ?_
  refine st (ex_load_agg (i := 2) (vs := ptL b) rfl rfl Tryz.isAgg38 Tryz.sizeOf38 rfl rfl) (leB rfl) ?_
  refine st (ex_load_agg (i := 1) (vs := ptL c) rfl rfl Tryz.isAgg38 Tryz.sizeOf38 rfl rfl) (leB rfl) ?_
  have hz1 := Sz_turn a b c
  refine OkL.call (v := (aG (fracL (turnP a b c)))) (wt_none rfl) (op_call0 (args := [(aG (ptL a)), (aG (ptL b)), (aG (ptL c))]) rfl rfl Tryz.call53) (fun w hw => twice_ok a b c (by omega) w) rfl (leB rfl) ?_
  have hz2 := Sz_abs (turnP a b c)
  refine OkL.call (v := (aG (fracL (absQ (turnP a b c))))) (wt_none rfl) (op_call0 (args := [(aG (fracL (turnP a b c)))]) rfl rfl Tryz.call45) (fun w hw => fAbs_ok (turnP a b c) w) rfl (leB rfl) ?_
  refine OkL.open_ (T := 36) (cs := fracL (0 : Rat)) (wt_none rfl) (op_alloc (cs := fracL (0 : Rat)) Tryz.zeroValue36 rfl) rfl (leB rfl) ?_; intro b5
  refine OkL.store' (i := 0) (off := 0) (vs := fracL (absQ (turnP a b c))) (cs' := fracL (absQ (turnP a b c))) (L' := [blk b5 36 (fracL (absQ (turnP a b c))), blk b4 56 (fracL (0 : Rat) ++ fracL (0 : Rat) ++ fracL (0 : Rat)), blk b3 38 (ptL c), blk b2 38 (ptL b), blk b1 38 (ptL a)]) (wt_none rfl) rfl rfl rfl rfl rfl Tryz.sizeOf36 rfl rfl rfl rfl ?_
  refine q6 (sC 3 rfl (sC 4 rfl (sC 5 rfl (sC 6 rfl (sC 7 rfl (sC 8 rfl (sN))))))) ?_
  refine q4 ?_
  refine st (ex_load_agg (i := 0) (vs := fracL (absQ (turnP a b c))) rfl rfl Tryz.isAgg36 Tryz.sizeOf36 rfl rfl) (leB rfl) ?_
  refine OkL.call (v := (vI ((absQ (turnP a b c)).num.sign))) (wt_none rfl) (op_call0 (args := [(aG (fracL (absQ (turnP a b c))))]) rfl rfl Tryz.call20) (fun w hw => fSign_ok (absQ (turnP a b c)) w) rfl (leB rfl) ?_
  refine st (ex_eql (c := (decide (((absQ (turnP a b c)).num.sign) = (0 : Int)))) rfl rfl rfl) (leB rfl) ?_
  refine OkL.nil ?_
  refine OkQ.subF (sC 3 rfl (sC 4 rfl (sC 5 rfl (sC 6 rfl (sC 7 rfl (sC 8 rfl (sC 20 rfl (sN)))))))) ?_
  refine OkQ.then_ ?_
  refine OkC.cond rfl (fun hc0 => ?_) (fun hc0 => ?_)
  · replace hc0 := of_decide_eq_true hc0
    refine q4 ?_
    refine st (v := (aG (fracL (0 : Rat) ++ fracL (0 : Rat) ++ fracL (0 : Rat)))) (ex_build_array (zs := fracL (0 : Rat) ++ fracL (0 : Rat) ++ fracL (0 : Rat)) (vs := fracL (0 : Rat) ++ fracL (0 : Rat) ++ fracL (0 : Rat)) (pv := []) Tryz.zeroValue56 Tryz.underlying56 Tryz.sizeOf36 rfl (fill_nums_56_ )) (leB rfl) ?_
    refine OkL.store' (i := 1) (off := 0) (vs := fracL (0 : Rat) ++ fracL (0 : Rat) ++ fracL (0 : Rat)) (cs' := fracL (0 : Rat) ++ fracL (0 : Rat) ++ fracL (0 : Rat)) (L' := [blk b5 36 (fracL (absQ (turnP a b c))), blk b4 56 (fracL (0 : Rat) ++ fracL (0 : Rat) ++ fracL (0 : Rat)), blk b3 38 (ptL c), blk b2 38 (ptL b), blk b1 38 (ptL a)]) (wt_none rfl) rfl rfl rfl rfl rfl Tryz.sizeOf56 rfl rfl rfl rfl ?_
    refine st (ex_assign rfl) (leB rfl) ?_
    refine OkL.nil ?_
    refine OkQ.subF (sC 3 rfl (sC 4 rfl (sC 5 rfl (sC 6 rfl (sC 7 rfl (sC 8 rfl (sN))))))) ?_
    refine OkQ.then_ ?_
    refine OkC.ret ?_
    refine OkQ.then_ret ?_
    exact ret_two rfl (rd_agg (i := 1) (cs := fracL (0 : Rat) ++ fracL (0 : Rat) ++ fracL (0 : Rat)) rfl rfl Tryz.isAgg56 Tryz.sizeOf56 rfl) (rd_tmp (v := (vI 1)) rfl) (fun w hw => ⟨rfl, hw.out⟩)
  · replace hc0 := of_decide_eq_false hc0
    exact absurd (by rw [h]; rfl) hc0

theorem fill_nums_38_  : Instr.fill ([(0, 5), (5, 5)].toArray[·]?) (ptL (⟨0, 0⟩ : Pt)).toArray [] = some (ptL (⟨0, 0⟩ : Pt)).toArray := by kernel_rfl
theorem fill_nums_36_  : Instr.fill ([(0, 3), (3, 2)].toArray[·]?) (fracL (0 : Rat)).toArray [] = some (fracL (0 : Rat)).toArray := by kernel_rfl
theorem Middle0_ok (a b c : Pt) (hs : SzP a + SzP b + SzP c ≤ 1048576) (h : crossP (b - a) (c - a) = 0) (w : World)  : Calls Tryz.prog 18 #[(aG (ptL a)), (aG (ptL b)), (aG (ptL c))] w (Gives w (Value.tuple #[(aG (ptL (⟨0, 0⟩ : Pt))), (aG (fracL (0 : Rat))), (vI 1)])) := by
  have i2 := Sz_int (z := 2) (by omega) (by omega)
  refine calls_of (args := [(aG (ptL a)), (aG (ptL b)), (aG (ptL c))]) Tryz.func18 rfl rfl (leB rfl) ?_
  refine OkC.subF (sC 0 rfl (sC 1 rfl (sC 2 rfl (sN)))) ?_
  refine q4 ?_
  refine OkL.open_ (T := 38) (cs := ptL a) (wt_none rfl) (op_box (cs := ptL a) rfl rfl) rfl (leB rfl) ?_; intro b1
  refine OkL.open_ (T := 38) (cs := ptL b) (wt_none rfl) (op_box (cs := ptL b) rfl rfl) rfl (leB rfl) ?_; intro b2
  refine OkL.open_ (T := 38) (cs := ptL c) (wt_none rfl) (op_box (cs := ptL c) rfl rfl) rfl (leB rfl) ?_; intro b3
  refine OkL.open_ (T := 38) (cs := ptL (⟨0, 0⟩ : Pt)) (wt_none rfl) (op_alloc (cs := ptL (⟨0, 0⟩ : Pt)) Tryz.zeroValue38 rfl) rfl (leB rfl) ?_; intro b4
  refine OkL.open_ (T := 36) (cs := fracL (0 : Rat)) (wt_none rfl) (op_alloc (cs := fracL (0 : Rat)) Tryz.zeroValue36 rfl) rfl (leB rfl) ?_; intro b5
  refine st (ex_assign rfl) (leB rfl) ?_
  refine q6 (sC 3 rfl (sC 4 rfl (sC 5 rfl (sC 6 rfl (sC 7 rfl (sC 8 rfl (sN))))))) ?_
  have hz1 := SzP_sub b a
  have hz2 := SzP_sub c a
  refine OkC.drawn' (specs := [⟨.held, fun _ => (aG (ptL b)), [], 0, []⟩, ⟨.held, fun _ => (aG (ptL a)), [], 0, []⟩, ⟨.call, fun _ => (aG (ptL (b - a))), [], 0, []⟩, ⟨.held, fun _ => (aG (ptL c)), [], 0, []⟩, ⟨.held, fun _ => (aG (ptL a)), [], 0, []⟩, ⟨.call, fun _ => (aG (ptL (c - a))), [], 0, []⟩, ⟨.new, fun β => (pP (β 6) 0), [], 38, ptL (⟨0, 0⟩ : Pt)⟩, ⟨.new, fun β => (pP (β 7) 0), [], 38, ptL (⟨0, 0⟩ : Pt)⟩]) (by kernel_rfl) (fun hchk1 => ?_)
  refine dR (Lro := [blk b5 36 (fracL (0 : Rat)), blk b4 38 (ptL (⟨0, 0⟩ : Pt)), blk b3 38 (ptL c), blk b2 38 (ptL b), blk b1 38 (ptL a)]) (List.Sublist.refl _) (dC (dC (dC (dC (dC (dC (DepAll.block (V := fun b => (Value.pointer (some ⟨b, 0, none⟩))) (DepAll.block (V := fun b => (Value.pointer (some ⟨b, 0, none⟩))) (dN))))))))) hchk1 (by kernel_rfl) (fun _ _ d _ _ h => by cases d <;> exact h) (vC (vc_held0 (G := fun β => [(4, (pP b2 0))]) (fun β => sF (by kernel_rfl)) (fun β => ex_load_agg (i := 3) (vs := ptL b) rfl rfl Tryz.isAgg38 Tryz.sizeOf38 rfl rfl)) (vC (vc_held0 (G := fun β => [(3, (pP b1 0))]) (fun β => sF (by kernel_rfl)) (fun β => ex_load_agg (i := 4) (vs := ptL a) rfl rfl Tryz.isAgg38 Tryz.sizeOf38 rfl rfl)) (vC (vc_call0 (G := fun β => [(15, (aG (ptL b))), (16, (aG (ptL a)))]) (fun β => sF (by kernel_rfl)) (fun β => op_call0 (args := [(aG (ptL b)), (aG (ptL a))]) rfl rfl Tryz.call48) (fun β w hw => pSub_ok b a (by omega) w)) (vC (vc_held0 (G := fun β => [(5, (pP b3 0))]) (fun β => sF (by kernel_rfl)) (fun β => ex_load_agg (i := 2) (vs := ptL c) rfl rfl Tryz.isAgg38 Tryz.sizeOf38 rfl rfl)) (vC (vc_held0 (G := fun β => [(3, (pP b1 0))]) (fun β => sF (by kernel_rfl)) (fun β => ex_load_agg (i := 4) (vs := ptL a) rfl rfl Tryz.isAgg38 Tryz.sizeOf38 rfl rfl)) (vC (vc_call0 (G := fun β => [(18, (aG (ptL c))), (19, (aG (ptL a)))]) (fun β => sF (by kernel_rfl)) (fun β => op_call0 (args := [(aG (ptL c)), (aG (ptL a))]) rfl rfl Tryz.call48) (fun β w hw => pSub_ok c a (by omega) w)) (vC (vc_new0 (V := fun b => (Value.pointer (some ⟨b, 0, none⟩))) (j := 6) (one_place hchk1 rfl rfl rfl) (G := fun β => []) (fun β => sN) (fun β => op_alloc (cs := ptL (⟨0, 0⟩ : Pt)) Tryz.zeroValue38 rfl)) (vC (vc_new0 (V := fun b => (Value.pointer (some ⟨b, 0, none⟩))) (j := 7) (one_place hchk1 rfl rfl rfl) (G := fun β => []) (fun β => sN) (fun β => op_alloc (cs := ptL (⟨0, 0⟩ : Pt)) Tryz.zeroValue38 rfl)) (VcAll.nil))))))))) (fun β => ?_)
  clear hchk1
  refine OkLH.sub (F' := [(3, (pP b1 0)), (6, (pP b4 0)), (7, (pP b5 0)), (8, (vI 0)), (17, (aG (ptL (b - a)))), (20, (aG (ptL (c - a)))), (9, (pP (β 6) 0)), (10, (pP (β 7) 0))]) (L' := [blk (β 6) 38 (ptL (⟨0, 0⟩ : Pt)), blk (β 7) 38 (ptL (⟨0, 0⟩ : Pt)), blk b5 36 (fracL (0 : Rat)), blk b4 38 (ptL (⟨0, 0⟩ : Pt)), blk b3 38 (ptL c), blk b2 38 (ptL b), blk b1 38 (ptL a)]) (sF rfl) (List.Sublist.refl _) ?_
  generalize β 6 = b6
  generalize β 7 = b7
  refine OkLH.store' (i := 0) (off := 0) (vs := ptL (b - a)) (cs' := ptL (b - a)) (L' := [blk b6 38 (ptL (b - a)), blk b7 38 (ptL (⟨0, 0⟩ : Pt)), blk b5 36 (fracL (0 : Rat)), blk b4 38 (ptL (⟨0, 0⟩ : Pt)), blk b3 38 (ptL c), blk b2 38 (ptL b), blk b1 38 (ptL a)]) (List.Sublist.cons _ (List.Sublist.cons _ (List.Sublist.refl _))) (wt_none rfl) rfl rfl rfl rfl rfl Tryz.sizeOf38 rfl rfl rfl rfl ?_
  refine OkLH.store' (i := 1) (off := 0) (vs := ptL (c - a)) (cs' := ptL (c - a)) (L' := [blk b6 38 (ptL (b - a)), blk b7 38 (ptL (c - a)), blk b5 36 (fracL (0 : Rat)), blk b4 38 (ptL (⟨0, 0⟩ : Pt)), blk b3 38 (ptL c), blk b2 38 (ptL b), blk b1 38 (ptL a)]) (List.Sublist.cons _ (List.Sublist.cons _ (List.Sublist.refl _))) (wt_none rfl) rfl rfl rfl rfl rfl Tryz.sizeOf38 rfl rfl rfl rfl ?_
  refine q7 (sC 3 rfl (sC 6 rfl (sC 7 rfl (sC 8 rfl (sC 9 rfl (sC 10 rfl (sN))))))) ?_
  have hz3 := Sz_cross (b - a) (c - a)
  have hz4 := Sz_mul ((2 : Int) : Rat) (crossP (b - a) (c - a))
  refine OkC.drawn' (specs := [⟨.call, fun _ => (aG (fracL ((2 : Int) : Rat))), [], 0, []⟩, ⟨.held, fun _ => (aG (ptL (b - a))), [], 0, []⟩, ⟨.held, fun _ => (aG (ptL (c - a))), [], 0, []⟩, ⟨.call, fun _ => (aG (fracL (crossP (b - a) (c - a)))), [], 0, []⟩, ⟨.call, fun _ => (aG (fracL (((2 : Int) : Rat) * (crossP (b - a) (c - a))))), [], 0, []⟩, ⟨.new, fun β => (pP (β 5) 0), [], 36, fracL (0 : Rat)⟩]) (by kernel_rfl) (fun hchk2 => ?_)
  refine dR (Lro := [blk b6 38 (ptL (b - a)), blk b7 38 (ptL (c - a)), blk b5 36 (fracL (0 : Rat)), blk b4 38 (ptL (⟨0, 0⟩ : Pt)), blk b3 38 (ptL c), blk b2 38 (ptL b), blk b1 38 (ptL a)]) (List.Sublist.refl _) (dC (dC (dC (dC (dC (DepAll.block (V := fun b => (Value.pointer (some ⟨b, 0, none⟩))) (dN))))))) hchk2 (by kernel_rfl) (fun _ _ d _ _ h => by cases d <;> exact h) (vC (vc_call0 (G := fun β => []) (fun β => sN) (fun β => op_call0 (args := [(vI 2)]) rfl rfl Tryz.call44) (fun β w hw => fInt_ok (2 : Int) (by omega) (by omega) w)) (vC (vc_held0 (G := fun β => [(9, (pP b6 0))]) (fun β => sF (by kernel_rfl)) (fun β => ex_load_agg (i := 0) (vs := ptL (b - a)) rfl rfl Tryz.isAgg38 Tryz.sizeOf38 rfl rfl)) (vC (vc_held0 (G := fun β => [(10, (pP b7 0))]) (fun β => sF (by kernel_rfl)) (fun β => ex_load_agg (i := 1) (vs := ptL (c - a)) rfl rfl Tryz.isAgg38 Tryz.sizeOf38 rfl rfl)) (vC (vc_call0 (G := fun β => [(22, (aG (ptL (b - a)))), (23, (aG (ptL (c - a))))]) (fun β => sF (by kernel_rfl)) (fun β => op_call0 (args := [(aG (ptL (b - a))), (aG (ptL (c - a)))]) rfl rfl Tryz.call63) (fun β w hw => pCross_ok (b - a) (c - a) (by omega) w)) (vC (vc_call0 (G := fun β => [(21, (aG (fracL ((2 : Int) : Rat)))), (24, (aG (fracL (crossP (b - a) (c - a)))))]) (fun β => sF (by kernel_rfl)) (fun β => op_call0 (args := [(aG (fracL ((2 : Int) : Rat))), (aG (fracL (crossP (b - a) (c - a))))]) rfl rfl Tryz.call40) (fun β w hw => fMul_ok ((2 : Int) : Rat) (crossP (b - a) (c - a)) (by (try simp only [Sz_neg]); omega) w)) (vC (vc_new0 (V := fun b => (Value.pointer (some ⟨b, 0, none⟩))) (j := 5) (one_place hchk2 rfl rfl rfl) (G := fun β => []) (fun β => sN) (fun β => op_alloc (cs := fracL (0 : Rat)) Tryz.zeroValue36 rfl)) (VcAll.nil))))))) (fun β => ?_)
  clear hchk2
  refine OkLH.sub (F' := [(3, (pP b1 0)), (6, (pP b4 0)), (7, (pP b5 0)), (8, (vI 0)), (9, (pP b6 0)), (10, (pP b7 0)), (25, (aG (fracL (((2 : Int) : Rat) * (crossP (b - a) (c - a)))))), (11, (pP (β 5) 0))]) (L' := [blk (β 5) 36 (fracL (0 : Rat)), blk b6 38 (ptL (b - a)), blk b7 38 (ptL (c - a)), blk b5 36 (fracL (0 : Rat)), blk b4 38 (ptL (⟨0, 0⟩ : Pt)), blk b3 38 (ptL c), blk b2 38 (ptL b), blk b1 38 (ptL a)]) (sF rfl) (List.Sublist.refl _) ?_
  generalize β 5 = b8
  refine OkLH.store' (i := 0) (off := 0) (vs := fracL (((2 : Int) : Rat) * (crossP (b - a) (c - a)))) (cs' := fracL (((2 : Int) : Rat) * (crossP (b - a) (c - a)))) (L' := [blk b8 36 (fracL (((2 : Int) : Rat) * (crossP (b - a) (c - a)))), blk b6 38 (ptL (b - a)), blk b7 38 (ptL (c - a)), blk b5 36 (fracL (0 : Rat)), blk b4 38 (ptL (⟨0, 0⟩ : Pt)), blk b3 38 (ptL c), blk b2 38 (ptL b), blk b1 38 (ptL a)]) (List.Sublist.cons _ (List.Sublist.refl _)) (wt_none rfl) rfl rfl rfl rfl rfl Tryz.sizeOf36 rfl rfl rfl rfl ?_
  refine q7 (sC 3 rfl (sC 6 rfl (sC 7 rfl (sC 8 rfl (sC 9 rfl (sC 10 rfl (sC 11 rfl (sN)))))))) ?_
  refine q4 ?_
  refine st (ex_load_agg (i := 0) (vs := fracL (((2 : Int) : Rat) * (crossP (b - a) (c - a)))) rfl rfl Tryz.isAgg36 Tryz.sizeOf36 rfl rfl) (leB rfl) ?_
  refine OkL.call (v := (vI ((((2 : Int) : Rat) * (crossP (b - a) (c - a))).num.sign))) (wt_none rfl) (op_call0 (args := [(aG (fracL (((2 : Int) : Rat) * (crossP (b - a) (c - a)))))]) rfl rfl Tryz.call20) (fun w hw => fSign_ok (((2 : Int) : Rat) * (crossP (b - a) (c - a))) w) rfl (leB rfl) ?_
  refine st (ex_eql (c := (decide (((((2 : Int) : Rat) * (crossP (b - a) (c - a))).num.sign) = (0 : Int)))) rfl rfl rfl) (leB rfl) ?_
  refine OkL.nil ?_
  refine OkQ.subF (sC 3 rfl (sC 6 rfl (sC 7 rfl (sC 8 rfl (sC 9 rfl (sC 10 rfl (sC 11 rfl (sC 28 rfl (sN))))))))) ?_
  refine OkQ.then_ ?_
  refine OkC.cond rfl (fun hc0 => ?_) (fun hc0 => ?_)
  · replace hc0 := of_decide_eq_true hc0
    refine q4 ?_
    refine st (v := (aG (ptL (⟨0, 0⟩ : Pt)))) (ex_build_struct (zs := ptL (⟨0, 0⟩ : Pt)) (vs := ptL (⟨0, 0⟩ : Pt)) (pv := []) (places := [(0, 5), (5, 5)]) Tryz.zeroValue38 Tryz.underlying38 (fun w => by simp [Tryz.sizeOf36]) rfl (fill_nums_38_ )) (leB rfl) ?_
    refine st (v := (aG (fracL (0 : Rat)))) (ex_build_struct (zs := fracL (0 : Rat)) (vs := fracL (0 : Rat)) (pv := []) (places := [(0, 3), (3, 2)]) Tryz.zeroValue36 Tryz.underlying36 (fun w => by simp [Tryz.sizeOf30, Tryz.sizeOf34]) rfl (fill_nums_36_ )) (leB rfl) ?_
    refine OkL.store' (i := 4) (off := 0) (vs := ptL (⟨0, 0⟩ : Pt)) (cs' := ptL (⟨0, 0⟩ : Pt)) (L' := [blk b8 36 (fracL (((2 : Int) : Rat) * (crossP (b - a) (c - a)))), blk b6 38 (ptL (b - a)), blk b7 38 (ptL (c - a)), blk b5 36 (fracL (0 : Rat)), blk b4 38 (ptL (⟨0, 0⟩ : Pt)), blk b3 38 (ptL c), blk b2 38 (ptL b), blk b1 38 (ptL a)]) (wt_none rfl) rfl rfl rfl rfl rfl Tryz.sizeOf38 rfl rfl rfl rfl ?_
    refine OkL.store' (i := 3) (off := 0) (vs := fracL (0 : Rat)) (cs' := fracL (0 : Rat)) (L' := [blk b8 36 (fracL (((2 : Int) : Rat) * (crossP (b - a) (c - a)))), blk b6 38 (ptL (b - a)), blk b7 38 (ptL (c - a)), blk b5 36 (fracL (0 : Rat)), blk b4 38 (ptL (⟨0, 0⟩ : Pt)), blk b3 38 (ptL c), blk b2 38 (ptL b), blk b1 38 (ptL a)]) (wt_none rfl) rfl rfl rfl rfl rfl Tryz.sizeOf36 rfl rfl rfl rfl ?_
    refine st (ex_assign rfl) (leB rfl) ?_
    refine OkL.nil ?_
    refine OkQ.subF (sC 3 rfl (sC 6 rfl (sC 7 rfl (sC 8 rfl (sC 9 rfl (sC 10 rfl (sC 11 rfl (sN)))))))) ?_
    refine OkQ.then_ ?_
    refine OkC.ret ?_
    refine OkQ.then_ret ?_
    exact ret_three rfl (rd_agg (i := 4) (cs := ptL (⟨0, 0⟩ : Pt)) rfl rfl Tryz.isAgg38 Tryz.sizeOf38 rfl) (rd_agg (i := 3) (cs := fracL (0 : Rat)) rfl rfl Tryz.isAgg36 Tryz.sizeOf36 rfl) (rd_tmp (v := (vI 1)) rfl) (fun w hw => ⟨rfl, hw.out⟩)
  · replace hc0 := of_decide_eq_false hc0
    exact absurd (by rw [h, Rat.mul_zero]; rfl) hc0


end Go.Proofs.YtpkoldfmbebmgaaGreatDoor
