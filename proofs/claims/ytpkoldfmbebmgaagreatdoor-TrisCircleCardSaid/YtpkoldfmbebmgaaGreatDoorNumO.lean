/- Walks, printed by gen.py. -/
import Derived.Test.YtpkoldfmbebmgaaGreatDoorNumN
namespace Go.Proofs.YtpkoldfmbebmgaaGreatDoor
open Go Go.RowKit
set_option maxRecDepth 100000
set_option linter.unusedVariables false
set_option linter.unusedSimpArgs false

theorem At_ok (a b c : Pt) (x y z : Rat) (hs : SzP a + SzP b + SzP c ≤ 268435456) (hx : Sz x + Sz y + Sz z ≤ 268435456) (w : World)  : Calls Tryz.prog 28 #[(aG (ptL a)), (aG (ptL b)), (aG (ptL c)), (aG (fracL x ++ fracL y ++ fracL z))] w (Gives w (aG (ptL (scaleP a x + scaleP b y + scaleP c z)))) := by
  refine calls_of (args := [(aG (ptL a)), (aG (ptL b)), (aG (ptL c)), (aG (fracL x ++ fracL y ++ fracL z))]) Tryz.func28 rfl rfl (leB rfl) ?_
  refine OkC.subF (sC 0 rfl (sC 1 rfl (sC 2 rfl (sC 3 rfl (sN))))) ?_
  refine q4 ?_
  refine OkL.open_ (T := 38) (cs := ptL a) (wt_none rfl) (op_box (cs := ptL a) rfl rfl) rfl (leB rfl) ?_; intro b1
  refine OkL.open_ (T := 38) (cs := ptL b) (wt_none rfl) (op_box (cs := ptL b) rfl rfl) rfl (leB rfl) ?_; intro b2
  refine OkL.open_ (T := 38) (cs := ptL c) (wt_none rfl) (op_box (cs := ptL c) rfl rfl) rfl (leB rfl) ?_; intro b3
  refine OkL.open_ (T := 56) (cs := fracL x ++ fracL y ++ fracL z) (wt_none rfl) (op_box (cs := fracL x ++ fracL y ++ fracL z) rfl rfl) rfl (leB rfl) ?_; intro b4
  refine OkL.open_ (T := 38) (cs := ptL (⟨0, 0⟩ : Pt)) (wt_none rfl) (op_alloc (cs := ptL (⟨0, 0⟩ : Pt)) Tryz.zeroValue38 rfl) rfl (leB rfl) ?_; intro b5
  refine q6 (sC 4 rfl (sC 5 rfl (sC 6 rfl (sC 7 rfl (sC 8 rfl (sN)))))) ?_
  have hz1 := SzP_scale a x
  have hz2 := SzP_scale b y
  have hz3 := SzP_add (scaleP a x) (scaleP b y)
  have hz4 := SzP_scale c z
  have hz5 := SzP_add ((scaleP a x) + (scaleP b y)) (scaleP c z)
  refine dR (specs := [⟨.held, fun _ => (aG (ptL a)), [], 0, []⟩, ⟨.pure, fun _ => (pP b4 0), [], 0, []⟩, ⟨.held, fun _ => (aG (fracL x)), [], 0, []⟩, ⟨.call, fun _ => (aG (ptL (scaleP a x))), [], 0, []⟩, ⟨.held, fun _ => (aG (ptL b)), [], 0, []⟩, ⟨.pure, fun _ => (pP b4 5), [], 0, []⟩, ⟨.held, fun _ => (aG (fracL y)), [], 0, []⟩, ⟨.call, fun _ => (aG (ptL (scaleP b y))), [], 0, []⟩, ⟨.call, fun _ => (aG (ptL ((scaleP a x) + (scaleP b y)))), [], 0, []⟩, ⟨.held, fun _ => (aG (ptL c)), [], 0, []⟩, ⟨.pure, fun _ => (pP b4 10), [], 0, []⟩, ⟨.held, fun _ => (aG (fracL z)), [], 0, []⟩, ⟨.call, fun _ => (aG (ptL (scaleP c z))), [], 0, []⟩, ⟨.call, fun _ => (aG (ptL (((scaleP a x) + (scaleP b y)) + (scaleP c z)))), [], 0, []⟩]) (Lro := [blk b4 56 (fracL x ++ fracL y ++ fracL z), blk b3 38 (ptL c), blk b2 38 (ptL b), blk b1 38 (ptL a)]) (List.Sublist.cons _ (List.Sublist.refl _)) (dC (dC (dC (dC (dC (dC (dC (dC (dC (dC (dC (dC (dC (dC (dN))))))))))))))) (by kernel_rfl) (by kernel_rfl) (fun _ _ d _ _ h => by cases d <;> exact h) (vC (vc_held0 (G := fun β => [(4, (pP b1 0))]) (fun β => sF (by kernel_rfl)) (fun β => ex_load_agg (i := 3) (vs := ptL a) rfl rfl Tryz.isAgg38 Tryz.sizeOf38 rfl rfl)) (vC (vc_pure0 (G := fun β => [(7, (pP b4 0))]) (fun β => sF (by kernel_rfl)) (fun β _ => ex_indexAddr_array (j := 0) rfl rfl Tryz.underlying56 Tryz.sizeOf36 rfl (by decide) rfl)) (vC (vc_held0 (G := fun β => [(10, (pP b4 0))]) (fun β => sF (by kernel_rfl)) (fun β => ex_load_agg (i := 0) (vs := fracL x) rfl rfl Tryz.isAgg36 Tryz.sizeOf36 rfl rfl)) (vC (vc_call0 (G := fun β => [(9, (aG (ptL a))), (11, (aG (fracL x)))]) (fun β => sF (by kernel_rfl)) (fun β => op_call0 (args := [(aG (ptL a)), (aG (fracL x))]) rfl rfl Tryz.call64) (fun β w hw => pScale_ok a x (by omega) w)) (vC (vc_held0 (G := fun β => [(5, (pP b2 0))]) (fun β => sF (by kernel_rfl)) (fun β => ex_load_agg (i := 2) (vs := ptL b) rfl rfl Tryz.isAgg38 Tryz.sizeOf38 rfl rfl)) (vC (vc_pure0 (G := fun β => [(7, (pP b4 0))]) (fun β => sF (by kernel_rfl)) (fun β _ => ex_indexAddr_array (j := 1) rfl rfl Tryz.underlying56 Tryz.sizeOf36 rfl (by decide) rfl)) (vC (vc_held0 (G := fun β => [(14, (pP b4 5))]) (fun β => sF (by kernel_rfl)) (fun β => ex_load_agg (i := 0) (vs := fracL y) rfl rfl Tryz.isAgg36 Tryz.sizeOf36 rfl rfl)) (vC (vc_call0 (G := fun β => [(13, (aG (ptL b))), (15, (aG (fracL y)))]) (fun β => sF (by kernel_rfl)) (fun β => op_call0 (args := [(aG (ptL b)), (aG (fracL y))]) rfl rfl Tryz.call64) (fun β w hw => pScale_ok b y (by omega) w)) (vC (vc_call0 (G := fun β => [(12, (aG (ptL (scaleP a x)))), (16, (aG (ptL (scaleP b y))))]) (fun β => sF (by kernel_rfl)) (fun β => op_call0 (args := [(aG (ptL (scaleP a x))), (aG (ptL (scaleP b y)))]) rfl rfl Tryz.call38) (fun β w hw => pAdd_ok (scaleP a x) (scaleP b y) (by omega) w)) (vC (vc_held0 (G := fun β => [(6, (pP b3 0))]) (fun β => sF (by kernel_rfl)) (fun β => ex_load_agg (i := 1) (vs := ptL c) rfl rfl Tryz.isAgg38 Tryz.sizeOf38 rfl rfl)) (vC (vc_pure0 (G := fun β => [(7, (pP b4 0))]) (fun β => sF (by kernel_rfl)) (fun β _ => ex_indexAddr_array (j := 2) rfl rfl Tryz.underlying56 Tryz.sizeOf36 rfl (by decide) rfl)) (vC (vc_held0 (G := fun β => [(19, (pP b4 10))]) (fun β => sF (by kernel_rfl)) (fun β => ex_load_agg (i := 0) (vs := fracL z) rfl rfl Tryz.isAgg36 Tryz.sizeOf36 rfl rfl)) (vC (vc_call0 (G := fun β => [(18, (aG (ptL c))), (20, (aG (fracL z)))]) (fun β => sF (by kernel_rfl)) (fun β => op_call0 (args := [(aG (ptL c)), (aG (fracL z))]) rfl rfl Tryz.call64) (fun β w hw => pScale_ok c z (by omega) w)) (vC (vc_call0 (G := fun β => [(17, (aG (ptL ((scaleP a x) + (scaleP b y))))), (21, (aG (ptL (scaleP c z))))]) (fun β => sF (by kernel_rfl)) (fun β => op_call0 (args := [(aG (ptL ((scaleP a x) + (scaleP b y)))), (aG (ptL (scaleP c z)))]) rfl rfl Tryz.call38) (fun β w hw => pAdd_ok ((scaleP a x) + (scaleP b y)) (scaleP c z) (by omega) w)) (VcAll.nil))))))))))))))) (fun β => ?_)
  refine OkLH.sub (F' := [(8, (pP b5 0)), (22, (aG (ptL (((scaleP a x) + (scaleP b y)) + (scaleP c z)))))]) (L' := [blk b5 38 (ptL (⟨0, 0⟩ : Pt)), blk b4 56 (fracL x ++ fracL y ++ fracL z), blk b3 38 (ptL c), blk b2 38 (ptL b), blk b1 38 (ptL a)]) (sF rfl) (List.Sublist.refl _) ?_
  refine OkLH.store' (i := 0) (off := 0) (vs := ptL (((scaleP a x) + (scaleP b y)) + (scaleP c z))) (cs' := ptL (((scaleP a x) + (scaleP b y)) + (scaleP c z))) (L' := [blk b5 38 (ptL (((scaleP a x) + (scaleP b y)) + (scaleP c z))), blk b4 56 (fracL x ++ fracL y ++ fracL z), blk b3 38 (ptL c), blk b2 38 (ptL b), blk b1 38 (ptL a)]) (List.Sublist.cons _ (List.Sublist.refl _)) (wt_none rfl) rfl rfl rfl rfl rfl Tryz.sizeOf38 rfl rfl rfl rfl ?_
  refine OkLH.nil ?_
  refine OkQ.subF (sC 8 rfl (sN)) ?_
  refine OkQ.then_ ?_
  refine OkC.ret ?_
  exact ret_one rfl (rd_agg (i := 0) (cs := ptL (((scaleP a x) + (scaleP b y)) + (scaleP c z))) rfl rfl Tryz.isAgg38 Tryz.sizeOf38 rfl) (fun w hw => ⟨rfl, hw.out⟩)

theorem fill_numo_56_0fracL_1fracL_2fracL (x0 : Rat) (x1 : Rat) (x2 : Rat) : Instr.fill (fun i => some (i * 5, 5)) (fracL (0 : Rat) ++ fracL (0 : Rat) ++ fracL (0 : Rat)).toArray [(0, .agg (fracL x0).toArray), (1, .agg (fracL x1).toArray), (2, .agg (fracL x2).toArray)] = some (fracL x0 ++ fracL x1 ++ fracL x2).toArray := by kernel_rfl
theorem Bary_ok (a b c p : Pt) (hs : SzP a + SzP b + SzP c + SzP p ≤ 268435456) (h : turnP a b c ≠ 0) (w : World)  : Calls Tryz.prog 26 #[(aG (ptL a)), (aG (ptL b)), (aG (ptL c)), (aG (ptL p))] w (Gives w (Value.tuple #[(aG (fracL (turnP p b c / turnP a b c) ++ fracL (turnP a p c / turnP a b c) ++ fracL (turnP a b p / turnP a b c))), (vI 0)])) := by
  refine calls_of (args := [(aG (ptL a)), (aG (ptL b)), (aG (ptL c)), (aG (ptL p))]) Tryz.func26 rfl rfl (leB rfl) ?_
  refine OkC.subF (sC 0 rfl (sC 1 rfl (sC 2 rfl (sC 3 rfl (sN))))) ?_
  refine q4 ?_
  refine OkL.open_ (T := 38) (cs := ptL a) (wt_none rfl) (op_box (cs := ptL a) rfl rfl) rfl (leB rfl) ?_; intro b1
  refine OkL.open_ (T := 38) (cs := ptL b) (wt_none rfl) (op_box (cs := ptL b) rfl rfl) rfl (leB rfl) ?_; intro b2
  refine OkL.open_ (T := 38) (cs := ptL c) (wt_none rfl) (op_box (cs := ptL c) rfl rfl) rfl (leB rfl) ?_; intro b3
  refine OkL.open_ (T := 38) (cs := ptL p) (wt_none rfl) (op_box (cs := ptL p) rfl rfl) rfl (leB rfl) ?_; intro b4
  refine OkL.open_ (T := 56) (cs := fracL (0 : Rat) ++ fracL (0 : Rat) ++ fracL (0 : Rat)) (wt_none rfl) (op_alloc (cs := fracL (0 : Rat) ++ fracL (0 : Rat) ++ fracL (0 : Rat)) Tryz.zeroValue56 rfl) rfl (leB rfl) ?_; intro b5
  refine st (ex_assign rfl) (leB rfl) ?_
  refine q3 (sC 4 rfl (sC 5 rfl (sC 6 rfl (sC 7 rfl (sC 8 rfl (sC 9 rfl (sN))))))) ?_
  refine st (ex_load_agg (i := 4) (vs := ptL a) rfl rfl Tryz.isAgg38 Tryz.sizeOf38 rfl rfl) (leB rfl) ?_
  refine st (ex_load_agg (i := 3) (vs := ptL b) rfl rfl Tryz.isAgg38 Tryz.sizeOf38 rfl rfl) (leB rfl) ?_
  refine st (ex_load_agg (i := 2) (vs := ptL c) rfl rfl Tryz.isAgg38 Tryz.sizeOf38 rfl rfl) (leB rfl) ?_
  have hz1 := Sz_turn a b c
  refine OkL.call (v := (aG (fracL (turnP a b c)))) (wt_none rfl) (op_call0 (args := [(aG (ptL a)), (aG (ptL b)), (aG (ptL c))]) rfl rfl Tryz.call53) (fun w hw => twice_ok a b c (by omega) w) rfl (leB rfl) ?_
  refine OkL.open_ (T := 36) (cs := fracL (0 : Rat)) (wt_none rfl) (op_alloc (cs := fracL (0 : Rat)) Tryz.zeroValue36 rfl) rfl (leB rfl) ?_; intro b6
  refine OkL.store' (i := 0) (off := 0) (vs := fracL (turnP a b c)) (cs' := fracL (turnP a b c)) (L' := [blk b6 36 (fracL (turnP a b c)), blk b5 56 (fracL (0 : Rat) ++ fracL (0 : Rat) ++ fracL (0 : Rat)), blk b4 38 (ptL p), blk b3 38 (ptL c), blk b2 38 (ptL b), blk b1 38 (ptL a)]) (wt_none rfl) rfl rfl rfl rfl rfl Tryz.sizeOf36 rfl rfl rfl rfl ?_
  refine q6 (sC 4 rfl (sC 5 rfl (sC 6 rfl (sC 7 rfl (sC 8 rfl (sC 9 rfl (sC 10 rfl (sN)))))))) ?_
  have hz2 := Sz_turn p b c
  have hz3 := Sz_turn a p c
  have hz4 := Sz_turn a b p
  refine OkC.drawn' (specs := [⟨.held, fun _ => (aG (ptL p)), [], 0, []⟩, ⟨.held, fun _ => (aG (ptL b)), [], 0, []⟩, ⟨.held, fun _ => (aG (ptL c)), [], 0, []⟩, ⟨.call, fun _ => (aG (fracL (turnP p b c))), [], 0, []⟩, ⟨.held, fun _ => (aG (ptL a)), [], 0, []⟩, ⟨.held, fun _ => (aG (ptL p)), [], 0, []⟩, ⟨.held, fun _ => (aG (ptL c)), [], 0, []⟩, ⟨.call, fun _ => (aG (fracL (turnP a p c))), [], 0, []⟩, ⟨.held, fun _ => (aG (ptL a)), [], 0, []⟩, ⟨.held, fun _ => (aG (ptL b)), [], 0, []⟩, ⟨.held, fun _ => (aG (ptL p)), [], 0, []⟩, ⟨.call, fun _ => (aG (fracL (turnP a b p))), [], 0, []⟩, ⟨.pure, fun _ => (aG (fracL (turnP p b c) ++ fracL (turnP a p c) ++ fracL (turnP a b p))), [], 0, []⟩, ⟨.new, fun β => (pP (β 13) 0), [], 56, fracL (0 : Rat) ++ fracL (0 : Rat) ++ fracL (0 : Rat)⟩]) (by kernel_rfl) (fun hchk1 => ?_)
  refine dR (Lro := [blk b6 36 (fracL (turnP a b c)), blk b5 56 (fracL (0 : Rat) ++ fracL (0 : Rat) ++ fracL (0 : Rat)), blk b4 38 (ptL p), blk b3 38 (ptL c), blk b2 38 (ptL b), blk b1 38 (ptL a)]) (List.Sublist.refl _) (dC (dC (dC (dC (dC (dC (dC (dC (dC (dC (dC (dC (dC (DepAll.block (V := fun b => (Value.pointer (some ⟨b, 0, none⟩))) (dN))))))))))))))) hchk1 (by kernel_rfl) (fun _ _ d _ _ h => by cases d <;> exact h) (vC (vc_held0 (G := fun β => [(7, (pP b4 0))]) (fun β => sF (by kernel_rfl)) (fun β => ex_load_agg (i := 2) (vs := ptL p) rfl rfl Tryz.isAgg38 Tryz.sizeOf38 rfl rfl)) (vC (vc_held0 (G := fun β => [(5, (pP b2 0))]) (fun β => sF (by kernel_rfl)) (fun β => ex_load_agg (i := 4) (vs := ptL b) rfl rfl Tryz.isAgg38 Tryz.sizeOf38 rfl rfl)) (vC (vc_held0 (G := fun β => [(6, (pP b3 0))]) (fun β => sF (by kernel_rfl)) (fun β => ex_load_agg (i := 3) (vs := ptL c) rfl rfl Tryz.isAgg38 Tryz.sizeOf38 rfl rfl)) (vC (vc_call0 (G := fun β => [(19, (aG (ptL p))), (20, (aG (ptL b))), (21, (aG (ptL c)))]) (fun β => sF (by kernel_rfl)) (fun β => op_call0 (args := [(aG (ptL p)), (aG (ptL b)), (aG (ptL c))]) rfl rfl Tryz.call53) (fun β w hw => twice_ok p b c (by omega) w)) (vC (vc_held0 (G := fun β => [(4, (pP b1 0))]) (fun β => sF (by kernel_rfl)) (fun β => ex_load_agg (i := 5) (vs := ptL a) rfl rfl Tryz.isAgg38 Tryz.sizeOf38 rfl rfl)) (vC (vc_held0 (G := fun β => [(7, (pP b4 0))]) (fun β => sF (by kernel_rfl)) (fun β => ex_load_agg (i := 2) (vs := ptL p) rfl rfl Tryz.isAgg38 Tryz.sizeOf38 rfl rfl)) (vC (vc_held0 (G := fun β => [(6, (pP b3 0))]) (fun β => sF (by kernel_rfl)) (fun β => ex_load_agg (i := 3) (vs := ptL c) rfl rfl Tryz.isAgg38 Tryz.sizeOf38 rfl rfl)) (vC (vc_call0 (G := fun β => [(23, (aG (ptL a))), (24, (aG (ptL p))), (25, (aG (ptL c)))]) (fun β => sF (by kernel_rfl)) (fun β => op_call0 (args := [(aG (ptL a)), (aG (ptL p)), (aG (ptL c))]) rfl rfl Tryz.call53) (fun β w hw => twice_ok a p c (by omega) w)) (vC (vc_held0 (G := fun β => [(4, (pP b1 0))]) (fun β => sF (by kernel_rfl)) (fun β => ex_load_agg (i := 5) (vs := ptL a) rfl rfl Tryz.isAgg38 Tryz.sizeOf38 rfl rfl)) (vC (vc_held0 (G := fun β => [(5, (pP b2 0))]) (fun β => sF (by kernel_rfl)) (fun β => ex_load_agg (i := 4) (vs := ptL b) rfl rfl Tryz.isAgg38 Tryz.sizeOf38 rfl rfl)) (vC (vc_held0 (G := fun β => [(7, (pP b4 0))]) (fun β => sF (by kernel_rfl)) (fun β => ex_load_agg (i := 2) (vs := ptL p) rfl rfl Tryz.isAgg38 Tryz.sizeOf38 rfl rfl)) (vC (vc_call0 (G := fun β => [(27, (aG (ptL a))), (28, (aG (ptL b))), (29, (aG (ptL p)))]) (fun β => sF (by kernel_rfl)) (fun β => op_call0 (args := [(aG (ptL a)), (aG (ptL b)), (aG (ptL p))]) rfl rfl Tryz.call53) (fun β w hw => twice_ok a b p (by omega) w)) (vC (vc_pure0 (G := fun β => [(22, (aG (fracL (turnP p b c)))), (26, (aG (fracL (turnP a p c)))), (30, (aG (fracL (turnP a b p))))]) (fun β => sF (by kernel_rfl)) (fun β _ => ex_build_array (zs := fracL (0 : Rat) ++ fracL (0 : Rat) ++ fracL (0 : Rat)) (vs := fracL (turnP p b c) ++ fracL (turnP a p c) ++ fracL (turnP a b p)) (pv := [(0, (aG (fracL (turnP p b c)))), (1, (aG (fracL (turnP a p c)))), (2, (aG (fracL (turnP a b p))))]) Tryz.zeroValue56 Tryz.underlying56 Tryz.sizeOf36 rfl (fill_numo_56_0fracL_1fracL_2fracL (turnP p b c) (turnP a p c) (turnP a b p)))) (vC (vc_new0 (V := fun b => (Value.pointer (some ⟨b, 0, none⟩))) (j := 13) (one_place hchk1 rfl rfl rfl) (G := fun β => []) (fun β => sN) (fun β => op_alloc (cs := fracL (0 : Rat) ++ fracL (0 : Rat) ++ fracL (0 : Rat)) Tryz.zeroValue56 rfl)) (VcAll.nil))))))))))))))) (fun β => ?_)
  clear hchk1
  refine OkLH.sub (F' := [(4, (pP b1 0)), (5, (pP b2 0)), (6, (pP b3 0)), (8, (pP b5 0)), (9, (vI 0)), (10, (pP b6 0)), (31, (aG (fracL (turnP p b c) ++ fracL (turnP a p c) ++ fracL (turnP a b p)))), (11, (pP (β 13) 0))]) (L' := [blk (β 13) 56 (fracL (0 : Rat) ++ fracL (0 : Rat) ++ fracL (0 : Rat)), blk b6 36 (fracL (turnP a b c)), blk b5 56 (fracL (0 : Rat) ++ fracL (0 : Rat) ++ fracL (0 : Rat)), blk b4 38 (ptL p), blk b3 38 (ptL c), blk b2 38 (ptL b), blk b1 38 (ptL a)]) (sF rfl) (List.Sublist.refl _) ?_
  generalize β 13 = b7
  refine OkLH.store' (i := 0) (off := 0) (vs := fracL (turnP p b c) ++ fracL (turnP a p c) ++ fracL (turnP a b p)) (cs' := fracL (turnP p b c) ++ fracL (turnP a p c) ++ fracL (turnP a b p)) (L' := [blk b7 56 (fracL (turnP p b c) ++ fracL (turnP a p c) ++ fracL (turnP a b p)), blk b6 36 (fracL (turnP a b c)), blk b5 56 (fracL (0 : Rat) ++ fracL (0 : Rat) ++ fracL (0 : Rat)), blk b4 38 (ptL p), blk b3 38 (ptL c), blk b2 38 (ptL b), blk b1 38 (ptL a)]) (List.Sublist.cons _ (List.Sublist.refl _)) (wt_none rfl) rfl rfl rfl rfl rfl Tryz.sizeOf56 rfl rfl rfl rfl ?_
  refine q7 (sC 4 rfl (sC 5 rfl (sC 6 rfl (sC 8 rfl (sC 9 rfl (sC 10 rfl (sC 11 rfl (sN)))))))) ?_
  refine q4 ?_
  refine st (ex_move rfl) (leB rfl) ?_
  refine OkL.nil ?_
  refine OkQ.then_ ?_
  refine OkC.block ?_
  refine OkC.unroll 5 ?_
  refine OkR.step ?_
  refine q4 ?_
  refine st (ex_lss (c := true) rfl rfl (by decide)) (leB rfl) ?_
  refine OkL.nil ?_
  refine q1 ?_
  refine OkC.cond_true rfl ?_
  refine OkC.skip ?_
  refine q1 ?_
  refine OkC.block ?_
  refine q4 ?_
  refine st (ex_move rfl) (leB rfl) ?_
  refine st (ex_assign rfl) (leB rfl) ?_
  refine OkL.nil ?_
  refine q1 ?_
  have hz5 := Sz_div (a := turnP p b c) (b := turnP a b c) (by assumption)
  refine OkC.drawn' (specs := [⟨.pure, fun _ => (vI 0), [], 0, []⟩, ⟨.pure, fun _ => (pP b7 0), [], 0, []⟩, ⟨.held, fun _ => (aG (fracL (turnP p b c))), [], 0, []⟩, ⟨.held, fun _ => (aG (fracL (turnP a b c))), [], 0, []⟩, ⟨.call, fun _ => (Value.tuple #[(aG (fracL ((turnP p b c) / (turnP a b c)))), (vI 0)]), [], 0, []⟩, ⟨.pure, fun _ => (Value.tuple #[(aG (fracL ((turnP p b c) / (turnP a b c)))), (vI 0)]), [], 0, []⟩, ⟨.pure, fun _ => (aG (fracL ((turnP p b c) / (turnP a b c)))), [], 0, []⟩, ⟨.pure, fun _ => (vI 0), [], 0, []⟩, ⟨.new, fun β => (pP (β 8) 0), [], 36, fracL (0 : Rat)⟩]) (by kernel_rfl) (fun hchk2 => ?_)
  refine dR (Lro := [blk b7 56 (fracL (turnP p b c) ++ fracL (turnP a p c) ++ fracL (turnP a b p)), blk b6 36 (fracL (turnP a b c)), blk b5 56 (fracL (0 : Rat) ++ fracL (0 : Rat) ++ fracL (0 : Rat)), blk b4 38 (ptL p), blk b3 38 (ptL c), blk b2 38 (ptL b), blk b1 38 (ptL a)]) (List.Sublist.refl _) (dC (dC (dC (dC (dC (dC (dC (dC (DepAll.block (V := fun b => (Value.pointer (some ⟨b, 0, none⟩))) (dN)))))))))) hchk2 (by kernel_rfl) (fun _ _ d _ _ h => by cases d <;> exact h) (vC (vc_pure0 (G := fun β => [(12, (vI 0))]) (fun β => sF (by kernel_rfl)) (fun β _ => ex_move rfl)) (vC (vc_pure0 (G := fun β => [(11, (pP b7 0)), (36, (vI 0))]) (fun β => sF (by kernel_rfl)) (fun β _ => ex_indexAddr_array (j := 0) rfl rfl Tryz.underlying56 Tryz.sizeOf36 rfl (by decide) rfl)) (vC (vc_held0 (G := fun β => [(37, (pP b7 0))]) (fun β => sF (by kernel_rfl)) (fun β => ex_load_agg (i := 0) (vs := fracL (turnP p b c)) rfl rfl Tryz.isAgg36 Tryz.sizeOf36 rfl rfl)) (vC (vc_held0 (G := fun β => [(10, (pP b6 0))]) (fun β => sF (by kernel_rfl)) (fun β => ex_load_agg (i := 1) (vs := fracL (turnP a b c)) rfl rfl Tryz.isAgg36 Tryz.sizeOf36 rfl rfl)) (vC (vc_call0 (G := fun β => [(38, (aG (fracL (turnP p b c)))), (39, (aG (fracL (turnP a b c))))]) (fun β => sF (by kernel_rfl)) (fun β => op_call0 (args := [(aG (fracL (turnP p b c))), (aG (fracL (turnP a b c)))]) rfl rfl Tryz.call54) (fun β w hw => fDiv_ok (turnP p b c) (turnP a b c) (by omega) (by assumption) w)) (vC (vc_pure0 (G := fun β => [(40, (Value.tuple #[(aG (fracL ((turnP p b c) / (turnP a b c)))), (vI 0)]))]) (fun β => sF (by kernel_rfl)) (fun β _ => ex_move rfl)) (vC (vc_pure0 (G := fun β => [(35, (Value.tuple #[(aG (fracL ((turnP p b c) / (turnP a b c)))), (vI 0)]))]) (fun β => sF (by kernel_rfl)) (fun β _ => ex_extract (v := (aG (fracL ((turnP p b c) / (turnP a b c))))) rfl rfl)) (vC (vc_pure0 (G := fun β => [(35, (Value.tuple #[(aG (fracL ((turnP p b c) / (turnP a b c)))), (vI 0)]))]) (fun β => sF (by kernel_rfl)) (fun β _ => ex_extract (v := (vI 0)) rfl rfl)) (vC (vc_new0 (V := fun b => (Value.pointer (some ⟨b, 0, none⟩))) (j := 8) (one_place hchk2 rfl rfl rfl) (G := fun β => []) (fun β => sN) (fun β => op_alloc (cs := fracL (0 : Rat)) Tryz.zeroValue36 rfl)) (VcAll.nil)))))))))) (fun β => ?_)
  clear hchk2
  refine OkLH.sub (F' := [(4, (pP b1 0)), (5, (pP b2 0)), (6, (pP b3 0)), (8, (pP b5 0)), (9, (vI 0)), (10, (pP b6 0)), (11, (pP b7 0)), (32, (vI 0)), (33, (Value.bool true)), (34, (vI 0)), (12, (vI 0)), (36, (vI 0)), (37, (pP b7 0)), (38, (aG (fracL (turnP p b c)))), (39, (aG (fracL (turnP a b c)))), (40, (Value.tuple #[(aG (fracL ((turnP p b c) / (turnP a b c)))), (vI 0)])), (35, (Value.tuple #[(aG (fracL ((turnP p b c) / (turnP a b c)))), (vI 0)])), (41, (aG (fracL ((turnP p b c) / (turnP a b c))))), (42, (vI 0)), (13, (pP (β 8) 0))]) (L' := [blk (β 8) 36 (fracL (0 : Rat)), blk b7 56 (fracL (turnP p b c) ++ fracL (turnP a p c) ++ fracL (turnP a b p)), blk b6 36 (fracL (turnP a b c)), blk b5 56 (fracL (0 : Rat) ++ fracL (0 : Rat) ++ fracL (0 : Rat)), blk b4 38 (ptL p), blk b3 38 (ptL c), blk b2 38 (ptL b), blk b1 38 (ptL a)]) (sF rfl) (List.Sublist.refl _) ?_
  generalize β 8 = b8
  refine OkLH.store' (i := 0) (off := 0) (vs := fracL ((turnP p b c) / (turnP a b c))) (cs' := fracL ((turnP p b c) / (turnP a b c))) (L' := [blk b8 36 (fracL ((turnP p b c) / (turnP a b c))), blk b7 56 (fracL (turnP p b c) ++ fracL (turnP a p c) ++ fracL (turnP a b p)), blk b6 36 (fracL (turnP a b c)), blk b5 56 (fracL (0 : Rat) ++ fracL (0 : Rat) ++ fracL (0 : Rat)), blk b4 38 (ptL p), blk b3 38 (ptL c), blk b2 38 (ptL b), blk b1 38 (ptL a)]) (List.Sublist.cons _ (List.Sublist.refl _)) (wt_none rfl) rfl rfl rfl rfl rfl Tryz.sizeOf36 rfl rfl rfl rfl ?_
  refine OkLH.step (v := (vI 0)) (List.Sublist.cons _ (List.Sublist.refl _)) (wt_none rfl) (ex_assign rfl) rfl (leB rfl) ?_
  refine OkLH.nil ?_
  refine q1 ?_
  refine q4 ?_
  refine st (ex_move rfl) (leB rfl) ?_
  refine st (ex_neq (c := false) rfl rfl (by decide)) (leB rfl) ?_
  refine OkL.nil ?_
  refine OkQ.then_ ?_
  refine OkC.cond_false rfl ?_
  refine OkC.skip ?_
  refine OkQ.then_ ?_
  refine OkC.region ?_
  refine st (ex_move rfl) (leB rfl) ?_
  refine st (ex_load_agg (i := 0) (vs := fracL ((turnP p b c) / (turnP a b c))) rfl rfl Tryz.isAgg36 Tryz.sizeOf36 rfl rfl) (leB rfl) ?_
  refine st (v := (pP b7 0)) (ex_indexAddr_array (j := 0) rfl rfl Tryz.underlying56 Tryz.sizeOf36 rfl (by decide) rfl) (leB rfl) ?_
  refine OkL.store' (i := 1) (off := 0) (vs := fracL ((turnP p b c) / (turnP a b c))) (cs' := fracL ((turnP p b c) / (turnP a b c)) ++ fracL (turnP a p c) ++ fracL (turnP a b p)) (L' := [blk b8 36 (fracL ((turnP p b c) / (turnP a b c))), blk b7 56 (fracL ((turnP p b c) / (turnP a b c)) ++ fracL (turnP a p c) ++ fracL (turnP a b p)), blk b6 36 (fracL (turnP a b c)), blk b5 56 (fracL (0 : Rat) ++ fracL (0 : Rat) ++ fracL (0 : Rat)), blk b4 38 (ptL p), blk b3 38 (ptL c), blk b2 38 (ptL b), blk b1 38 (ptL a)]) (wt_none rfl) rfl rfl rfl rfl rfl Tryz.sizeOf36 rfl rfl rfl rfl ?_
  refine OkL.nil ?_
  refine OkQ.in_normal ?_
  refine OkQ.then_ ?_
  refine OkC.region ?_
  refine st (ex_add (c := (1 : Int)) rfl rfl (by decide)) (leB rfl) ?_
  refine st (ex_move rfl) (leB rfl) ?_
  refine OkL.nil ?_
  refine OkQ.again ?_
  refine OkR.step ?_
  refine q4 ?_
  refine st (ex_lss (c := true) rfl rfl (by decide)) (leB rfl) ?_
  refine OkL.nil ?_
  refine q1 ?_
  refine OkC.cond_true rfl ?_
  refine OkC.skip ?_
  refine q1 ?_
  refine OkC.block ?_
  refine q4 ?_
  refine st (ex_move rfl) (leB rfl) ?_
  refine st (ex_assign rfl) (leB rfl) ?_
  refine OkL.nil ?_
  refine q1 ?_
  refine OkC.subF (sC 4 rfl (sC 5 rfl (sC 6 rfl (sC 8 rfl (sC 9 rfl (sC 10 rfl (sC 11 rfl (sC 32 rfl (sC 33 rfl (sC 34 rfl (sC 12 rfl (sC 14 rfl (sC 43 rfl (sC 44 rfl (sC 46 rfl (sC 47 rfl (sC 48 rfl (sC 49 rfl (sN))))))))))))))))))) ?_
  have hz6 := Sz_div (a := turnP a p c) (b := turnP a b c) (by assumption)
  refine OkC.drawn' (specs := [⟨.pure, fun _ => (vI 1), [], 0, []⟩, ⟨.pure, fun _ => (pP b7 5), [], 0, []⟩, ⟨.held, fun _ => (aG (fracL (turnP a p c))), [], 0, []⟩, ⟨.held, fun _ => (aG (fracL (turnP a b c))), [], 0, []⟩, ⟨.call, fun _ => (Value.tuple #[(aG (fracL ((turnP a p c) / (turnP a b c)))), (vI 0)]), [], 0, []⟩, ⟨.pure, fun _ => (Value.tuple #[(aG (fracL ((turnP a p c) / (turnP a b c)))), (vI 0)]), [], 0, []⟩, ⟨.pure, fun _ => (aG (fracL ((turnP a p c) / (turnP a b c)))), [], 0, []⟩, ⟨.pure, fun _ => (vI 0), [], 0, []⟩, ⟨.new, fun β => (pP (β 8) 0), [], 36, fracL (0 : Rat)⟩]) (by kernel_rfl) (fun hchk3 => ?_)
  refine dR (Lro := [blk b8 36 (fracL ((turnP p b c) / (turnP a b c))), blk b7 56 (fracL ((turnP p b c) / (turnP a b c)) ++ fracL (turnP a p c) ++ fracL (turnP a b p)), blk b6 36 (fracL (turnP a b c)), blk b5 56 (fracL (0 : Rat) ++ fracL (0 : Rat) ++ fracL (0 : Rat)), blk b4 38 (ptL p), blk b3 38 (ptL c), blk b2 38 (ptL b), blk b1 38 (ptL a)]) (List.Sublist.refl _) (dC (dC (dC (dC (dC (dC (dC (dC (DepAll.block (V := fun b => (Value.pointer (some ⟨b, 0, none⟩))) (dN)))))))))) hchk3 (by kernel_rfl) (fun _ _ d _ _ h => by cases d <;> exact h) (vC (vc_pure0 (G := fun β => [(12, (vI 1))]) (fun β => sF (by kernel_rfl)) (fun β _ => ex_move rfl)) (vC (vc_pure0 (G := fun β => [(11, (pP b7 0)), (36, (vI 1))]) (fun β => sF (by kernel_rfl)) (fun β _ => ex_indexAddr_array (j := 1) rfl rfl Tryz.underlying56 Tryz.sizeOf36 rfl (by decide) rfl)) (vC (vc_held0 (G := fun β => [(37, (pP b7 5))]) (fun β => sF (by kernel_rfl)) (fun β => ex_load_agg (i := 1) (vs := fracL (turnP a p c)) rfl rfl Tryz.isAgg36 Tryz.sizeOf36 rfl rfl)) (vC (vc_held0 (G := fun β => [(10, (pP b6 0))]) (fun β => sF (by kernel_rfl)) (fun β => ex_load_agg (i := 2) (vs := fracL (turnP a b c)) rfl rfl Tryz.isAgg36 Tryz.sizeOf36 rfl rfl)) (vC (vc_call0 (G := fun β => [(38, (aG (fracL (turnP a p c)))), (39, (aG (fracL (turnP a b c))))]) (fun β => sF (by kernel_rfl)) (fun β => op_call0 (args := [(aG (fracL (turnP a p c))), (aG (fracL (turnP a b c)))]) rfl rfl Tryz.call54) (fun β w hw => fDiv_ok (turnP a p c) (turnP a b c) (by omega) (by assumption) w)) (vC (vc_pure0 (G := fun β => [(40, (Value.tuple #[(aG (fracL ((turnP a p c) / (turnP a b c)))), (vI 0)]))]) (fun β => sF (by kernel_rfl)) (fun β _ => ex_move rfl)) (vC (vc_pure0 (G := fun β => [(35, (Value.tuple #[(aG (fracL ((turnP a p c) / (turnP a b c)))), (vI 0)]))]) (fun β => sF (by kernel_rfl)) (fun β _ => ex_extract (v := (aG (fracL ((turnP a p c) / (turnP a b c))))) rfl rfl)) (vC (vc_pure0 (G := fun β => [(35, (Value.tuple #[(aG (fracL ((turnP a p c) / (turnP a b c)))), (vI 0)]))]) (fun β => sF (by kernel_rfl)) (fun β _ => ex_extract (v := (vI 0)) rfl rfl)) (vC (vc_new0 (V := fun b => (Value.pointer (some ⟨b, 0, none⟩))) (j := 8) (one_place hchk3 rfl rfl rfl) (G := fun β => []) (fun β => sN) (fun β => op_alloc (cs := fracL (0 : Rat)) Tryz.zeroValue36 rfl)) (VcAll.nil)))))))))) (fun β => ?_)
  clear hchk3
  refine OkLH.sub (F' := [(4, (pP b1 0)), (5, (pP b2 0)), (6, (pP b3 0)), (8, (pP b5 0)), (9, (vI 0)), (10, (pP b6 0)), (11, (pP b7 0)), (32, (vI 1)), (33, (Value.bool true)), (34, (vI 1)), (12, (vI 1)), (14, (vI 0)), (43, (vI 0)), (44, (Value.bool false)), (46, (vI 0)), (47, (aG (fracL ((turnP p b c) / (turnP a b c))))), (48, (pP b7 0)), (49, (vI 1)), (36, (vI 1)), (37, (pP b7 5)), (38, (aG (fracL (turnP a p c)))), (39, (aG (fracL (turnP a b c)))), (40, (Value.tuple #[(aG (fracL ((turnP a p c) / (turnP a b c)))), (vI 0)])), (35, (Value.tuple #[(aG (fracL ((turnP a p c) / (turnP a b c)))), (vI 0)])), (41, (aG (fracL ((turnP a p c) / (turnP a b c))))), (42, (vI 0)), (13, (pP (β 8) 0))]) (L' := [blk (β 8) 36 (fracL (0 : Rat)), blk b8 36 (fracL ((turnP p b c) / (turnP a b c))), blk b7 56 (fracL ((turnP p b c) / (turnP a b c)) ++ fracL (turnP a p c) ++ fracL (turnP a b p)), blk b6 36 (fracL (turnP a b c)), blk b5 56 (fracL (0 : Rat) ++ fracL (0 : Rat) ++ fracL (0 : Rat)), blk b4 38 (ptL p), blk b3 38 (ptL c), blk b2 38 (ptL b), blk b1 38 (ptL a)]) (sF rfl) (List.Sublist.refl _) ?_
  generalize β 8 = b9
  refine OkLH.store' (i := 0) (off := 0) (vs := fracL ((turnP a p c) / (turnP a b c))) (cs' := fracL ((turnP a p c) / (turnP a b c))) (L' := [blk b9 36 (fracL ((turnP a p c) / (turnP a b c))), blk b8 36 (fracL ((turnP p b c) / (turnP a b c))), blk b7 56 (fracL ((turnP p b c) / (turnP a b c)) ++ fracL (turnP a p c) ++ fracL (turnP a b p)), blk b6 36 (fracL (turnP a b c)), blk b5 56 (fracL (0 : Rat) ++ fracL (0 : Rat) ++ fracL (0 : Rat)), blk b4 38 (ptL p), blk b3 38 (ptL c), blk b2 38 (ptL b), blk b1 38 (ptL a)]) (List.Sublist.cons _ (List.Sublist.refl _)) (wt_none rfl) rfl rfl rfl rfl rfl Tryz.sizeOf36 rfl rfl rfl rfl ?_
  refine OkLH.step (v := (vI 0)) (List.Sublist.cons _ (List.Sublist.refl _)) (wt_none rfl) (ex_assign rfl) rfl (leB rfl) ?_
  refine OkLH.nil ?_
  refine q1 ?_
  refine q4 ?_
  refine st (ex_move rfl) (leB rfl) ?_
  refine st (ex_neq (c := false) rfl rfl (by decide)) (leB rfl) ?_
  refine OkL.nil ?_
  refine OkQ.then_ ?_
  refine OkC.cond_false rfl ?_
  refine OkC.skip ?_
  refine OkQ.then_ ?_
  refine OkC.region ?_
  refine st (ex_move rfl) (leB rfl) ?_
  refine st (ex_load_agg (i := 0) (vs := fracL ((turnP a p c) / (turnP a b c))) rfl rfl Tryz.isAgg36 Tryz.sizeOf36 rfl rfl) (leB rfl) ?_
  refine st (v := (pP b7 5)) (ex_indexAddr_array (j := 1) rfl rfl Tryz.underlying56 Tryz.sizeOf36 rfl (by decide) rfl) (leB rfl) ?_
  refine OkL.store' (i := 2) (off := 5) (vs := fracL ((turnP a p c) / (turnP a b c))) (cs' := fracL ((turnP p b c) / (turnP a b c)) ++ fracL ((turnP a p c) / (turnP a b c)) ++ fracL (turnP a b p)) (L' := [blk b9 36 (fracL ((turnP a p c) / (turnP a b c))), blk b8 36 (fracL ((turnP p b c) / (turnP a b c))), blk b7 56 (fracL ((turnP p b c) / (turnP a b c)) ++ fracL ((turnP a p c) / (turnP a b c)) ++ fracL (turnP a b p)), blk b6 36 (fracL (turnP a b c)), blk b5 56 (fracL (0 : Rat) ++ fracL (0 : Rat) ++ fracL (0 : Rat)), blk b4 38 (ptL p), blk b3 38 (ptL c), blk b2 38 (ptL b), blk b1 38 (ptL a)]) (wt_none rfl) rfl rfl rfl rfl rfl Tryz.sizeOf36 rfl rfl rfl rfl ?_
  refine OkL.nil ?_
  refine OkQ.in_normal ?_
  refine OkQ.then_ ?_
  refine OkC.region ?_
  refine st (ex_add (c := (2 : Int)) rfl rfl (by decide)) (leB rfl) ?_
  refine st (ex_move rfl) (leB rfl) ?_
  refine OkL.nil ?_
  refine OkQ.again ?_
  refine OkR.step ?_
  refine q4 ?_
  refine st (ex_lss (c := true) rfl rfl (by decide)) (leB rfl) ?_
  refine OkL.nil ?_
  refine q1 ?_
  refine OkC.cond_true rfl ?_
  refine OkC.skip ?_
  refine q1 ?_
  refine OkC.block ?_
  refine q4 ?_
  refine st (ex_move rfl) (leB rfl) ?_
  refine st (ex_assign rfl) (leB rfl) ?_
  refine OkL.nil ?_
  refine q1 ?_
  refine OkC.subF (sC 4 rfl (sC 5 rfl (sC 6 rfl (sC 8 rfl (sC 9 rfl (sC 10 rfl (sC 11 rfl (sC 32 rfl (sC 33 rfl (sC 34 rfl (sC 12 rfl (sC 14 rfl (sC 43 rfl (sC 44 rfl (sC 46 rfl (sC 47 rfl (sC 48 rfl (sC 49 rfl (sN))))))))))))))))))) ?_
  have hz7 := Sz_div (a := turnP a b p) (b := turnP a b c) (by assumption)
  refine OkC.drawn' (specs := [⟨.pure, fun _ => (vI 2), [], 0, []⟩, ⟨.pure, fun _ => (pP b7 10), [], 0, []⟩, ⟨.held, fun _ => (aG (fracL (turnP a b p))), [], 0, []⟩, ⟨.held, fun _ => (aG (fracL (turnP a b c))), [], 0, []⟩, ⟨.call, fun _ => (Value.tuple #[(aG (fracL ((turnP a b p) / (turnP a b c)))), (vI 0)]), [], 0, []⟩, ⟨.pure, fun _ => (Value.tuple #[(aG (fracL ((turnP a b p) / (turnP a b c)))), (vI 0)]), [], 0, []⟩, ⟨.pure, fun _ => (aG (fracL ((turnP a b p) / (turnP a b c)))), [], 0, []⟩, ⟨.pure, fun _ => (vI 0), [], 0, []⟩, ⟨.new, fun β => (pP (β 8) 0), [], 36, fracL (0 : Rat)⟩]) (by kernel_rfl) (fun hchk4 => ?_)
  refine dR (Lro := [blk b9 36 (fracL ((turnP a p c) / (turnP a b c))), blk b8 36 (fracL ((turnP p b c) / (turnP a b c))), blk b7 56 (fracL ((turnP p b c) / (turnP a b c)) ++ fracL ((turnP a p c) / (turnP a b c)) ++ fracL (turnP a b p)), blk b6 36 (fracL (turnP a b c)), blk b5 56 (fracL (0 : Rat) ++ fracL (0 : Rat) ++ fracL (0 : Rat)), blk b4 38 (ptL p), blk b3 38 (ptL c), blk b2 38 (ptL b), blk b1 38 (ptL a)]) (List.Sublist.refl _) (dC (dC (dC (dC (dC (dC (dC (dC (DepAll.block (V := fun b => (Value.pointer (some ⟨b, 0, none⟩))) (dN)))))))))) hchk4 (by kernel_rfl) (fun _ _ d _ _ h => by cases d <;> exact h) (vC (vc_pure0 (G := fun β => [(12, (vI 2))]) (fun β => sF (by kernel_rfl)) (fun β _ => ex_move rfl)) (vC (vc_pure0 (G := fun β => [(11, (pP b7 0)), (36, (vI 2))]) (fun β => sF (by kernel_rfl)) (fun β _ => ex_indexAddr_array (j := 2) rfl rfl Tryz.underlying56 Tryz.sizeOf36 rfl (by decide) rfl)) (vC (vc_held0 (G := fun β => [(37, (pP b7 10))]) (fun β => sF (by kernel_rfl)) (fun β => ex_load_agg (i := 2) (vs := fracL (turnP a b p)) rfl rfl Tryz.isAgg36 Tryz.sizeOf36 rfl rfl)) (vC (vc_held0 (G := fun β => [(10, (pP b6 0))]) (fun β => sF (by kernel_rfl)) (fun β => ex_load_agg (i := 3) (vs := fracL (turnP a b c)) rfl rfl Tryz.isAgg36 Tryz.sizeOf36 rfl rfl)) (vC (vc_call0 (G := fun β => [(38, (aG (fracL (turnP a b p)))), (39, (aG (fracL (turnP a b c))))]) (fun β => sF (by kernel_rfl)) (fun β => op_call0 (args := [(aG (fracL (turnP a b p))), (aG (fracL (turnP a b c)))]) rfl rfl Tryz.call54) (fun β w hw => fDiv_ok (turnP a b p) (turnP a b c) (by omega) (by assumption) w)) (vC (vc_pure0 (G := fun β => [(40, (Value.tuple #[(aG (fracL ((turnP a b p) / (turnP a b c)))), (vI 0)]))]) (fun β => sF (by kernel_rfl)) (fun β _ => ex_move rfl)) (vC (vc_pure0 (G := fun β => [(35, (Value.tuple #[(aG (fracL ((turnP a b p) / (turnP a b c)))), (vI 0)]))]) (fun β => sF (by kernel_rfl)) (fun β _ => ex_extract (v := (aG (fracL ((turnP a b p) / (turnP a b c))))) rfl rfl)) (vC (vc_pure0 (G := fun β => [(35, (Value.tuple #[(aG (fracL ((turnP a b p) / (turnP a b c)))), (vI 0)]))]) (fun β => sF (by kernel_rfl)) (fun β _ => ex_extract (v := (vI 0)) rfl rfl)) (vC (vc_new0 (V := fun b => (Value.pointer (some ⟨b, 0, none⟩))) (j := 8) (one_place hchk4 rfl rfl rfl) (G := fun β => []) (fun β => sN) (fun β => op_alloc (cs := fracL (0 : Rat)) Tryz.zeroValue36 rfl)) (VcAll.nil)))))))))) (fun β => ?_)
  clear hchk4
  refine OkLH.sub (F' := [(4, (pP b1 0)), (5, (pP b2 0)), (6, (pP b3 0)), (8, (pP b5 0)), (9, (vI 0)), (10, (pP b6 0)), (11, (pP b7 0)), (32, (vI 2)), (33, (Value.bool true)), (34, (vI 2)), (12, (vI 2)), (14, (vI 0)), (43, (vI 0)), (44, (Value.bool false)), (46, (vI 1)), (47, (aG (fracL ((turnP a p c) / (turnP a b c))))), (48, (pP b7 5)), (49, (vI 2)), (36, (vI 2)), (37, (pP b7 10)), (38, (aG (fracL (turnP a b p)))), (39, (aG (fracL (turnP a b c)))), (40, (Value.tuple #[(aG (fracL ((turnP a b p) / (turnP a b c)))), (vI 0)])), (35, (Value.tuple #[(aG (fracL ((turnP a b p) / (turnP a b c)))), (vI 0)])), (41, (aG (fracL ((turnP a b p) / (turnP a b c))))), (42, (vI 0)), (13, (pP (β 8) 0))]) (L' := [blk (β 8) 36 (fracL (0 : Rat)), blk b9 36 (fracL ((turnP a p c) / (turnP a b c))), blk b8 36 (fracL ((turnP p b c) / (turnP a b c))), blk b7 56 (fracL ((turnP p b c) / (turnP a b c)) ++ fracL ((turnP a p c) / (turnP a b c)) ++ fracL (turnP a b p)), blk b6 36 (fracL (turnP a b c)), blk b5 56 (fracL (0 : Rat) ++ fracL (0 : Rat) ++ fracL (0 : Rat)), blk b4 38 (ptL p), blk b3 38 (ptL c), blk b2 38 (ptL b), blk b1 38 (ptL a)]) (sF rfl) (List.Sublist.refl _) ?_
  generalize β 8 = b10
  refine OkLH.store' (i := 0) (off := 0) (vs := fracL ((turnP a b p) / (turnP a b c))) (cs' := fracL ((turnP a b p) / (turnP a b c))) (L' := [blk b10 36 (fracL ((turnP a b p) / (turnP a b c))), blk b9 36 (fracL ((turnP a p c) / (turnP a b c))), blk b8 36 (fracL ((turnP p b c) / (turnP a b c))), blk b7 56 (fracL ((turnP p b c) / (turnP a b c)) ++ fracL ((turnP a p c) / (turnP a b c)) ++ fracL (turnP a b p)), blk b6 36 (fracL (turnP a b c)), blk b5 56 (fracL (0 : Rat) ++ fracL (0 : Rat) ++ fracL (0 : Rat)), blk b4 38 (ptL p), blk b3 38 (ptL c), blk b2 38 (ptL b), blk b1 38 (ptL a)]) (List.Sublist.cons _ (List.Sublist.refl _)) (wt_none rfl) rfl rfl rfl rfl rfl Tryz.sizeOf36 rfl rfl rfl rfl ?_
  refine OkLH.step (v := (vI 0)) (List.Sublist.cons _ (List.Sublist.refl _)) (wt_none rfl) (ex_assign rfl) rfl (leB rfl) ?_
  refine OkLH.nil ?_
  refine q1 ?_
  refine q4 ?_
  refine st (ex_move rfl) (leB rfl) ?_
  refine st (ex_neq (c := false) rfl rfl (by decide)) (leB rfl) ?_
  refine OkL.nil ?_
  refine OkQ.then_ ?_
  refine OkC.cond_false rfl ?_
  refine OkC.skip ?_
  refine OkQ.then_ ?_
  refine OkC.region ?_
  refine st (ex_move rfl) (leB rfl) ?_
  refine st (ex_load_agg (i := 0) (vs := fracL ((turnP a b p) / (turnP a b c))) rfl rfl Tryz.isAgg36 Tryz.sizeOf36 rfl rfl) (leB rfl) ?_
  refine st (v := (pP b7 10)) (ex_indexAddr_array (j := 2) rfl rfl Tryz.underlying56 Tryz.sizeOf36 rfl (by decide) rfl) (leB rfl) ?_
  refine OkL.store' (i := 3) (off := 10) (vs := fracL ((turnP a b p) / (turnP a b c))) (cs' := fracL ((turnP p b c) / (turnP a b c)) ++ fracL ((turnP a p c) / (turnP a b c)) ++ fracL ((turnP a b p) / (turnP a b c))) (L' := [blk b10 36 (fracL ((turnP a b p) / (turnP a b c))), blk b9 36 (fracL ((turnP a p c) / (turnP a b c))), blk b8 36 (fracL ((turnP p b c) / (turnP a b c))), blk b7 56 (fracL ((turnP p b c) / (turnP a b c)) ++ fracL ((turnP a p c) / (turnP a b c)) ++ fracL ((turnP a b p) / (turnP a b c))), blk b6 36 (fracL (turnP a b c)), blk b5 56 (fracL (0 : Rat) ++ fracL (0 : Rat) ++ fracL (0 : Rat)), blk b4 38 (ptL p), blk b3 38 (ptL c), blk b2 38 (ptL b), blk b1 38 (ptL a)]) (wt_none rfl) rfl rfl rfl rfl rfl Tryz.sizeOf36 rfl rfl rfl rfl ?_
  refine OkL.nil ?_
  refine OkQ.in_normal ?_
  refine OkQ.then_ ?_
  refine OkC.region ?_
  refine st (ex_add (c := (3 : Int)) rfl rfl (by decide)) (leB rfl) ?_
  refine st (ex_move rfl) (leB rfl) ?_
  refine OkL.nil ?_
  refine OkQ.again ?_
  refine OkR.step ?_
  refine q4 ?_
  refine st (ex_lss (c := false) rfl rfl (by decide)) (leB rfl) ?_
  refine OkL.nil ?_
  refine q1 ?_
  refine OkC.cond_false rfl ?_
  refine OkC.exit ?_
  refine OkQ.then_exit ?_
  refine OkQ.then_exit ?_
  refine OkQ.in_exit ?_
  refine q2 ?_
  refine st (ex_load_agg (i := 3) (vs := fracL ((turnP p b c) / (turnP a b c)) ++ fracL ((turnP a p c) / (turnP a b c)) ++ fracL ((turnP a b p) / (turnP a b c))) rfl rfl Tryz.isAgg56 Tryz.sizeOf56 rfl rfl) (leB rfl) ?_
  refine OkL.store' (i := 5) (off := 0) (vs := fracL ((turnP p b c) / (turnP a b c)) ++ fracL ((turnP a p c) / (turnP a b c)) ++ fracL ((turnP a b p) / (turnP a b c))) (cs' := fracL ((turnP p b c) / (turnP a b c)) ++ fracL ((turnP a p c) / (turnP a b c)) ++ fracL ((turnP a b p) / (turnP a b c))) (L' := [blk b10 36 (fracL ((turnP a b p) / (turnP a b c))), blk b9 36 (fracL ((turnP a p c) / (turnP a b c))), blk b8 36 (fracL ((turnP p b c) / (turnP a b c))), blk b7 56 (fracL ((turnP p b c) / (turnP a b c)) ++ fracL ((turnP a p c) / (turnP a b c)) ++ fracL ((turnP a b p) / (turnP a b c))), blk b6 36 (fracL (turnP a b c)), blk b5 56 (fracL ((turnP p b c) / (turnP a b c)) ++ fracL ((turnP a p c) / (turnP a b c)) ++ fracL ((turnP a b p) / (turnP a b c))), blk b4 38 (ptL p), blk b3 38 (ptL c), blk b2 38 (ptL b), blk b1 38 (ptL a)]) (wt_none rfl) rfl rfl rfl rfl rfl Tryz.sizeOf56 rfl rfl rfl rfl ?_
  refine st (ex_assign rfl) (leB rfl) ?_
  refine OkL.nil ?_
  refine OkQ.subF (sC 4 rfl (sC 5 rfl (sC 6 rfl (sC 8 rfl (sC 9 rfl (sC 10 rfl (sC 11 rfl (sC 32 rfl (sC 33 rfl (sC 34 rfl (sC 12 rfl (sC 14 rfl (sC 43 rfl (sC 44 rfl (sC 46 rfl (sC 47 rfl (sC 48 rfl (sC 49 rfl (sC 36 rfl (sC 37 rfl (sC 38 rfl (sC 39 rfl (sC 40 rfl (sC 35 rfl (sC 41 rfl (sC 42 rfl (sC 13 rfl (sN)))))))))))))))))))))))))))) ?_
  refine OkQ.then_ ?_
  refine OkC.ret ?_
  exact ret_two rfl (rd_agg (i := 5) (cs := fracL ((turnP p b c) / (turnP a b c)) ++ fracL ((turnP a p c) / (turnP a b c)) ++ fracL ((turnP a b p) / (turnP a b c))) rfl rfl Tryz.isAgg56 Tryz.sizeOf56 rfl) (rd_tmp (v := (vI 0)) rfl) (fun w hw => ⟨rfl, hw.out⟩)

theorem fill_numo_56_  : Instr.fill (fun i => some (i * 5, 5)) (fracL (0 : Rat) ++ fracL (0 : Rat) ++ fracL (0 : Rat)).toArray [] = some (fracL (0 : Rat) ++ fracL (0 : Rat) ++ fracL (0 : Rat)).toArray := by kernel_rfl
theorem Bary0_ok (a b c p : Pt) (hs : SzP a + SzP b + SzP c + SzP p ≤ 268435456) (h : turnP a b c = 0) (w : World)  : Calls Tryz.prog 26 #[(aG (ptL a)), (aG (ptL b)), (aG (ptL c)), (aG (ptL p))] w (Gives w (Value.tuple #[(aG (fracL (0 : Rat) ++ fracL (0 : Rat) ++ fracL (0 : Rat))), (vI 1)])) := by
  refine calls_of (args := [(aG (ptL a)), (aG (ptL b)), (aG (ptL c)), (aG (ptL p))]) Tryz.func26 rfl rfl (leB rfl) ?_
  refine OkC.subF (sC 0 rfl (sC 1 rfl (sC 2 rfl (sC 3 rfl (sN))))) ?_
  refine q4 ?_
  refine OkL.open_ (T := 38) (cs := ptL a) (wt_none rfl) (op_box (cs := ptL a) rfl rfl) rfl (leB rfl) ?_; intro b1
  refine OkL.open_ (T := 38) (cs := ptL b) (wt_none rfl) (op_box (cs := ptL b) rfl rfl) rfl (leB rfl) ?_; intro b2
  refine OkL.open_ (T := 38) (cs := ptL c) (wt_none rfl) (op_box (cs := ptL c) rfl rfl) rfl (leB rfl) ?_; intro b3
  refine OkL.open_ (T := 38) (cs := ptL p) (wt_none rfl) (op_box (cs := ptL p) rfl rfl) rfl (leB rfl) ?_; intro b4
  refine OkL.open_ (T := 56) (cs := fracL (0 : Rat) ++ fracL (0 : Rat) ++ fracL (0 : Rat)) (wt_none rfl) (op_alloc (cs := fracL (0 : Rat) ++ fracL (0 : Rat) ++ fracL (0 : Rat)) Tryz.zeroValue56 rfl) rfl (leB rfl) ?_; intro b5
  refine st (ex_assign rfl) (leB rfl) ?_
  refine q3 (sC 4 rfl (sC 5 rfl (sC 6 rfl (sC 7 rfl (sC 8 rfl (sC 9 rfl (sN))))))) ?_
  refine st (ex_load_agg (i := 4) (vs := ptL a) rfl rfl Tryz.isAgg38 Tryz.sizeOf38 rfl rfl) (leB rfl) ?_
  refine st (ex_load_agg (i := 3) (vs := ptL b) rfl rfl Tryz.isAgg38 Tryz.sizeOf38 rfl rfl) (leB rfl) ?_
  refine st (ex_load_agg (i := 2) (vs := ptL c) rfl rfl Tryz.isAgg38 Tryz.sizeOf38 rfl rfl) (leB rfl) ?_
  have hz1 := Sz_turn a b c
  refine OkL.call (v := (aG (fracL (turnP a b c)))) (wt_none rfl) (op_call0 (args := [(aG (ptL a)), (aG (ptL b)), (aG (ptL c))]) rfl rfl Tryz.call53) (fun w hw => twice_ok a b c (by omega) w) rfl (leB rfl) ?_
  refine OkL.open_ (T := 36) (cs := fracL (0 : Rat)) (wt_none rfl) (op_alloc (cs := fracL (0 : Rat)) Tryz.zeroValue36 rfl) rfl (leB rfl) ?_; intro b6
  refine OkL.store' (i := 0) (off := 0) (vs := fracL (turnP a b c)) (cs' := fracL (turnP a b c)) (L' := [blk b6 36 (fracL (turnP a b c)), blk b5 56 (fracL (0 : Rat) ++ fracL (0 : Rat) ++ fracL (0 : Rat)), blk b4 38 (ptL p), blk b3 38 (ptL c), blk b2 38 (ptL b), blk b1 38 (ptL a)]) (wt_none rfl) rfl rfl rfl rfl rfl Tryz.sizeOf36 rfl rfl rfl rfl ?_
  refine q6 (sC 4 rfl (sC 5 rfl (sC 6 rfl (sC 7 rfl (sC 8 rfl (sC 9 rfl (sC 10 rfl (sN)))))))) ?_
  have hz2 := Sz_turn p b c
  have hz3 := Sz_turn a p c
  have hz4 := Sz_turn a b p
  refine OkC.drawn' (specs := [⟨.held, fun _ => (aG (ptL p)), [], 0, []⟩, ⟨.held, fun _ => (aG (ptL b)), [], 0, []⟩, ⟨.held, fun _ => (aG (ptL c)), [], 0, []⟩, ⟨.call, fun _ => (aG (fracL (turnP p b c))), [], 0, []⟩, ⟨.held, fun _ => (aG (ptL a)), [], 0, []⟩, ⟨.held, fun _ => (aG (ptL p)), [], 0, []⟩, ⟨.held, fun _ => (aG (ptL c)), [], 0, []⟩, ⟨.call, fun _ => (aG (fracL (turnP a p c))), [], 0, []⟩, ⟨.held, fun _ => (aG (ptL a)), [], 0, []⟩, ⟨.held, fun _ => (aG (ptL b)), [], 0, []⟩, ⟨.held, fun _ => (aG (ptL p)), [], 0, []⟩, ⟨.call, fun _ => (aG (fracL (turnP a b p))), [], 0, []⟩, ⟨.pure, fun _ => (aG (fracL (turnP p b c) ++ fracL (turnP a p c) ++ fracL (turnP a b p))), [], 0, []⟩, ⟨.new, fun β => (pP (β 13) 0), [], 56, fracL (0 : Rat) ++ fracL (0 : Rat) ++ fracL (0 : Rat)⟩]) (by kernel_rfl) (fun hchk1 => ?_)
  refine dR (Lro := [blk b6 36 (fracL (turnP a b c)), blk b5 56 (fracL (0 : Rat) ++ fracL (0 : Rat) ++ fracL (0 : Rat)), blk b4 38 (ptL p), blk b3 38 (ptL c), blk b2 38 (ptL b), blk b1 38 (ptL a)]) (List.Sublist.refl _) (dC (dC (dC (dC (dC (dC (dC (dC (dC (dC (dC (dC (dC (DepAll.block (V := fun b => (Value.pointer (some ⟨b, 0, none⟩))) (dN))))))))))))))) hchk1 (by kernel_rfl) (fun _ _ d _ _ h => by cases d <;> exact h) (vC (vc_held0 (G := fun β => [(7, (pP b4 0))]) (fun β => sF (by kernel_rfl)) (fun β => ex_load_agg (i := 2) (vs := ptL p) rfl rfl Tryz.isAgg38 Tryz.sizeOf38 rfl rfl)) (vC (vc_held0 (G := fun β => [(5, (pP b2 0))]) (fun β => sF (by kernel_rfl)) (fun β => ex_load_agg (i := 4) (vs := ptL b) rfl rfl Tryz.isAgg38 Tryz.sizeOf38 rfl rfl)) (vC (vc_held0 (G := fun β => [(6, (pP b3 0))]) (fun β => sF (by kernel_rfl)) (fun β => ex_load_agg (i := 3) (vs := ptL c) rfl rfl Tryz.isAgg38 Tryz.sizeOf38 rfl rfl)) (vC (vc_call0 (G := fun β => [(19, (aG (ptL p))), (20, (aG (ptL b))), (21, (aG (ptL c)))]) (fun β => sF (by kernel_rfl)) (fun β => op_call0 (args := [(aG (ptL p)), (aG (ptL b)), (aG (ptL c))]) rfl rfl Tryz.call53) (fun β w hw => twice_ok p b c (by omega) w)) (vC (vc_held0 (G := fun β => [(4, (pP b1 0))]) (fun β => sF (by kernel_rfl)) (fun β => ex_load_agg (i := 5) (vs := ptL a) rfl rfl Tryz.isAgg38 Tryz.sizeOf38 rfl rfl)) (vC (vc_held0 (G := fun β => [(7, (pP b4 0))]) (fun β => sF (by kernel_rfl)) (fun β => ex_load_agg (i := 2) (vs := ptL p) rfl rfl Tryz.isAgg38 Tryz.sizeOf38 rfl rfl)) (vC (vc_held0 (G := fun β => [(6, (pP b3 0))]) (fun β => sF (by kernel_rfl)) (fun β => ex_load_agg (i := 3) (vs := ptL c) rfl rfl Tryz.isAgg38 Tryz.sizeOf38 rfl rfl)) (vC (vc_call0 (G := fun β => [(23, (aG (ptL a))), (24, (aG (ptL p))), (25, (aG (ptL c)))]) (fun β => sF (by kernel_rfl)) (fun β => op_call0 (args := [(aG (ptL a)), (aG (ptL p)), (aG (ptL c))]) rfl rfl Tryz.call53) (fun β w hw => twice_ok a p c (by omega) w)) (vC (vc_held0 (G := fun β => [(4, (pP b1 0))]) (fun β => sF (by kernel_rfl)) (fun β => ex_load_agg (i := 5) (vs := ptL a) rfl rfl Tryz.isAgg38 Tryz.sizeOf38 rfl rfl)) (vC (vc_held0 (G := fun β => [(5, (pP b2 0))]) (fun β => sF (by kernel_rfl)) (fun β => ex_load_agg (i := 4) (vs := ptL b) rfl rfl Tryz.isAgg38 Tryz.sizeOf38 rfl rfl)) (vC (vc_held0 (G := fun β => [(7, (pP b4 0))]) (fun β => sF (by kernel_rfl)) (fun β => ex_load_agg (i := 2) (vs := ptL p) rfl rfl Tryz.isAgg38 Tryz.sizeOf38 rfl rfl)) (vC (vc_call0 (G := fun β => [(27, (aG (ptL a))), (28, (aG (ptL b))), (29, (aG (ptL p)))]) (fun β => sF (by kernel_rfl)) (fun β => op_call0 (args := [(aG (ptL a)), (aG (ptL b)), (aG (ptL p))]) rfl rfl Tryz.call53) (fun β w hw => twice_ok a b p (by omega) w)) (vC (vc_pure0 (G := fun β => [(22, (aG (fracL (turnP p b c)))), (26, (aG (fracL (turnP a p c)))), (30, (aG (fracL (turnP a b p))))]) (fun β => sF (by kernel_rfl)) (fun β _ => ex_build_array (zs := fracL (0 : Rat) ++ fracL (0 : Rat) ++ fracL (0 : Rat)) (vs := fracL (turnP p b c) ++ fracL (turnP a p c) ++ fracL (turnP a b p)) (pv := [(0, (aG (fracL (turnP p b c)))), (1, (aG (fracL (turnP a p c)))), (2, (aG (fracL (turnP a b p))))]) Tryz.zeroValue56 Tryz.underlying56 Tryz.sizeOf36 rfl (fill_numo_56_0fracL_1fracL_2fracL (turnP p b c) (turnP a p c) (turnP a b p)))) (vC (vc_new0 (V := fun b => (Value.pointer (some ⟨b, 0, none⟩))) (j := 13) (one_place hchk1 rfl rfl rfl) (G := fun β => []) (fun β => sN) (fun β => op_alloc (cs := fracL (0 : Rat) ++ fracL (0 : Rat) ++ fracL (0 : Rat)) Tryz.zeroValue56 rfl)) (VcAll.nil))))))))))))))) (fun β => ?_)
  clear hchk1
  refine OkLH.sub (F' := [(4, (pP b1 0)), (5, (pP b2 0)), (6, (pP b3 0)), (8, (pP b5 0)), (9, (vI 0)), (10, (pP b6 0)), (31, (aG (fracL (turnP p b c) ++ fracL (turnP a p c) ++ fracL (turnP a b p)))), (11, (pP (β 13) 0))]) (L' := [blk (β 13) 56 (fracL (0 : Rat) ++ fracL (0 : Rat) ++ fracL (0 : Rat)), blk b6 36 (fracL (turnP a b c)), blk b5 56 (fracL (0 : Rat) ++ fracL (0 : Rat) ++ fracL (0 : Rat)), blk b4 38 (ptL p), blk b3 38 (ptL c), blk b2 38 (ptL b), blk b1 38 (ptL a)]) (sF rfl) (List.Sublist.refl _) ?_
  generalize β 13 = b7
  refine OkLH.store' (i := 0) (off := 0) (vs := fracL (turnP p b c) ++ fracL (turnP a p c) ++ fracL (turnP a b p)) (cs' := fracL (turnP p b c) ++ fracL (turnP a p c) ++ fracL (turnP a b p)) (L' := [blk b7 56 (fracL (turnP p b c) ++ fracL (turnP a p c) ++ fracL (turnP a b p)), blk b6 36 (fracL (turnP a b c)), blk b5 56 (fracL (0 : Rat) ++ fracL (0 : Rat) ++ fracL (0 : Rat)), blk b4 38 (ptL p), blk b3 38 (ptL c), blk b2 38 (ptL b), blk b1 38 (ptL a)]) (List.Sublist.cons _ (List.Sublist.refl _)) (wt_none rfl) rfl rfl rfl rfl rfl Tryz.sizeOf56 rfl rfl rfl rfl ?_
  refine q7 (sC 4 rfl (sC 5 rfl (sC 6 rfl (sC 8 rfl (sC 9 rfl (sC 10 rfl (sC 11 rfl (sN)))))))) ?_
  refine q4 ?_
  refine st (ex_move rfl) (leB rfl) ?_
  refine OkL.nil ?_
  refine OkQ.then_ ?_
  refine OkC.block ?_
  refine OkC.unroll 5 ?_
  refine OkR.step ?_
  refine q4 ?_
  refine st (ex_lss (c := true) rfl rfl (by decide)) (leB rfl) ?_
  refine OkL.nil ?_
  refine q1 ?_
  refine OkC.cond_true rfl ?_
  refine OkC.skip ?_
  refine q1 ?_
  refine OkC.block ?_
  refine q4 ?_
  refine st (ex_move rfl) (leB rfl) ?_
  refine st (ex_assign rfl) (leB rfl) ?_
  refine OkL.nil ?_
  refine q1 ?_
  refine OkC.drawn' (specs := [⟨.pure, fun _ => (vI 0), [], 0, []⟩, ⟨.pure, fun _ => (pP b7 0), [], 0, []⟩, ⟨.held, fun _ => (aG (fracL (turnP p b c))), [], 0, []⟩, ⟨.held, fun _ => (aG (fracL (turnP a b c))), [], 0, []⟩, ⟨.call, fun _ => (Value.tuple #[(aG (fracL (0 : Rat))), (vI 5)]), [], 0, []⟩, ⟨.pure, fun _ => (Value.tuple #[(aG (fracL (0 : Rat))), (vI 5)]), [], 0, []⟩, ⟨.pure, fun _ => (aG (fracL (0 : Rat))), [], 0, []⟩, ⟨.pure, fun _ => (vI 5), [], 0, []⟩, ⟨.new, fun β => (pP (β 8) 0), [], 36, fracL (0 : Rat)⟩]) (by kernel_rfl) (fun hchk2 => ?_)
  refine dR (Lro := [blk b7 56 (fracL (turnP p b c) ++ fracL (turnP a p c) ++ fracL (turnP a b p)), blk b6 36 (fracL (turnP a b c)), blk b5 56 (fracL (0 : Rat) ++ fracL (0 : Rat) ++ fracL (0 : Rat)), blk b4 38 (ptL p), blk b3 38 (ptL c), blk b2 38 (ptL b), blk b1 38 (ptL a)]) (List.Sublist.refl _) (dC (dC (dC (dC (dC (dC (dC (dC (DepAll.block (V := fun b => (Value.pointer (some ⟨b, 0, none⟩))) (dN)))))))))) hchk2 (by kernel_rfl) (fun _ _ d _ _ h => by cases d <;> exact h) (vC (vc_pure0 (G := fun β => [(12, (vI 0))]) (fun β => sF (by kernel_rfl)) (fun β _ => ex_move rfl)) (vC (vc_pure0 (G := fun β => [(11, (pP b7 0)), (36, (vI 0))]) (fun β => sF (by kernel_rfl)) (fun β _ => ex_indexAddr_array (j := 0) rfl rfl Tryz.underlying56 Tryz.sizeOf36 rfl (by decide) rfl)) (vC (vc_held0 (G := fun β => [(37, (pP b7 0))]) (fun β => sF (by kernel_rfl)) (fun β => ex_load_agg (i := 0) (vs := fracL (turnP p b c)) rfl rfl Tryz.isAgg36 Tryz.sizeOf36 rfl rfl)) (vC (vc_held0 (G := fun β => [(10, (pP b6 0))]) (fun β => sF (by kernel_rfl)) (fun β => ex_load_agg (i := 1) (vs := fracL (turnP a b c)) rfl rfl Tryz.isAgg36 Tryz.sizeOf36 rfl rfl)) (vC (vc_call0 (G := fun β => [(38, (aG (fracL (turnP p b c)))), (39, (aG (fracL (turnP a b c))))]) (fun β => sF (by kernel_rfl)) (fun β => op_call0 (args := [(aG (fracL (turnP p b c))), (aG (fracL (turnP a b c)))]) rfl rfl Tryz.call54) (fun β w hw => (by rw [h]; exact fDiv0_ok _ w))) (vC (vc_pure0 (G := fun β => [(40, (Value.tuple #[(aG (fracL (0 : Rat))), (vI 5)]))]) (fun β => sF (by kernel_rfl)) (fun β _ => ex_move rfl)) (vC (vc_pure0 (G := fun β => [(35, (Value.tuple #[(aG (fracL (0 : Rat))), (vI 5)]))]) (fun β => sF (by kernel_rfl)) (fun β _ => ex_extract (v := (aG (fracL (0 : Rat)))) rfl rfl)) (vC (vc_pure0 (G := fun β => [(35, (Value.tuple #[(aG (fracL (0 : Rat))), (vI 5)]))]) (fun β => sF (by kernel_rfl)) (fun β _ => ex_extract (v := (vI 5)) rfl rfl)) (vC (vc_new0 (V := fun b => (Value.pointer (some ⟨b, 0, none⟩))) (j := 8) (one_place hchk2 rfl rfl rfl) (G := fun β => []) (fun β => sN) (fun β => op_alloc (cs := fracL (0 : Rat)) Tryz.zeroValue36 rfl)) (VcAll.nil)))))))))) (fun β => ?_)
  clear hchk2
  refine OkLH.sub (F' := [(4, (pP b1 0)), (5, (pP b2 0)), (6, (pP b3 0)), (8, (pP b5 0)), (9, (vI 0)), (10, (pP b6 0)), (11, (pP b7 0)), (32, (vI 0)), (33, (Value.bool true)), (34, (vI 0)), (12, (vI 0)), (36, (vI 0)), (37, (pP b7 0)), (38, (aG (fracL (turnP p b c)))), (39, (aG (fracL (turnP a b c)))), (40, (Value.tuple #[(aG (fracL (0 : Rat))), (vI 5)])), (35, (Value.tuple #[(aG (fracL (0 : Rat))), (vI 5)])), (41, (aG (fracL (0 : Rat)))), (42, (vI 5)), (13, (pP (β 8) 0))]) (L' := [blk (β 8) 36 (fracL (0 : Rat)), blk b7 56 (fracL (turnP p b c) ++ fracL (turnP a p c) ++ fracL (turnP a b p)), blk b6 36 (fracL (turnP a b c)), blk b5 56 (fracL (0 : Rat) ++ fracL (0 : Rat) ++ fracL (0 : Rat)), blk b4 38 (ptL p), blk b3 38 (ptL c), blk b2 38 (ptL b), blk b1 38 (ptL a)]) (sF rfl) (List.Sublist.refl _) ?_
  generalize β 8 = b8
  refine OkLH.store' (i := 0) (off := 0) (vs := fracL (0 : Rat)) (cs' := fracL (0 : Rat)) (L' := [blk b8 36 (fracL (0 : Rat)), blk b7 56 (fracL (turnP p b c) ++ fracL (turnP a p c) ++ fracL (turnP a b p)), blk b6 36 (fracL (turnP a b c)), blk b5 56 (fracL (0 : Rat) ++ fracL (0 : Rat) ++ fracL (0 : Rat)), blk b4 38 (ptL p), blk b3 38 (ptL c), blk b2 38 (ptL b), blk b1 38 (ptL a)]) (List.Sublist.cons _ (List.Sublist.refl _)) (wt_none rfl) rfl rfl rfl rfl rfl Tryz.sizeOf36 rfl rfl rfl rfl ?_
  refine OkLH.step (v := (vI 5)) (List.Sublist.cons _ (List.Sublist.refl _)) (wt_none rfl) (ex_assign rfl) rfl (leB rfl) ?_
  refine OkLH.nil ?_
  refine q1 ?_
  refine q4 ?_
  refine st (ex_move rfl) (leB rfl) ?_
  refine st (ex_neq (c := true) rfl rfl (by decide)) (leB rfl) ?_
  refine OkL.nil ?_
  refine OkQ.then_ ?_
  refine OkC.cond_true rfl ?_
  refine q4 ?_
  refine st (v := (aG (fracL (0 : Rat) ++ fracL (0 : Rat) ++ fracL (0 : Rat)))) (ex_build_array (zs := fracL (0 : Rat) ++ fracL (0 : Rat) ++ fracL (0 : Rat)) (vs := fracL (0 : Rat) ++ fracL (0 : Rat) ++ fracL (0 : Rat)) (pv := []) Tryz.zeroValue56 Tryz.underlying56 Tryz.sizeOf36 rfl (fill_numo_56_ )) (leB rfl) ?_
  refine OkL.store' (i := 3) (off := 0) (vs := fracL (0 : Rat) ++ fracL (0 : Rat) ++ fracL (0 : Rat)) (cs' := fracL (0 : Rat) ++ fracL (0 : Rat) ++ fracL (0 : Rat)) (L' := [blk b8 36 (fracL (0 : Rat)), blk b7 56 (fracL (turnP p b c) ++ fracL (turnP a p c) ++ fracL (turnP a b p)), blk b6 36 (fracL (turnP a b c)), blk b5 56 (fracL (0 : Rat) ++ fracL (0 : Rat) ++ fracL (0 : Rat)), blk b4 38 (ptL p), blk b3 38 (ptL c), blk b2 38 (ptL b), blk b1 38 (ptL a)]) (wt_none rfl) rfl rfl rfl rfl rfl Tryz.sizeOf56 rfl rfl rfl rfl ?_
  refine st (ex_assign rfl) (leB rfl) ?_
  refine OkL.nil ?_
  refine OkQ.then_ ?_
  refine OkC.ret ?_
  refine OkQ.then_ret ?_
  refine OkQ.in_ret ?_
  refine OkQ.then_ret ?_
  refine OkQ.then_ret ?_
  refine OkQ.in_ret ?_
  refine OkQ.then_ret ?_
  exact ret_two rfl (rd_agg (i := 3) (cs := fracL (0 : Rat) ++ fracL (0 : Rat) ++ fracL (0 : Rat)) rfl rfl Tryz.isAgg56 Tryz.sizeOf56 rfl) (rd_tmp (v := (vI 1)) rfl) (fun w hw => ⟨rfl, hw.out⟩)


end Go.Proofs.YtpkoldfmbebmgaaGreatDoor
