/- Walks, printed by gen.py. -/
import Derived.Test.YtpkoldfmbebmgaaGreatDoorNumL
import Derived.Test.YtpkoldfmbebmgaaGreatDoorPt
namespace Go.Proofs.YtpkoldfmbebmgaaGreatDoor
open Go Go.RowKit
set_option maxRecDepth 100000
set_option linter.unusedVariables false
set_option linter.unusedSimpArgs false

theorem fill_numm_38_0fracL_1fracL (x0 : Rat) (x1 : Rat) : Instr.fill ([(0, 5), (5, 5)].toArray[·]?) (ptL (⟨0, 0⟩ : Pt)).toArray [(0, .agg (fracL x0).toArray), (1, .agg (fracL x1).toArray)] = some (fracL x0 ++ fracL x1).toArray := by kernel_rfl
theorem both_add_ok (a b : Pt) (hs : SzP a + SzP b ≤ 68719476736) (w : World)  : Calls Tryz.prog 79 #[(aG (ptL a)), (aG (ptL b)), (Value.func (.func 41) #[] #[])] w (Gives w (aG (ptL (a + b)))) := by
  have p1 := SzP_x a
  have p2 := SzP_y a
  have p3 := SzP_x b
  have p4 := SzP_y b
  refine calls_of (args := [(aG (ptL a)), (aG (ptL b)), (Value.func (.func 41) #[] #[])]) Tryz.func79 rfl rfl (leB rfl) ?_
  refine OkC.subF (sC 0 rfl (sC 1 rfl (sC 2 rfl (sN)))) ?_
  refine q4 ?_
  refine OkL.open_ (T := 38) (cs := ptL a) (wt_none rfl) (op_box (cs := ptL a) rfl rfl) rfl (leB rfl) ?_; intro b1
  refine OkL.open_ (T := 38) (cs := ptL b) (wt_none rfl) (op_box (cs := ptL b) rfl rfl) rfl (leB rfl) ?_; intro b2
  refine OkL.open_ (T := 38) (cs := ptL (⟨0, 0⟩ : Pt)) (wt_none rfl) (op_alloc (cs := ptL (⟨0, 0⟩ : Pt)) Tryz.zeroValue38 rfl) rfl (leB rfl) ?_; intro b3
  refine q6 (sC 2 rfl (sC 3 rfl (sC 4 rfl (sC 6 rfl (sN))))) ?_
  have hz1 := Sz_add a.x b.x
  have hz2 := Sz_add a.y b.y
  refine dR (specs := [⟨.pure, fun _ => (Value.func (.func 41) #[] #[]), [], 0, []⟩, ⟨.pure, fun _ => (pP b1 0), [], 0, []⟩, ⟨.held, fun _ => (aG (fracL a.x)), [], 0, []⟩, ⟨.pure, fun _ => (pP b2 0), [], 0, []⟩, ⟨.held, fun _ => (aG (fracL b.x)), [], 0, []⟩, ⟨.call, fun _ => (aG (fracL (a.x + b.x))), [], 0, []⟩, ⟨.pure, fun _ => (Value.func (.func 41) #[] #[]), [], 0, []⟩, ⟨.pure, fun _ => (pP b1 5), [], 0, []⟩, ⟨.held, fun _ => (aG (fracL a.y)), [], 0, []⟩, ⟨.pure, fun _ => (pP b2 5), [], 0, []⟩, ⟨.held, fun _ => (aG (fracL b.y)), [], 0, []⟩, ⟨.call, fun _ => (aG (fracL (a.y + b.y))), [], 0, []⟩, ⟨.pure, fun _ => (aG (fracL (a.x + b.x) ++ fracL (a.y + b.y))), [], 0, []⟩]) (Lro := [blk b2 38 (ptL b), blk b1 38 (ptL a)]) (List.Sublist.cons _ (List.Sublist.refl _)) (dC (dC (dC (dC (dC (dC (dC (dC (dC (dC (dC (dC (dC (dN)))))))))))))) (by kernel_rfl) (by kernel_rfl) (fun _ _ d _ _ h => by cases d <;> exact h) (vC (vc_pure0 (G := fun β => [(2, (Value.func (.func 41) #[] #[]))]) (fun β => sF (by kernel_rfl)) (fun β _ => ex_move rfl)) (vC (vc_pure0 (G := fun β => [(3, (pP b1 0))]) (fun β => sF (by kernel_rfl)) (fun β _ => ex_fieldAddr rfl Tryz.underlying38 rfl Tryz.sizeOf36 rfl)) (vC (vc_held0 (G := fun β => [(8, (pP b1 0))]) (fun β => sF (by kernel_rfl)) (fun β => ex_load_agg (i := 1) (vs := fracL a.x) rfl rfl Tryz.isAgg36 Tryz.sizeOf36 rfl rfl)) (vC (vc_pure0 (G := fun β => [(4, (pP b2 0))]) (fun β => sF (by kernel_rfl)) (fun β _ => ex_fieldAddr rfl Tryz.underlying38 rfl Tryz.sizeOf36 rfl)) (vC (vc_held0 (G := fun β => [(10, (pP b2 0))]) (fun β => sF (by kernel_rfl)) (fun β => ex_load_agg (i := 0) (vs := fracL b.x) rfl rfl Tryz.isAgg36 Tryz.sizeOf36 rfl rfl)) (vC (vc_call0 (G := fun β => [(7, (Value.func (.func 41) #[] #[])), (9, (aG (fracL a.x))), (11, (aG (fracL b.x)))]) (fun β => sF (by kernel_rfl)) (fun β => op_call0 (args := [(aG (fracL a.x)), (aG (fracL b.x))]) rfl rfl Tryz.call41) (fun β w hw => fAdd_ok a.x b.x (by (try simp only [Sz_neg]); omega) w)) (vC (vc_pure0 (G := fun β => [(2, (Value.func (.func 41) #[] #[]))]) (fun β => sF (by kernel_rfl)) (fun β _ => ex_move rfl)) (vC (vc_pure0 (G := fun β => [(3, (pP b1 0))]) (fun β => sF (by kernel_rfl)) (fun β _ => ex_fieldAddr rfl Tryz.underlying38 rfl Tryz.sizeOf36 rfl)) (vC (vc_held0 (G := fun β => [(14, (pP b1 5))]) (fun β => sF (by kernel_rfl)) (fun β => ex_load_agg (i := 1) (vs := fracL a.y) rfl rfl Tryz.isAgg36 Tryz.sizeOf36 rfl rfl)) (vC (vc_pure0 (G := fun β => [(4, (pP b2 0))]) (fun β => sF (by kernel_rfl)) (fun β _ => ex_fieldAddr rfl Tryz.underlying38 rfl Tryz.sizeOf36 rfl)) (vC (vc_held0 (G := fun β => [(16, (pP b2 5))]) (fun β => sF (by kernel_rfl)) (fun β => ex_load_agg (i := 0) (vs := fracL b.y) rfl rfl Tryz.isAgg36 Tryz.sizeOf36 rfl rfl)) (vC (vc_call0 (G := fun β => [(13, (Value.func (.func 41) #[] #[])), (15, (aG (fracL a.y))), (17, (aG (fracL b.y)))]) (fun β => sF (by kernel_rfl)) (fun β => op_call0 (args := [(aG (fracL a.y)), (aG (fracL b.y))]) rfl rfl Tryz.call41) (fun β w hw => fAdd_ok a.y b.y (by (try simp only [Sz_neg]); omega) w)) (vC (vc_pure0 (G := fun β => [(12, (aG (fracL (a.x + b.x)))), (18, (aG (fracL (a.y + b.y))))]) (fun β => sF (by kernel_rfl)) (fun β _ => ex_build_struct (zs := ptL (⟨0, 0⟩ : Pt)) (vs := fracL (a.x + b.x) ++ fracL (a.y + b.y)) (pv := [(0, (aG (fracL (a.x + b.x)))), (1, (aG (fracL (a.y + b.y))))]) (places := [(0, 5), (5, 5)]) Tryz.zeroValue38 Tryz.underlying38 (fun w => by simp [Tryz.sizeOf36]) rfl (fill_numm_38_0fracL_1fracL (a.x + b.x) (a.y + b.y)))) (VcAll.nil)))))))))))))) (fun β => ?_)
  refine OkLH.sub (F' := [(6, (pP b3 0)), (19, (aG (fracL (a.x + b.x) ++ fracL (a.y + b.y))))]) (L' := [blk b3 38 (ptL (⟨0, 0⟩ : Pt)), blk b2 38 (ptL b), blk b1 38 (ptL a)]) (sF rfl) (List.Sublist.refl _) ?_
  refine OkLH.store' (i := 0) (off := 0) (vs := fracL (a.x + b.x) ++ fracL (a.y + b.y)) (cs' := fracL (a.x + b.x) ++ fracL (a.y + b.y)) (L' := [blk b3 38 (fracL (a.x + b.x) ++ fracL (a.y + b.y)), blk b2 38 (ptL b), blk b1 38 (ptL a)]) (List.Sublist.cons _ (List.Sublist.refl _)) (wt_none rfl) rfl rfl rfl rfl rfl Tryz.sizeOf38 rfl rfl rfl rfl ?_
  refine OkLH.nil ?_
  refine OkQ.subF (sC 6 rfl (sN)) ?_
  refine OkQ.then_ ?_
  refine OkC.ret ?_
  exact ret_one rfl (rd_agg (i := 0) (cs := fracL (a.x + b.x) ++ fracL (a.y + b.y)) rfl rfl Tryz.isAgg38 Tryz.sizeOf38 rfl) (fun w hw => ⟨by rw [ptL_add], hw.out⟩)

theorem both_sub_ok (a b : Pt) (hs : SzP a + SzP b ≤ 68719476736) (w : World)  : Calls Tryz.prog 79 #[(aG (ptL a)), (aG (ptL b)), (Value.func (.func 39) #[] #[])] w (Gives w (aG (ptL (a - b)))) := by
  have p1 := SzP_x a
  have p2 := SzP_y a
  have p3 := SzP_x b
  have p4 := SzP_y b
  refine calls_of (args := [(aG (ptL a)), (aG (ptL b)), (Value.func (.func 39) #[] #[])]) Tryz.func79 rfl rfl (leB rfl) ?_
  refine OkC.subF (sC 0 rfl (sC 1 rfl (sC 2 rfl (sN)))) ?_
  refine q4 ?_
  refine OkL.open_ (T := 38) (cs := ptL a) (wt_none rfl) (op_box (cs := ptL a) rfl rfl) rfl (leB rfl) ?_; intro b1
  refine OkL.open_ (T := 38) (cs := ptL b) (wt_none rfl) (op_box (cs := ptL b) rfl rfl) rfl (leB rfl) ?_; intro b2
  refine OkL.open_ (T := 38) (cs := ptL (⟨0, 0⟩ : Pt)) (wt_none rfl) (op_alloc (cs := ptL (⟨0, 0⟩ : Pt)) Tryz.zeroValue38 rfl) rfl (leB rfl) ?_; intro b3
  refine q6 (sC 2 rfl (sC 3 rfl (sC 4 rfl (sC 6 rfl (sN))))) ?_
  have hz1 := Sz_sub a.x b.x
  have hz2 := Sz_sub a.y b.y
  refine dR (specs := [⟨.pure, fun _ => (Value.func (.func 39) #[] #[]), [], 0, []⟩, ⟨.pure, fun _ => (pP b1 0), [], 0, []⟩, ⟨.held, fun _ => (aG (fracL a.x)), [], 0, []⟩, ⟨.pure, fun _ => (pP b2 0), [], 0, []⟩, ⟨.held, fun _ => (aG (fracL b.x)), [], 0, []⟩, ⟨.call, fun _ => (aG (fracL (a.x - b.x))), [], 0, []⟩, ⟨.pure, fun _ => (Value.func (.func 39) #[] #[]), [], 0, []⟩, ⟨.pure, fun _ => (pP b1 5), [], 0, []⟩, ⟨.held, fun _ => (aG (fracL a.y)), [], 0, []⟩, ⟨.pure, fun _ => (pP b2 5), [], 0, []⟩, ⟨.held, fun _ => (aG (fracL b.y)), [], 0, []⟩, ⟨.call, fun _ => (aG (fracL (a.y - b.y))), [], 0, []⟩, ⟨.pure, fun _ => (aG (fracL (a.x - b.x) ++ fracL (a.y - b.y))), [], 0, []⟩]) (Lro := [blk b2 38 (ptL b), blk b1 38 (ptL a)]) (List.Sublist.cons _ (List.Sublist.refl _)) (dC (dC (dC (dC (dC (dC (dC (dC (dC (dC (dC (dC (dC (dN)))))))))))))) (by kernel_rfl) (by kernel_rfl) (fun _ _ d _ _ h => by cases d <;> exact h) (vC (vc_pure0 (G := fun β => [(2, (Value.func (.func 39) #[] #[]))]) (fun β => sF (by kernel_rfl)) (fun β _ => ex_move rfl)) (vC (vc_pure0 (G := fun β => [(3, (pP b1 0))]) (fun β => sF (by kernel_rfl)) (fun β _ => ex_fieldAddr rfl Tryz.underlying38 rfl Tryz.sizeOf36 rfl)) (vC (vc_held0 (G := fun β => [(8, (pP b1 0))]) (fun β => sF (by kernel_rfl)) (fun β => ex_load_agg (i := 1) (vs := fracL a.x) rfl rfl Tryz.isAgg36 Tryz.sizeOf36 rfl rfl)) (vC (vc_pure0 (G := fun β => [(4, (pP b2 0))]) (fun β => sF (by kernel_rfl)) (fun β _ => ex_fieldAddr rfl Tryz.underlying38 rfl Tryz.sizeOf36 rfl)) (vC (vc_held0 (G := fun β => [(10, (pP b2 0))]) (fun β => sF (by kernel_rfl)) (fun β => ex_load_agg (i := 0) (vs := fracL b.x) rfl rfl Tryz.isAgg36 Tryz.sizeOf36 rfl rfl)) (vC (vc_call0 (G := fun β => [(7, (Value.func (.func 39) #[] #[])), (9, (aG (fracL a.x))), (11, (aG (fracL b.x)))]) (fun β => sF (by kernel_rfl)) (fun β => op_call0 (args := [(aG (fracL a.x)), (aG (fracL b.x))]) rfl rfl Tryz.call39) (fun β w hw => fSub_ok a.x b.x (by (try simp only [Sz_neg]); omega) w)) (vC (vc_pure0 (G := fun β => [(2, (Value.func (.func 39) #[] #[]))]) (fun β => sF (by kernel_rfl)) (fun β _ => ex_move rfl)) (vC (vc_pure0 (G := fun β => [(3, (pP b1 0))]) (fun β => sF (by kernel_rfl)) (fun β _ => ex_fieldAddr rfl Tryz.underlying38 rfl Tryz.sizeOf36 rfl)) (vC (vc_held0 (G := fun β => [(14, (pP b1 5))]) (fun β => sF (by kernel_rfl)) (fun β => ex_load_agg (i := 1) (vs := fracL a.y) rfl rfl Tryz.isAgg36 Tryz.sizeOf36 rfl rfl)) (vC (vc_pure0 (G := fun β => [(4, (pP b2 0))]) (fun β => sF (by kernel_rfl)) (fun β _ => ex_fieldAddr rfl Tryz.underlying38 rfl Tryz.sizeOf36 rfl)) (vC (vc_held0 (G := fun β => [(16, (pP b2 5))]) (fun β => sF (by kernel_rfl)) (fun β => ex_load_agg (i := 0) (vs := fracL b.y) rfl rfl Tryz.isAgg36 Tryz.sizeOf36 rfl rfl)) (vC (vc_call0 (G := fun β => [(13, (Value.func (.func 39) #[] #[])), (15, (aG (fracL a.y))), (17, (aG (fracL b.y)))]) (fun β => sF (by kernel_rfl)) (fun β => op_call0 (args := [(aG (fracL a.y)), (aG (fracL b.y))]) rfl rfl Tryz.call39) (fun β w hw => fSub_ok a.y b.y (by (try simp only [Sz_neg]); omega) w)) (vC (vc_pure0 (G := fun β => [(12, (aG (fracL (a.x - b.x)))), (18, (aG (fracL (a.y - b.y))))]) (fun β => sF (by kernel_rfl)) (fun β _ => ex_build_struct (zs := ptL (⟨0, 0⟩ : Pt)) (vs := fracL (a.x - b.x) ++ fracL (a.y - b.y)) (pv := [(0, (aG (fracL (a.x - b.x)))), (1, (aG (fracL (a.y - b.y))))]) (places := [(0, 5), (5, 5)]) Tryz.zeroValue38 Tryz.underlying38 (fun w => by simp [Tryz.sizeOf36]) rfl (fill_numm_38_0fracL_1fracL (a.x - b.x) (a.y - b.y)))) (VcAll.nil)))))))))))))) (fun β => ?_)
  refine OkLH.sub (F' := [(6, (pP b3 0)), (19, (aG (fracL (a.x - b.x) ++ fracL (a.y - b.y))))]) (L' := [blk b3 38 (ptL (⟨0, 0⟩ : Pt)), blk b2 38 (ptL b), blk b1 38 (ptL a)]) (sF rfl) (List.Sublist.refl _) ?_
  refine OkLH.store' (i := 0) (off := 0) (vs := fracL (a.x - b.x) ++ fracL (a.y - b.y)) (cs' := fracL (a.x - b.x) ++ fracL (a.y - b.y)) (L' := [blk b3 38 (fracL (a.x - b.x) ++ fracL (a.y - b.y)), blk b2 38 (ptL b), blk b1 38 (ptL a)]) (List.Sublist.cons _ (List.Sublist.refl _)) (wt_none rfl) rfl rfl rfl rfl rfl Tryz.sizeOf38 rfl rfl rfl rfl ?_
  refine OkLH.nil ?_
  refine OkQ.subF (sC 6 rfl (sN)) ?_
  refine OkQ.then_ ?_
  refine OkC.ret ?_
  exact ret_one rfl (rd_agg (i := 0) (cs := fracL (a.x - b.x) ++ fracL (a.y - b.y)) rfl rfl Tryz.isAgg38 Tryz.sizeOf38 rfl) (fun w hw => ⟨by rw [ptL_sub], hw.out⟩)

theorem scale1_ok (x y k : Rat) (bk : Nat) (hs : Sz x + Sz k ≤ 137438953472) (w : World) (hk : w.heap[bk]? = some (.cells (fracL k).toArray 36 (0, 0))) : Calls Tryz.prog 104 #[(aG (fracL x)), (aG (fracL y)), (pP bk 0)] w (Gives w (aG (fracL (x * k)))) := by
  refine calls_of (args := [(aG (fracL x)), (aG (fracL y)), (pP bk 0)]) Tryz.func104 rfl rfl (leB rfl) ?_
  refine OkC.subF (sC 0 rfl (sC 1 rfl (sC 2 rfl (sN)))) ?_
  refine q4 ?_
  refine OkL.open_ (T := 36) (cs := fracL x) (wt_none rfl) (op_box (cs := fracL x) rfl rfl) rfl (leB rfl) ?_; intro b1
  refine OkL.open_ (T := 36) (cs := fracL y) (wt_none rfl) (op_box (cs := fracL y) rfl rfl) rfl (leB rfl) ?_; intro b2
  refine OkL.open_ (T := 36) (cs := fracL (0 : Rat)) (wt_none rfl) (op_alloc (cs := fracL (0 : Rat)) Tryz.zeroValue36 rfl) rfl (leB rfl) ?_; intro b3
  refine q3 (sC 2 rfl (sC 3 rfl (sC 5 rfl (sN)))) ?_
  refine st (ex_load_agg (i := 2) (vs := fracL x) rfl rfl Tryz.isAgg36 Tryz.sizeOf36 rfl rfl) (leB rfl) ?_
  refine st (v := (aG (fracL k))) (ex_load_agg_at (vs := fracL k) rfl (fun w' hw => hw.oldCA (by simp) (ca_blk hk)) Tryz.isAgg36 Tryz.sizeOf36 rfl) (leB rfl) ?_
  have hz1 := Sz_mul x k
  refine OkL.call (v := (aG (fracL (x * k)))) (wt_none rfl) (op_call0 (args := [(aG (fracL x)), (aG (fracL k))]) rfl rfl Tryz.call40) (fun w hw => fMul_ok x k (by (try simp only [Sz_neg]); omega) w) rfl (leB rfl) ?_
  refine OkL.store' (i := 0) (off := 0) (vs := fracL (x * k)) (cs' := fracL (x * k)) (L' := [blk b3 36 (fracL (x * k)), blk b2 36 (fracL y), blk b1 36 (fracL x)]) (wt_none rfl) rfl rfl rfl rfl rfl Tryz.sizeOf36 rfl rfl rfl rfl ?_
  refine OkL.nil ?_
  refine OkQ.subF (sC 5 rfl (sN)) ?_
  refine OkQ.then_ ?_
  refine OkC.ret ?_
  exact ret_one rfl (rd_agg (i := 0) (cs := fracL (x * k)) rfl rfl Tryz.isAgg36 Tryz.sizeOf36 rfl) (fun w hw => ⟨rfl, hw.out⟩)

theorem both_scale_ok (a : Pt) (k : Rat) (bk : Nat) (hs : SzP a + Sz k ≤ 137438953472) (w : World) (hk : w.heap[bk]? = some (.cells (fracL k).toArray 36 (0, 0))) : Calls Tryz.prog 79 #[(aG (ptL a)), (aG (ptL a)), (Value.func (.func 104) #[] #[(pP bk 0)])] w (Gives w (aG (ptL (scaleP a k)))) := by
  have p1 := SzP_x a
  have p2 := SzP_y a
  refine calls_of (args := [(aG (ptL a)), (aG (ptL a)), (Value.func (.func 104) #[] #[(pP bk 0)])]) Tryz.func79 rfl rfl (leB rfl) ?_
  refine OkC.subF (sC 0 rfl (sC 1 rfl (sC 2 rfl (sN)))) ?_
  refine q4 ?_
  refine OkL.open_ (T := 38) (cs := ptL a) (wt_none rfl) (op_box (cs := ptL a) rfl rfl) rfl (leB rfl) ?_; intro b1
  refine OkL.open_ (T := 38) (cs := ptL a) (wt_none rfl) (op_box (cs := ptL a) rfl rfl) rfl (leB rfl) ?_; intro b2
  refine OkL.open_ (T := 38) (cs := ptL (⟨0, 0⟩ : Pt)) (wt_none rfl) (op_alloc (cs := ptL (⟨0, 0⟩ : Pt)) Tryz.zeroValue38 rfl) rfl (leB rfl) ?_; intro b3
  refine q6 (sC 2 rfl (sC 3 rfl (sC 4 rfl (sC 6 rfl (sN))))) ?_
  refine dR (specs := [⟨.pure, fun _ => (Value.func (.func 104) #[] #[(pP bk 0)]), [], 0, []⟩, ⟨.pure, fun _ => (pP b1 0), [], 0, []⟩, ⟨.held, fun _ => (aG (fracL a.x)), [], 0, []⟩, ⟨.pure, fun _ => (pP b2 0), [], 0, []⟩, ⟨.held, fun _ => (aG (fracL a.x)), [], 0, []⟩, ⟨.call, fun _ => (aG (fracL (a.x * k))), [], 0, []⟩, ⟨.pure, fun _ => (Value.func (.func 104) #[] #[(pP bk 0)]), [], 0, []⟩, ⟨.pure, fun _ => (pP b1 5), [], 0, []⟩, ⟨.held, fun _ => (aG (fracL a.y)), [], 0, []⟩, ⟨.pure, fun _ => (pP b2 5), [], 0, []⟩, ⟨.held, fun _ => (aG (fracL a.y)), [], 0, []⟩, ⟨.call, fun _ => (aG (fracL (a.y * k))), [], 0, []⟩, ⟨.pure, fun _ => (aG (fracL (a.x * k) ++ fracL (a.y * k))), [], 0, []⟩]) (Lro := [blk b2 38 (ptL a), blk b1 38 (ptL a)]) (List.Sublist.cons _ (List.Sublist.refl _)) (dC (dC (dC (dC (dC (dC (dC (dC (dC (dC (dC (dC (dC (dN)))))))))))))) (by kernel_rfl) (by kernel_rfl) (fun _ _ d _ _ h => by cases d <;> exact h) (vC (vc_pure0 (G := fun β => [(2, (Value.func (.func 104) #[] #[(pP bk 0)]))]) (fun β => sF (by kernel_rfl)) (fun β _ => ex_move rfl)) (vC (vc_pure0 (G := fun β => [(3, (pP b1 0))]) (fun β => sF (by kernel_rfl)) (fun β _ => ex_fieldAddr rfl Tryz.underlying38 rfl Tryz.sizeOf36 rfl)) (vC (vc_held0 (G := fun β => [(8, (pP b1 0))]) (fun β => sF (by kernel_rfl)) (fun β => ex_load_agg (i := 1) (vs := fracL a.x) rfl rfl Tryz.isAgg36 Tryz.sizeOf36 rfl rfl)) (vC (vc_pure0 (G := fun β => [(4, (pP b2 0))]) (fun β => sF (by kernel_rfl)) (fun β _ => ex_fieldAddr rfl Tryz.underlying38 rfl Tryz.sizeOf36 rfl)) (vC (vc_held0 (G := fun β => [(10, (pP b2 0))]) (fun β => sF (by kernel_rfl)) (fun β => ex_load_agg (i := 0) (vs := fracL a.x) rfl rfl Tryz.isAgg36 Tryz.sizeOf36 rfl rfl)) (vC (vc_call0 (G := fun β => [(7, (Value.func (.func 104) #[] #[(pP bk 0)])), (9, (aG (fracL a.x))), (11, (aG (fracL a.x)))]) (fun β => sF (by kernel_rfl)) (fun β => op_call (args := [(aG (fracL a.x)), (aG (fracL a.x))]) (caps := [(pP bk 0)]) (all := [(aG (fracL a.x)), (aG (fracL a.x)), (pP bk 0)]) rfl rfl rfl Tryz.call104) (fun β w hw => scale1_ok a.x a.x k bk (by omega) w (hw.old (by simp) hk))) (vC (vc_pure0 (G := fun β => [(2, (Value.func (.func 104) #[] #[(pP bk 0)]))]) (fun β => sF (by kernel_rfl)) (fun β _ => ex_move rfl)) (vC (vc_pure0 (G := fun β => [(3, (pP b1 0))]) (fun β => sF (by kernel_rfl)) (fun β _ => ex_fieldAddr rfl Tryz.underlying38 rfl Tryz.sizeOf36 rfl)) (vC (vc_held0 (G := fun β => [(14, (pP b1 5))]) (fun β => sF (by kernel_rfl)) (fun β => ex_load_agg (i := 1) (vs := fracL a.y) rfl rfl Tryz.isAgg36 Tryz.sizeOf36 rfl rfl)) (vC (vc_pure0 (G := fun β => [(4, (pP b2 0))]) (fun β => sF (by kernel_rfl)) (fun β _ => ex_fieldAddr rfl Tryz.underlying38 rfl Tryz.sizeOf36 rfl)) (vC (vc_held0 (G := fun β => [(16, (pP b2 5))]) (fun β => sF (by kernel_rfl)) (fun β => ex_load_agg (i := 0) (vs := fracL a.y) rfl rfl Tryz.isAgg36 Tryz.sizeOf36 rfl rfl)) (vC (vc_call0 (G := fun β => [(13, (Value.func (.func 104) #[] #[(pP bk 0)])), (15, (aG (fracL a.y))), (17, (aG (fracL a.y)))]) (fun β => sF (by kernel_rfl)) (fun β => op_call (args := [(aG (fracL a.y)), (aG (fracL a.y))]) (caps := [(pP bk 0)]) (all := [(aG (fracL a.y)), (aG (fracL a.y)), (pP bk 0)]) rfl rfl rfl Tryz.call104) (fun β w hw => scale1_ok a.y a.y k bk (by omega) w (hw.old (by simp) hk))) (vC (vc_pure0 (G := fun β => [(12, (aG (fracL (a.x * k)))), (18, (aG (fracL (a.y * k))))]) (fun β => sF (by kernel_rfl)) (fun β _ => ex_build_struct (zs := ptL (⟨0, 0⟩ : Pt)) (vs := fracL (a.x * k) ++ fracL (a.y * k)) (pv := [(0, (aG (fracL (a.x * k)))), (1, (aG (fracL (a.y * k))))]) (places := [(0, 5), (5, 5)]) Tryz.zeroValue38 Tryz.underlying38 (fun w => by simp [Tryz.sizeOf36]) rfl (fill_numm_38_0fracL_1fracL (a.x * k) (a.y * k)))) (VcAll.nil)))))))))))))) (fun β => ?_)
  refine OkLH.sub (F' := [(6, (pP b3 0)), (19, (aG (fracL (a.x * k) ++ fracL (a.y * k))))]) (L' := [blk b3 38 (ptL (⟨0, 0⟩ : Pt)), blk b2 38 (ptL a), blk b1 38 (ptL a)]) (sF rfl) (List.Sublist.refl _) ?_
  refine OkLH.store' (i := 0) (off := 0) (vs := fracL (a.x * k) ++ fracL (a.y * k)) (cs' := fracL (a.x * k) ++ fracL (a.y * k)) (L' := [blk b3 38 (fracL (a.x * k) ++ fracL (a.y * k)), blk b2 38 (ptL a), blk b1 38 (ptL a)]) (List.Sublist.cons _ (List.Sublist.refl _)) (wt_none rfl) rfl rfl rfl rfl rfl Tryz.sizeOf38 rfl rfl rfl rfl ?_
  refine OkLH.nil ?_
  refine OkQ.subF (sC 6 rfl (sN)) ?_
  refine OkQ.then_ ?_
  refine OkC.ret ?_
  exact ret_one rfl (rd_agg (i := 0) (cs := fracL (a.x * k) ++ fracL (a.y * k)) rfl rfl Tryz.isAgg38 Tryz.sizeOf38 rfl) (fun w hw => ⟨by rw [ptL_scale], hw.out⟩)

theorem pAdd_ok (a b : Pt) (hs : SzP a + SzP b ≤ 68719476736) (w : World)  : Calls Tryz.prog 38 #[(aG (ptL a)), (aG (ptL b))] w (Gives w (aG (ptL (a + b)))) := by
  refine calls_of (args := [(aG (ptL a)), (aG (ptL b))]) Tryz.func38 rfl rfl (leB rfl) ?_
  refine OkC.subF (sC 0 rfl (sC 1 rfl (sN))) ?_
  refine q4 ?_
  refine OkL.open_ (T := 38) (cs := ptL a) (wt_none rfl) (op_box (cs := ptL a) rfl rfl) rfl (leB rfl) ?_; intro b1
  refine OkL.open_ (T := 38) (cs := ptL b) (wt_none rfl) (op_box (cs := ptL b) rfl rfl) rfl (leB rfl) ?_; intro b2
  refine OkL.open_ (T := 38) (cs := ptL (⟨0, 0⟩ : Pt)) (wt_none rfl) (op_alloc (cs := ptL (⟨0, 0⟩ : Pt)) Tryz.zeroValue38 rfl) rfl (leB rfl) ?_; intro b3
  refine q3 (sC 2 rfl (sC 3 rfl (sC 4 rfl (sN)))) ?_
  refine st (ex_load_agg (i := 2) (vs := ptL a) rfl rfl Tryz.isAgg38 Tryz.sizeOf38 rfl rfl) (leB rfl) ?_
  refine st (ex_load_agg (i := 1) (vs := ptL b) rfl rfl Tryz.isAgg38 Tryz.sizeOf38 rfl rfl) (leB rfl) ?_
  refine OkL.call (v := (aG (ptL (a + b)))) (wt_none rfl) (op_call0 (args := [(aG (ptL a)), (aG (ptL b)), (Value.func (.func 41) #[] #[])]) rfl rfl Tryz.call79) (fun w hw => both_add_ok a b (by omega) w) rfl (leB rfl) ?_
  refine OkL.store' (i := 0) (off := 0) (vs := ptL (a + b)) (cs' := ptL (a + b)) (L' := [blk b3 38 (ptL (a + b)), blk b2 38 (ptL b), blk b1 38 (ptL a)]) (wt_none rfl) rfl rfl rfl rfl rfl Tryz.sizeOf38 rfl rfl rfl rfl ?_
  refine OkL.nil ?_
  refine OkQ.subF (sC 4 rfl (sN)) ?_
  refine OkQ.then_ ?_
  refine OkC.ret ?_
  exact ret_one rfl (rd_agg (i := 0) (cs := ptL (a + b)) rfl rfl Tryz.isAgg38 Tryz.sizeOf38 rfl) (fun w hw => ⟨rfl, hw.out⟩)

theorem pSub_ok (a b : Pt) (hs : SzP a + SzP b ≤ 68719476736) (w : World)  : Calls Tryz.prog 48 #[(aG (ptL a)), (aG (ptL b))] w (Gives w (aG (ptL (a - b)))) := by
  refine calls_of (args := [(aG (ptL a)), (aG (ptL b))]) Tryz.func48 rfl rfl (leB rfl) ?_
  refine OkC.subF (sC 0 rfl (sC 1 rfl (sN))) ?_
  refine q4 ?_
  refine OkL.open_ (T := 38) (cs := ptL a) (wt_none rfl) (op_box (cs := ptL a) rfl rfl) rfl (leB rfl) ?_; intro b1
  refine OkL.open_ (T := 38) (cs := ptL b) (wt_none rfl) (op_box (cs := ptL b) rfl rfl) rfl (leB rfl) ?_; intro b2
  refine OkL.open_ (T := 38) (cs := ptL (⟨0, 0⟩ : Pt)) (wt_none rfl) (op_alloc (cs := ptL (⟨0, 0⟩ : Pt)) Tryz.zeroValue38 rfl) rfl (leB rfl) ?_; intro b3
  refine q3 (sC 2 rfl (sC 3 rfl (sC 4 rfl (sN)))) ?_
  refine st (ex_load_agg (i := 2) (vs := ptL a) rfl rfl Tryz.isAgg38 Tryz.sizeOf38 rfl rfl) (leB rfl) ?_
  refine st (ex_load_agg (i := 1) (vs := ptL b) rfl rfl Tryz.isAgg38 Tryz.sizeOf38 rfl rfl) (leB rfl) ?_
  refine OkL.call (v := (aG (ptL (a - b)))) (wt_none rfl) (op_call0 (args := [(aG (ptL a)), (aG (ptL b)), (Value.func (.func 39) #[] #[])]) rfl rfl Tryz.call79) (fun w hw => both_sub_ok a b (by omega) w) rfl (leB rfl) ?_
  refine OkL.store' (i := 0) (off := 0) (vs := ptL (a - b)) (cs' := ptL (a - b)) (L' := [blk b3 38 (ptL (a - b)), blk b2 38 (ptL b), blk b1 38 (ptL a)]) (wt_none rfl) rfl rfl rfl rfl rfl Tryz.sizeOf38 rfl rfl rfl rfl ?_
  refine OkL.nil ?_
  refine OkQ.subF (sC 4 rfl (sN)) ?_
  refine OkQ.then_ ?_
  refine OkC.ret ?_
  exact ret_one rfl (rd_agg (i := 0) (cs := ptL (a - b)) rfl rfl Tryz.isAgg38 Tryz.sizeOf38 rfl) (fun w hw => ⟨rfl, hw.out⟩)

theorem pScale_ok (a : Pt) (k : Rat) (hs : SzP a + Sz k ≤ 137438953472) (w : World)  : Calls Tryz.prog 64 #[(aG (ptL a)), (aG (fracL k))] w (Gives w (aG (ptL (scaleP a k)))) := by
  refine calls_of (args := [(aG (ptL a)), (aG (fracL k))]) Tryz.func64 rfl rfl (leB rfl) ?_
  refine OkC.subF (sC 0 rfl (sC 1 rfl (sN))) ?_
  refine q4 ?_
  refine OkL.open_ (T := 38) (cs := ptL a) (wt_none rfl) (op_box (cs := ptL a) rfl rfl) rfl (leB rfl) ?_; intro b1
  refine OkL.open_ (T := 36) (cs := fracL k) (wt_none rfl) (op_box (cs := fracL k) rfl rfl) rfl (leB rfl) ?_; intro b2
  refine OkL.open_ (T := 38) (cs := ptL (⟨0, 0⟩ : Pt)) (wt_none rfl) (op_alloc (cs := ptL (⟨0, 0⟩ : Pt)) Tryz.zeroValue38 rfl) rfl (leB rfl) ?_; intro b3
  refine q3 (sC 2 rfl (sC 3 rfl (sC 4 rfl (sN)))) ?_
  refine st (ex_load_agg (i := 2) (vs := ptL a) rfl rfl Tryz.isAgg38 Tryz.sizeOf38 rfl rfl) (leB rfl) ?_
  refine st (ex_load_agg (i := 2) (vs := ptL a) rfl rfl Tryz.isAgg38 Tryz.sizeOf38 rfl rfl) (leB rfl) ?_
  refine st (v := (Value.func (.func 104) #[] #[(pP b2 0)])) (ex_makeFunc (vs := []) (us := [(pP b2 0)]) rfl rfl) (leB rfl) ?_
  refine OkL.call (v := (aG (ptL (scaleP a k)))) (wt_none rfl) (op_call0 (args := [(aG (ptL a)), (aG (ptL a)), (Value.func (.func 104) #[] #[(pP b2 0)])]) rfl rfl Tryz.call79) (fun w hw => both_scale_ok a k b2 (by omega) w (hw.get (i := 1) rfl)) rfl (leB rfl) ?_
  refine OkL.store' (i := 0) (off := 0) (vs := ptL (scaleP a k)) (cs' := ptL (scaleP a k)) (L' := [blk b3 38 (ptL (scaleP a k)), blk b2 36 (fracL k), blk b1 38 (ptL a)]) (wt_none rfl) rfl rfl rfl rfl rfl Tryz.sizeOf38 rfl rfl rfl rfl ?_
  refine OkL.nil ?_
  refine OkQ.subF (sC 4 rfl (sN)) ?_
  refine OkQ.then_ ?_
  refine OkC.ret ?_
  exact ret_one rfl (rd_agg (i := 0) (cs := ptL (scaleP a k)) rfl rfl Tryz.isAgg38 Tryz.sizeOf38 rfl) (fun w hw => ⟨rfl, hw.out⟩)

theorem pCross_ok (a b : Pt) (hs : SzP a + SzP b ≤ 68719476736) (w : World)  : Calls Tryz.prog 63 #[(aG (ptL a)), (aG (ptL b))] w (Gives w (aG (fracL (crossP a b)))) := by
  have p1 := SzP_x a
  have p2 := SzP_y a
  have p3 := SzP_x b
  have p4 := SzP_y b
  refine calls_of (args := [(aG (ptL a)), (aG (ptL b))]) Tryz.func63 rfl rfl (leB rfl) ?_
  refine OkC.subF (sC 0 rfl (sC 1 rfl (sN))) ?_
  refine q4 ?_
  refine OkL.open_ (T := 38) (cs := ptL a) (wt_none rfl) (op_box (cs := ptL a) rfl rfl) rfl (leB rfl) ?_; intro b1
  refine OkL.open_ (T := 38) (cs := ptL b) (wt_none rfl) (op_box (cs := ptL b) rfl rfl) rfl (leB rfl) ?_; intro b2
  refine OkL.open_ (T := 36) (cs := fracL (0 : Rat)) (wt_none rfl) (op_alloc (cs := fracL (0 : Rat)) Tryz.zeroValue36 rfl) rfl (leB rfl) ?_; intro b3
  refine q6 (sC 2 rfl (sC 3 rfl (sC 4 rfl (sN)))) ?_
  have hz1 := Sz_mul a.x b.y
  have hz2 := Sz_mul a.y b.x
  have hz3 := Sz_sub (a.x * b.y) (a.y * b.x)
  refine dR (specs := [⟨.pure, fun _ => (pP b1 0), [], 0, []⟩, ⟨.held, fun _ => (aG (fracL a.x)), [], 0, []⟩, ⟨.pure, fun _ => (pP b2 5), [], 0, []⟩, ⟨.held, fun _ => (aG (fracL b.y)), [], 0, []⟩, ⟨.call, fun _ => (aG (fracL (a.x * b.y))), [], 0, []⟩, ⟨.pure, fun _ => (pP b1 5), [], 0, []⟩, ⟨.held, fun _ => (aG (fracL a.y)), [], 0, []⟩, ⟨.pure, fun _ => (pP b2 0), [], 0, []⟩, ⟨.held, fun _ => (aG (fracL b.x)), [], 0, []⟩, ⟨.call, fun _ => (aG (fracL (a.y * b.x))), [], 0, []⟩, ⟨.call, fun _ => (aG (fracL ((a.x * b.y) - (a.y * b.x)))), [], 0, []⟩]) (Lro := [blk b2 38 (ptL b), blk b1 38 (ptL a)]) (List.Sublist.cons _ (List.Sublist.refl _)) (dC (dC (dC (dC (dC (dC (dC (dC (dC (dC (dC (dN)))))))))))) (by kernel_rfl) (by kernel_rfl) (fun _ _ d _ _ h => by cases d <;> exact h) (vC (vc_pure0 (G := fun β => [(2, (pP b1 0))]) (fun β => sF (by kernel_rfl)) (fun β _ => ex_fieldAddr rfl Tryz.underlying38 rfl Tryz.sizeOf36 rfl)) (vC (vc_held0 (G := fun β => [(5, (pP b1 0))]) (fun β => sF (by kernel_rfl)) (fun β => ex_load_agg (i := 1) (vs := fracL a.x) rfl rfl Tryz.isAgg36 Tryz.sizeOf36 rfl rfl)) (vC (vc_pure0 (G := fun β => [(3, (pP b2 0))]) (fun β => sF (by kernel_rfl)) (fun β _ => ex_fieldAddr rfl Tryz.underlying38 rfl Tryz.sizeOf36 rfl)) (vC (vc_held0 (G := fun β => [(7, (pP b2 5))]) (fun β => sF (by kernel_rfl)) (fun β => ex_load_agg (i := 0) (vs := fracL b.y) rfl rfl Tryz.isAgg36 Tryz.sizeOf36 rfl rfl)) (vC (vc_call0 (G := fun β => [(6, (aG (fracL a.x))), (8, (aG (fracL b.y)))]) (fun β => sF (by kernel_rfl)) (fun β => op_call0 (args := [(aG (fracL a.x)), (aG (fracL b.y))]) rfl rfl Tryz.call40) (fun β w hw => fMul_ok a.x b.y (by (try simp only [Sz_neg]); omega) w)) (vC (vc_pure0 (G := fun β => [(2, (pP b1 0))]) (fun β => sF (by kernel_rfl)) (fun β _ => ex_fieldAddr rfl Tryz.underlying38 rfl Tryz.sizeOf36 rfl)) (vC (vc_held0 (G := fun β => [(10, (pP b1 5))]) (fun β => sF (by kernel_rfl)) (fun β => ex_load_agg (i := 1) (vs := fracL a.y) rfl rfl Tryz.isAgg36 Tryz.sizeOf36 rfl rfl)) (vC (vc_pure0 (G := fun β => [(3, (pP b2 0))]) (fun β => sF (by kernel_rfl)) (fun β _ => ex_fieldAddr rfl Tryz.underlying38 rfl Tryz.sizeOf36 rfl)) (vC (vc_held0 (G := fun β => [(12, (pP b2 0))]) (fun β => sF (by kernel_rfl)) (fun β => ex_load_agg (i := 0) (vs := fracL b.x) rfl rfl Tryz.isAgg36 Tryz.sizeOf36 rfl rfl)) (vC (vc_call0 (G := fun β => [(11, (aG (fracL a.y))), (13, (aG (fracL b.x)))]) (fun β => sF (by kernel_rfl)) (fun β => op_call0 (args := [(aG (fracL a.y)), (aG (fracL b.x))]) rfl rfl Tryz.call40) (fun β w hw => fMul_ok a.y b.x (by (try simp only [Sz_neg]); omega) w)) (vC (vc_call0 (G := fun β => [(9, (aG (fracL (a.x * b.y)))), (14, (aG (fracL (a.y * b.x))))]) (fun β => sF (by kernel_rfl)) (fun β => op_call0 (args := [(aG (fracL (a.x * b.y))), (aG (fracL (a.y * b.x)))]) rfl rfl Tryz.call39) (fun β w hw => fSub_ok (a.x * b.y) (a.y * b.x) (by (try simp only [Sz_neg]); omega) w)) (VcAll.nil)))))))))))) (fun β => ?_)
  refine OkLH.sub (F' := [(4, (pP b3 0)), (15, (aG (fracL ((a.x * b.y) - (a.y * b.x)))))]) (L' := [blk b3 36 (fracL (0 : Rat)), blk b2 38 (ptL b), blk b1 38 (ptL a)]) (sF rfl) (List.Sublist.refl _) ?_
  refine OkLH.store' (i := 0) (off := 0) (vs := fracL ((a.x * b.y) - (a.y * b.x))) (cs' := fracL ((a.x * b.y) - (a.y * b.x))) (L' := [blk b3 36 (fracL ((a.x * b.y) - (a.y * b.x))), blk b2 38 (ptL b), blk b1 38 (ptL a)]) (List.Sublist.cons _ (List.Sublist.refl _)) (wt_none rfl) rfl rfl rfl rfl rfl Tryz.sizeOf36 rfl rfl rfl rfl ?_
  refine OkLH.nil ?_
  refine OkQ.subF (sC 4 rfl (sN)) ?_
  refine OkQ.then_ ?_
  refine OkC.ret ?_
  exact ret_one rfl (rd_agg (i := 0) (cs := fracL ((a.x * b.y) - (a.y * b.x))) rfl rfl Tryz.isAgg36 Tryz.sizeOf36 rfl) (fun w hw => ⟨rfl, hw.out⟩)

theorem pDot_ok (a b : Pt) (hs : SzP a + SzP b ≤ 68719476736) (w : World)  : Calls Tryz.prog 47 #[(aG (ptL a)), (aG (ptL b))] w (Gives w (aG (fracL (dotP a b)))) := by
  have p1 := SzP_x a
  have p2 := SzP_y a
  have p3 := SzP_x b
  have p4 := SzP_y b
  refine calls_of (args := [(aG (ptL a)), (aG (ptL b))]) Tryz.func47 rfl rfl (leB rfl) ?_
  refine OkC.subF (sC 0 rfl (sC 1 rfl (sN))) ?_
  refine q4 ?_
  refine OkL.open_ (T := 38) (cs := ptL a) (wt_none rfl) (op_box (cs := ptL a) rfl rfl) rfl (leB rfl) ?_; intro b1
  refine OkL.open_ (T := 38) (cs := ptL b) (wt_none rfl) (op_box (cs := ptL b) rfl rfl) rfl (leB rfl) ?_; intro b2
  refine OkL.open_ (T := 36) (cs := fracL (0 : Rat)) (wt_none rfl) (op_alloc (cs := fracL (0 : Rat)) Tryz.zeroValue36 rfl) rfl (leB rfl) ?_; intro b3
  refine q6 (sC 2 rfl (sC 3 rfl (sC 4 rfl (sN)))) ?_
  have hz1 := Sz_mul a.x b.x
  have hz2 := Sz_mul a.y b.y
  have hz3 := Sz_add (a.x * b.x) (a.y * b.y)
  refine dR (specs := [⟨.pure, fun _ => (pP b1 0), [], 0, []⟩, ⟨.held, fun _ => (aG (fracL a.x)), [], 0, []⟩, ⟨.pure, fun _ => (pP b2 0), [], 0, []⟩, ⟨.held, fun _ => (aG (fracL b.x)), [], 0, []⟩, ⟨.call, fun _ => (aG (fracL (a.x * b.x))), [], 0, []⟩, ⟨.pure, fun _ => (pP b1 5), [], 0, []⟩, ⟨.held, fun _ => (aG (fracL a.y)), [], 0, []⟩, ⟨.pure, fun _ => (pP b2 5), [], 0, []⟩, ⟨.held, fun _ => (aG (fracL b.y)), [], 0, []⟩, ⟨.call, fun _ => (aG (fracL (a.y * b.y))), [], 0, []⟩, ⟨.call, fun _ => (aG (fracL ((a.x * b.x) + (a.y * b.y)))), [], 0, []⟩]) (Lro := [blk b2 38 (ptL b), blk b1 38 (ptL a)]) (List.Sublist.cons _ (List.Sublist.refl _)) (dC (dC (dC (dC (dC (dC (dC (dC (dC (dC (dC (dN)))))))))))) (by kernel_rfl) (by kernel_rfl) (fun _ _ d _ _ h => by cases d <;> exact h) (vC (vc_pure0 (G := fun β => [(2, (pP b1 0))]) (fun β => sF (by kernel_rfl)) (fun β _ => ex_fieldAddr rfl Tryz.underlying38 rfl Tryz.sizeOf36 rfl)) (vC (vc_held0 (G := fun β => [(5, (pP b1 0))]) (fun β => sF (by kernel_rfl)) (fun β => ex_load_agg (i := 1) (vs := fracL a.x) rfl rfl Tryz.isAgg36 Tryz.sizeOf36 rfl rfl)) (vC (vc_pure0 (G := fun β => [(3, (pP b2 0))]) (fun β => sF (by kernel_rfl)) (fun β _ => ex_fieldAddr rfl Tryz.underlying38 rfl Tryz.sizeOf36 rfl)) (vC (vc_held0 (G := fun β => [(7, (pP b2 0))]) (fun β => sF (by kernel_rfl)) (fun β => ex_load_agg (i := 0) (vs := fracL b.x) rfl rfl Tryz.isAgg36 Tryz.sizeOf36 rfl rfl)) (vC (vc_call0 (G := fun β => [(6, (aG (fracL a.x))), (8, (aG (fracL b.x)))]) (fun β => sF (by kernel_rfl)) (fun β => op_call0 (args := [(aG (fracL a.x)), (aG (fracL b.x))]) rfl rfl Tryz.call40) (fun β w hw => fMul_ok a.x b.x (by (try simp only [Sz_neg]); omega) w)) (vC (vc_pure0 (G := fun β => [(2, (pP b1 0))]) (fun β => sF (by kernel_rfl)) (fun β _ => ex_fieldAddr rfl Tryz.underlying38 rfl Tryz.sizeOf36 rfl)) (vC (vc_held0 (G := fun β => [(10, (pP b1 5))]) (fun β => sF (by kernel_rfl)) (fun β => ex_load_agg (i := 1) (vs := fracL a.y) rfl rfl Tryz.isAgg36 Tryz.sizeOf36 rfl rfl)) (vC (vc_pure0 (G := fun β => [(3, (pP b2 0))]) (fun β => sF (by kernel_rfl)) (fun β _ => ex_fieldAddr rfl Tryz.underlying38 rfl Tryz.sizeOf36 rfl)) (vC (vc_held0 (G := fun β => [(12, (pP b2 5))]) (fun β => sF (by kernel_rfl)) (fun β => ex_load_agg (i := 0) (vs := fracL b.y) rfl rfl Tryz.isAgg36 Tryz.sizeOf36 rfl rfl)) (vC (vc_call0 (G := fun β => [(11, (aG (fracL a.y))), (13, (aG (fracL b.y)))]) (fun β => sF (by kernel_rfl)) (fun β => op_call0 (args := [(aG (fracL a.y)), (aG (fracL b.y))]) rfl rfl Tryz.call40) (fun β w hw => fMul_ok a.y b.y (by (try simp only [Sz_neg]); omega) w)) (vC (vc_call0 (G := fun β => [(9, (aG (fracL (a.x * b.x)))), (14, (aG (fracL (a.y * b.y))))]) (fun β => sF (by kernel_rfl)) (fun β => op_call0 (args := [(aG (fracL (a.x * b.x))), (aG (fracL (a.y * b.y)))]) rfl rfl Tryz.call41) (fun β w hw => fAdd_ok (a.x * b.x) (a.y * b.y) (by (try simp only [Sz_neg]); omega) w)) (VcAll.nil)))))))))))) (fun β => ?_)
  refine OkLH.sub (F' := [(4, (pP b3 0)), (15, (aG (fracL ((a.x * b.x) + (a.y * b.y)))))]) (L' := [blk b3 36 (fracL (0 : Rat)), blk b2 38 (ptL b), blk b1 38 (ptL a)]) (sF rfl) (List.Sublist.refl _) ?_
  refine OkLH.store' (i := 0) (off := 0) (vs := fracL ((a.x * b.x) + (a.y * b.y))) (cs' := fracL ((a.x * b.x) + (a.y * b.y))) (L' := [blk b3 36 (fracL ((a.x * b.x) + (a.y * b.y))), blk b2 38 (ptL b), blk b1 38 (ptL a)]) (List.Sublist.cons _ (List.Sublist.refl _)) (wt_none rfl) rfl rfl rfl rfl rfl Tryz.sizeOf36 rfl rfl rfl rfl ?_
  refine OkLH.nil ?_
  refine OkQ.subF (sC 4 rfl (sN)) ?_
  refine OkQ.then_ ?_
  refine OkC.ret ?_
  exact ret_one rfl (rd_agg (i := 0) (cs := fracL ((a.x * b.x) + (a.y * b.y))) rfl rfl Tryz.isAgg36 Tryz.sizeOf36 rfl) (fun w hw => ⟨rfl, hw.out⟩)

theorem pTurn_ok (a b c : Pt) (hs : SzP a + SzP b + SzP c ≤ 17179869184) (w : World)  : Calls Tryz.prog 50 #[(aG (ptL a)), (aG (ptL b)), (aG (ptL c))] w (Gives w (vI ((turnP a b c).num.sign))) := by
  refine calls_of (args := [(aG (ptL a)), (aG (ptL b)), (aG (ptL c))]) Tryz.func50 rfl rfl (leB rfl) ?_
  refine OkC.subF (sC 0 rfl (sC 1 rfl (sC 2 rfl (sN)))) ?_
  refine q4 ?_
  refine OkL.open_ (T := 38) (cs := ptL a) (wt_none rfl) (op_box (cs := ptL a) rfl rfl) rfl (leB rfl) ?_; intro b1
  refine OkL.open_ (T := 38) (cs := ptL b) (wt_none rfl) (op_box (cs := ptL b) rfl rfl) rfl (leB rfl) ?_; intro b2
  refine OkL.open_ (T := 38) (cs := ptL c) (wt_none rfl) (op_box (cs := ptL c) rfl rfl) rfl (leB rfl) ?_; intro b3
  refine st (ex_assign rfl) (leB rfl) ?_
  refine q6 (sC 3 rfl (sC 4 rfl (sC 5 rfl (sC 6 rfl (sN))))) ?_
  have hz1 := SzP_sub b a
  have hz2 := SzP_sub c a
  have hz3 := Sz_cross (b - a) (c - a)
  refine dR (specs := [⟨.held, fun _ => (aG (ptL b)), [], 0, []⟩, ⟨.held, fun _ => (aG (ptL a)), [], 0, []⟩, ⟨.call, fun _ => (aG (ptL (b - a))), [], 0, []⟩, ⟨.held, fun _ => (aG (ptL c)), [], 0, []⟩, ⟨.held, fun _ => (aG (ptL a)), [], 0, []⟩, ⟨.call, fun _ => (aG (ptL (c - a))), [], 0, []⟩, ⟨.call, fun _ => (aG (fracL (crossP (b - a) (c - a)))), [], 0, []⟩, ⟨.call, fun _ => (vI ((crossP (b - a) (c - a)).num.sign)), [], 0, []⟩]) (Lro := [blk b3 38 (ptL c), blk b2 38 (ptL b), blk b1 38 (ptL a)]) (List.Sublist.refl _) (dC (dC (dC (dC (dC (dC (dC (dC (dN))))))))) (by kernel_rfl) (by kernel_rfl) (fun _ _ d _ _ h => by cases d <;> exact h) (vC (vc_held0 (G := fun β => [(4, (pP b2 0))]) (fun β => sF (by kernel_rfl)) (fun β => ex_load_agg (i := 1) (vs := ptL b) rfl rfl Tryz.isAgg38 Tryz.sizeOf38 rfl rfl)) (vC (vc_held0 (G := fun β => [(3, (pP b1 0))]) (fun β => sF (by kernel_rfl)) (fun β => ex_load_agg (i := 2) (vs := ptL a) rfl rfl Tryz.isAgg38 Tryz.sizeOf38 rfl rfl)) (vC (vc_call0 (G := fun β => [(7, (aG (ptL b))), (8, (aG (ptL a)))]) (fun β => sF (by kernel_rfl)) (fun β => op_call0 (args := [(aG (ptL b)), (aG (ptL a))]) rfl rfl Tryz.call48) (fun β w hw => pSub_ok b a (by omega) w)) (vC (vc_held0 (G := fun β => [(5, (pP b3 0))]) (fun β => sF (by kernel_rfl)) (fun β => ex_load_agg (i := 0) (vs := ptL c) rfl rfl Tryz.isAgg38 Tryz.sizeOf38 rfl rfl)) (vC (vc_held0 (G := fun β => [(3, (pP b1 0))]) (fun β => sF (by kernel_rfl)) (fun β => ex_load_agg (i := 2) (vs := ptL a) rfl rfl Tryz.isAgg38 Tryz.sizeOf38 rfl rfl)) (vC (vc_call0 (G := fun β => [(10, (aG (ptL c))), (11, (aG (ptL a)))]) (fun β => sF (by kernel_rfl)) (fun β => op_call0 (args := [(aG (ptL c)), (aG (ptL a))]) rfl rfl Tryz.call48) (fun β w hw => pSub_ok c a (by omega) w)) (vC (vc_call0 (G := fun β => [(9, (aG (ptL (b - a)))), (12, (aG (ptL (c - a))))]) (fun β => sF (by kernel_rfl)) (fun β => op_call0 (args := [(aG (ptL (b - a))), (aG (ptL (c - a)))]) rfl rfl Tryz.call63) (fun β w hw => pCross_ok (b - a) (c - a) (by omega) w)) (vC (vc_call0 (G := fun β => [(13, (aG (fracL (crossP (b - a) (c - a)))))]) (fun β => sF (by kernel_rfl)) (fun β => op_call0 (args := [(aG (fracL (crossP (b - a) (c - a))))]) rfl rfl Tryz.call20) (fun β w hw => fSign_ok (crossP (b - a) (c - a)) w)) (VcAll.nil))))))))) (fun β => ?_)
  refine OkLH.sub (F' := [(6, (vI 0)), (14, (vI ((crossP (b - a) (c - a)).num.sign)))]) (L' := [blk b3 38 (ptL c), blk b2 38 (ptL b), blk b1 38 (ptL a)]) (sF rfl) (List.Sublist.refl _) ?_
  refine OkLH.step (v := (vI ((crossP (b - a) (c - a)).num.sign))) (List.Sublist.refl _) (wt_none rfl) (ex_assign rfl) rfl (leB rfl) ?_
  refine OkLH.nil ?_
  refine OkQ.subF (sC 6 rfl (sN)) ?_
  refine OkQ.then_ ?_
  refine OkC.ret ?_
  exact ret_one rfl (rd_tmp (v := (vI ((crossP (b - a) (c - a)).num.sign))) rfl) (fun w hw => ⟨rfl, hw.out⟩)

theorem pSquare_ok (a b : Pt) (hs : SzP a + SzP b ≤ 17179869184) (w : World)  : Calls Tryz.prog 51 #[(aG (ptL a)), (aG (ptL b))] w (Gives w (aG (fracL (dotP (b - a) (b - a))))) := by
  refine calls_of (args := [(aG (ptL a)), (aG (ptL b))]) Tryz.func51 rfl rfl (leB rfl) ?_
  refine OkC.subF (sC 0 rfl (sC 1 rfl (sN))) ?_
  refine q4 ?_
  refine OkL.open_ (T := 38) (cs := ptL a) (wt_none rfl) (op_box (cs := ptL a) rfl rfl) rfl (leB rfl) ?_; intro b1
  refine OkL.open_ (T := 38) (cs := ptL b) (wt_none rfl) (op_box (cs := ptL b) rfl rfl) rfl (leB rfl) ?_; intro b2
  refine OkL.open_ (T := 36) (cs := fracL (0 : Rat)) (wt_none rfl) (op_alloc (cs := fracL (0 : Rat)) Tryz.zeroValue36 rfl) rfl (leB rfl) ?_; intro b3
  refine q3 (sC 2 rfl (sC 3 rfl (sC 4 rfl (sN)))) ?_
  refine st (ex_load_agg (i := 1) (vs := ptL b) rfl rfl Tryz.isAgg38 Tryz.sizeOf38 rfl rfl) (leB rfl) ?_
  refine st (ex_load_agg (i := 2) (vs := ptL a) rfl rfl Tryz.isAgg38 Tryz.sizeOf38 rfl rfl) (leB rfl) ?_
  have hz1 := SzP_sub b a
  refine OkL.call (v := (aG (ptL (b - a)))) (wt_none rfl) (op_call0 (args := [(aG (ptL b)), (aG (ptL a))]) rfl rfl Tryz.call48) (fun w hw => pSub_ok b a (by omega) w) rfl (leB rfl) ?_
  refine OkL.open_ (T := 38) (cs := ptL (⟨0, 0⟩ : Pt)) (wt_none rfl) (op_alloc (cs := ptL (⟨0, 0⟩ : Pt)) Tryz.zeroValue38 rfl) rfl (leB rfl) ?_; intro b4
  refine OkL.store' (i := 0) (off := 0) (vs := ptL (b - a)) (cs' := ptL (b - a)) (L' := [blk b4 38 (ptL (b - a)), blk b3 36 (fracL (0 : Rat)), blk b2 38 (ptL b), blk b1 38 (ptL a)]) (wt_none rfl) rfl rfl rfl rfl rfl Tryz.sizeOf38 rfl rfl rfl rfl ?_
  refine q3 (sC 4 rfl (sC 5 rfl (sN))) ?_
  refine st (ex_load_agg (i := 0) (vs := ptL (b - a)) rfl rfl Tryz.isAgg38 Tryz.sizeOf38 rfl rfl) (leB rfl) ?_
  refine st (ex_load_agg (i := 0) (vs := ptL (b - a)) rfl rfl Tryz.isAgg38 Tryz.sizeOf38 rfl rfl) (leB rfl) ?_
  have hz2 := Sz_dot (b - a) (b - a)
  refine OkL.call (v := (aG (fracL (dotP (b - a) (b - a))))) (wt_none rfl) (op_call0 (args := [(aG (ptL (b - a))), (aG (ptL (b - a)))]) rfl rfl Tryz.call47) (fun w hw => pDot_ok (b - a) (b - a) (by omega) w) rfl (leB rfl) ?_
  refine OkL.store' (i := 1) (off := 0) (vs := fracL (dotP (b - a) (b - a))) (cs' := fracL (dotP (b - a) (b - a))) (L' := [blk b4 38 (ptL (b - a)), blk b3 36 (fracL (dotP (b - a) (b - a))), blk b2 38 (ptL b), blk b1 38 (ptL a)]) (wt_none rfl) rfl rfl rfl rfl rfl Tryz.sizeOf36 rfl rfl rfl rfl ?_
  refine OkL.nil ?_
  refine OkQ.subF (sC 4 rfl (sC 5 rfl (sN))) ?_
  refine OkQ.then_ ?_
  refine OkC.ret ?_
  exact ret_one rfl (rd_agg (i := 1) (cs := fracL (dotP (b - a) (b - a))) rfl rfl Tryz.isAgg36 Tryz.sizeOf36 rfl) (fun w hw => ⟨rfl, hw.out⟩)

theorem pInt_ok (x y : Int) (h1 : -9223372036854775808 ≤ x) (h2 : x < 9223372036854775808) (h3 : -9223372036854775808 ≤ y) (h4 : y < 9223372036854775808) (w : World)  : Calls Tryz.prog 36 #[(vI x), (vI y)] w (Gives w (aG (ptL (⟨((x : Int) : Rat), ((y : Int) : Rat)⟩ : Pt)))) := by
  refine calls_of (args := [(vI x), (vI y)]) Tryz.func36 rfl rfl (leB rfl) ?_
  refine OkC.subF (sC 0 rfl (sC 1 rfl (sN))) ?_
  refine q4 ?_
  refine OkL.open_ (T := 38) (cs := ptL (⟨0, 0⟩ : Pt)) (wt_none rfl) (op_alloc (cs := ptL (⟨0, 0⟩ : Pt)) Tryz.zeroValue38 rfl) rfl (leB rfl) ?_; intro b1
  refine OkL.nil ?_
  refine q2 ?_
  refine st (ex_move rfl) (leB rfl) ?_
  refine OkL.call (v := (aG (fracL ((x : Int) : Rat)))) (wt_none rfl) (op_call0 (args := [(vI x)]) rfl rfl Tryz.call44) (fun w hw => fInt_ok x (by omega) (by omega) w) rfl (leB rfl) ?_
  refine st (ex_move rfl) (leB rfl) ?_
  refine OkL.call (v := (aG (fracL ((y : Int) : Rat)))) (wt_none rfl) (op_call0 (args := [(vI y)]) rfl rfl Tryz.call44) (fun w hw => fInt_ok y (by omega) (by omega) w) rfl (leB rfl) ?_
  refine st (v := (aG (fracL ((x : Int) : Rat) ++ fracL ((y : Int) : Rat)))) (ex_build_struct (zs := ptL (⟨0, 0⟩ : Pt)) (vs := fracL ((x : Int) : Rat) ++ fracL ((y : Int) : Rat)) (pv := [(0, (aG (fracL ((x : Int) : Rat)))), (1, (aG (fracL ((y : Int) : Rat))))]) (places := [(0, 5), (5, 5)]) Tryz.zeroValue38 Tryz.underlying38 (fun w => by simp [Tryz.sizeOf36]) rfl (fill_numm_38_0fracL_1fracL ((x : Int) : Rat) ((y : Int) : Rat))) (leB rfl) ?_
  refine OkL.store' (i := 0) (off := 0) (vs := fracL ((x : Int) : Rat) ++ fracL ((y : Int) : Rat)) (cs' := fracL ((x : Int) : Rat) ++ fracL ((y : Int) : Rat)) (L' := [blk b1 38 (fracL ((x : Int) : Rat) ++ fracL ((y : Int) : Rat))]) (wt_none rfl) rfl rfl rfl rfl rfl Tryz.sizeOf38 rfl rfl rfl rfl ?_
  refine OkL.nil ?_
  refine OkQ.subF (sC 4 rfl (sN)) ?_
  refine OkQ.then_ ?_
  refine OkC.ret ?_
  exact ret_one rfl (rd_agg (i := 0) (cs := fracL ((x : Int) : Rat) ++ fracL ((y : Int) : Rat)) rfl rfl Tryz.isAgg38 Tryz.sizeOf38 rfl) (fun w hw => ⟨by rw [ptL_mk], hw.out⟩)


end Go.Proofs.YtpkoldfmbebmgaaGreatDoor
