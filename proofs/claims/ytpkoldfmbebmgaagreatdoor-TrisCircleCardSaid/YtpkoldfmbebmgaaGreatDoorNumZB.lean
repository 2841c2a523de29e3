/- Walks, printed by gen.py. -/
import Derived.Test.YtpkoldfmbebmgaaGreatDoorNumZ
import Derived.Test.YtpkoldfmbebmgaaGreatDoorData
namespace Go.Proofs.YtpkoldfmbebmgaaGreatDoor
open Go Go.RowKit
set_option maxRecDepth 100000
set_option linter.unusedVariables false
set_option linter.unusedSimpArgs false

theorem QOf_ok (q : QD) (h : q.ok) (w : World)  : Calls Tryz.prog 29 #[(aG (qdL q))] w (Gives w (aG (fracL (qOf q)))) := by
  obtain ⟨h1, h2, h3⟩ := h
  refine calls_of (args := [(aG (qdL q))]) Tryz.func29 rfl rfl (leB rfl) ?_
  refine OkC.subF (sC 0 rfl (sN)) ?_
  refine q4 ?_
  refine OkL.open_ (T := 24) (cs := qdL q) (wt_none rfl) (op_box (cs := qdL q) rfl rfl) rfl (leB rfl) ?_; intro b1
  refine OkL.open_ (T := 36) (cs := fracL (0 : Rat)) (wt_none rfl) (op_alloc (cs := fracL (0 : Rat)) Tryz.zeroValue36 rfl) rfl (leB rfl) ?_; intro b2
  refine q3 (sC 1 rfl (sC 2 rfl (sN))) ?_
  refine st (v := (pP b1 0)) (ex_fieldAddr rfl Tryz.underlying24 rfl Tryz.sizeOf2 rfl) (leB rfl) ?_
  refine st (ex_load_one (i := 1) (v := (vI q.n)) rfl rfl Tryz.isAgg2 rfl) (leB rfl) ?_
  refine st (v := (pP b1 1)) (ex_fieldAddr rfl Tryz.underlying24 rfl Tryz.sizeOf22 rfl) (leB rfl) ?_
  refine st (ex_load_one (i := 1) (v := (vK .u32 q.d)) rfl rfl Tryz.isAgg22 rfl) (leB rfl) ?_
  refine st (ex_max (c := ((max q.d 1 : Nat) : Int)) rfl rfl (by split <;> omega)) (leB rfl) ?_
  refine st (ex_conv (c := ((max q.d 1 : Nat) : Int)) rfl Tryz.underlying22 Tryz.underlying2 (convN_i64 (by omega))) (leB rfl) ?_
  refine OkL.call (v := (Value.tuple #[(aG (fracL (((q.n : Int) : Rat) / (((max q.d 1 : Nat) : Int) : Rat)))), (vI 0)])) (wt_none rfl) (op_call0 (args := [(vI q.n), (vN (max q.d 1))]) rfl rfl Tryz.call46) (fun w hw => fOf_ok (q.n : Int) ((max q.d 1 : Nat) : Int) (by omega) (by omega) (by omega) (by omega) (by omega) w) rfl (leB rfl) ?_
  refine st (ex_move rfl) (leB rfl) ?_
  refine st (ex_extract (v := (aG (fracL (((q.n : Int) : Rat) / (((max q.d 1 : Nat) : Int) : Rat))))) rfl rfl) (leB rfl) ?_
  refine st (ex_extract (v := (vI 0)) rfl rfl) (leB rfl) ?_
  refine OkL.open_ (T := 36) (cs := fracL (0 : Rat)) (wt_none rfl) (op_alloc (cs := fracL (0 : Rat)) Tryz.zeroValue36 rfl) rfl (leB rfl) ?_; intro b3
  refine OkL.store' (i := 0) (off := 0) (vs := fracL (((q.n : Int) : Rat) / (((max q.d 1 : Nat) : Int) : Rat))) (cs' := fracL (((q.n : Int) : Rat) / (((max q.d 1 : Nat) : Int) : Rat))) (L' := [blk b3 36 (fracL (((q.n : Int) : Rat) / (((max q.d 1 : Nat) : Int) : Rat))), blk b2 36 (fracL (0 : Rat)), blk b1 24 (qdL q)]) (wt_none rfl) rfl rfl rfl rfl rfl Tryz.sizeOf36 rfl rfl rfl rfl ?_
  refine st (ex_assign rfl) (leB rfl) ?_
  refine q3 (sC 2 rfl (sC 3 rfl (sN))) ?_
  refine st (ex_load_agg (i := 0) (vs := fracL (((q.n : Int) : Rat) / (((max q.d 1 : Nat) : Int) : Rat))) rfl rfl Tryz.isAgg36 Tryz.sizeOf36 rfl rfl) (leB rfl) ?_
  refine OkL.store' (i := 1) (off := 0) (vs := fracL (((q.n : Int) : Rat) / (((max q.d 1 : Nat) : Int) : Rat))) (cs' := fracL (((q.n : Int) : Rat) / (((max q.d 1 : Nat) : Int) : Rat))) (L' := [blk b3 36 (fracL (((q.n : Int) : Rat) / (((max q.d 1 : Nat) : Int) : Rat))), blk b2 36 (fracL (((q.n : Int) : Rat) / (((max q.d 1 : Nat) : Int) : Rat))), blk b1 24 (qdL q)]) (wt_none rfl) rfl rfl rfl rfl rfl Tryz.sizeOf36 rfl rfl rfl rfl ?_
  refine OkL.nil ?_
  refine OkQ.subF (sC 2 rfl (sC 3 rfl (sN))) ?_
  refine OkQ.then_ ?_
  refine OkC.ret ?_
  exact ret_one rfl (rd_agg (i := 1) (cs := fracL (((q.n : Int) : Rat) / (((max q.d 1 : Nat) : Int) : Rat))) rfl rfl Tryz.isAgg36 Tryz.sizeOf36 rfl) (fun w hw => ⟨rfl, hw.out⟩)

theorem fill_numzb_38_0fracL_1fracL (x0 : Rat) (x1 : Rat) : Instr.fill ([(0, 5), (5, 5)].toArray[·]?) (ptL (⟨0, 0⟩ : Pt)).toArray [(0, .agg (fracL x0).toArray), (1, .agg (fracL x1).toArray)] = some (fracL x0 ++ fracL x1).toArray := by kernel_rfl
theorem POf_ok (p : PD) (h : p.ok) (w : World)  : Calls Tryz.prog 10 #[(aG (pdL p))] w (Gives w (aG (ptL (ptOf p)))) := by
  have h1 := h.1
  have h2 := h.2
  refine calls_of (args := [(aG (pdL p))]) Tryz.func10 rfl rfl (leB rfl) ?_
  refine OkC.subF (sC 0 rfl (sN)) ?_
  refine q4 ?_
  refine OkL.open_ (T := 26) (cs := pdL p) (wt_none rfl) (op_box (cs := pdL p) rfl rfl) rfl (leB rfl) ?_; intro b1
  refine OkL.open_ (T := 38) (cs := ptL (⟨0, 0⟩ : Pt)) (wt_none rfl) (op_alloc (cs := ptL (⟨0, 0⟩ : Pt)) Tryz.zeroValue38 rfl) rfl (leB rfl) ?_; intro b2
  refine q6 (sC 1 rfl (sC 2 rfl (sN))) ?_
  refine dR (specs := [⟨.pure, fun _ => (pP b1 0), [], 0, []⟩, ⟨.held, fun _ => (aG (qdL p.x)), [], 0, []⟩, ⟨.call, fun _ => (aG (fracL (qOf p.x))), [], 0, []⟩, ⟨.pure, fun _ => (pP b1 2), [], 0, []⟩, ⟨.held, fun _ => (aG (qdL p.y)), [], 0, []⟩, ⟨.call, fun _ => (aG (fracL (qOf p.y))), [], 0, []⟩, ⟨.pure, fun _ => (aG (fracL (qOf p.x) ++ fracL (qOf p.y))), [], 0, []⟩]) (Lro := [blk b1 26 (pdL p)]) (List.Sublist.cons _ (List.Sublist.refl _)) (dC (dC (dC (dC (dC (dC (dC (dN)))))))) (by kernel_rfl) (by kernel_rfl) (fun _ _ d _ _ h => by cases d <;> exact h) (vC (vc_pure0 (G := fun β => [(1, (pP b1 0))]) (fun β => sF (by kernel_rfl)) (fun β _ => ex_fieldAddr rfl Tryz.underlying26 rfl Tryz.sizeOf24 rfl)) (vC (vc_held0 (G := fun β => [(3, (pP b1 0))]) (fun β => sF (by kernel_rfl)) (fun β => ex_load_agg (i := 0) (vs := qdL p.x) rfl rfl Tryz.isAgg24 Tryz.sizeOf24 rfl rfl)) (vC (vc_call0 (G := fun β => [(4, (aG (qdL p.x)))]) (fun β => sF (by kernel_rfl)) (fun β => op_call0 (args := [(aG (qdL p.x))]) rfl rfl Tryz.call29) (fun β w hw => QOf_ok p.x (by assumption) w)) (vC (vc_pure0 (G := fun β => [(1, (pP b1 0))]) (fun β => sF (by kernel_rfl)) (fun β _ => ex_fieldAddr rfl Tryz.underlying26 rfl Tryz.sizeOf24 rfl)) (vC (vc_held0 (G := fun β => [(6, (pP b1 2))]) (fun β => sF (by kernel_rfl)) (fun β => ex_load_agg (i := 0) (vs := qdL p.y) rfl rfl Tryz.isAgg24 Tryz.sizeOf24 rfl rfl)) (vC (vc_call0 (G := fun β => [(7, (aG (qdL p.y)))]) (fun β => sF (by kernel_rfl)) (fun β => op_call0 (args := [(aG (qdL p.y))]) rfl rfl Tryz.call29) (fun β w hw => QOf_ok p.y (by assumption) w)) (vC (vc_pure0 (G := fun β => [(5, (aG (fracL (qOf p.x)))), (8, (aG (fracL (qOf p.y))))]) (fun β => sF (by kernel_rfl)) (fun β _ => ex_build_struct (zs := ptL (⟨0, 0⟩ : Pt)) (vs := fracL (qOf p.x) ++ fracL (qOf p.y)) (pv := [(0, (aG (fracL (qOf p.x)))), (1, (aG (fracL (qOf p.y))))]) (places := [(0, 5), (5, 5)]) Tryz.zeroValue38 Tryz.underlying38 (fun w => by simp [Tryz.sizeOf36]) rfl (fill_numzb_38_0fracL_1fracL (qOf p.x) (qOf p.y)))) (VcAll.nil)))))))) (fun β => ?_)
  refine OkLH.sub (F' := [(2, (pP b2 0)), (9, (aG (fracL (qOf p.x) ++ fracL (qOf p.y))))]) (L' := [blk b2 38 (ptL (⟨0, 0⟩ : Pt)), blk b1 26 (pdL p)]) (sF rfl) (List.Sublist.refl _) ?_
  refine OkLH.store' (i := 0) (off := 0) (vs := fracL (qOf p.x) ++ fracL (qOf p.y)) (cs' := fracL (qOf p.x) ++ fracL (qOf p.y)) (L' := [blk b2 38 (fracL (qOf p.x) ++ fracL (qOf p.y)), blk b1 26 (pdL p)]) (List.Sublist.cons _ (List.Sublist.refl _)) (wt_none rfl) rfl rfl rfl rfl rfl Tryz.sizeOf38 rfl rfl rfl rfl ?_
  refine OkLH.nil ?_
  refine OkQ.subF (sC 2 rfl (sN)) ?_
  refine OkQ.then_ ?_
  refine OkC.ret ?_
  exact ret_one rfl (rd_agg (i := 0) (cs := fracL (qOf p.x) ++ fracL (qOf p.y)) rfl rfl Tryz.isAgg38 Tryz.sizeOf38 rfl) (fun w hw => ⟨rfl, hw.out⟩)


end Go.Proofs.YtpkoldfmbebmgaaGreatDoor
