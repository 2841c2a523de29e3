/- Walks, printed by gen.py. -/
import Derived.Test.YtpkoldfmbebmgaaGreatDoorNumV
namespace Go.Proofs.YtpkoldfmbebmgaaGreatDoor
open Go Go.RowKit
set_option maxRecDepth 100000
set_option linter.unusedVariables false
set_option linter.unusedSimpArgs false

def sort3L (x y z : Rat) : List Value :=
  if y < x then (if z < x then (if z < y then fracL z ++ fracL y ++ fracL x else fracL y ++ fracL z ++ fracL x) else fracL y ++ fracL x ++ fracL z)
  else (if z < y then (if z < x then fracL z ++ fracL x ++ fracL y else fracL x ++ fracL z ++ fracL y) else fracL x ++ fracL y ++ fracL z)
set_option maxHeartbeats 4000000 in
theorem isort_ok (x y z : Rat) (g : Nat) (hs : Sz x + Sz y + Sz z ≤ 68719476736) (w : World) (hg : w.heap[g]? = some (.cells (fracL x ++ fracL y ++ fracL z).toArray 56 (0, 0))) : Calls Tryz.prog 130 #[(Value.slice (some ⟨g, 0, none⟩) 3 3), (vI 0), (vI 3), (Value.func (.func 43) #[] #[])] w (fun e w' => e = .returned (.tuple #[]) ∧ w.grownBy w' (some g) ∧ w'.heap[g]? = some (.cells (sort3L x y z).toArray 56 (0, 0))) := by
  refine calls_ofM (args := [(Value.slice (some ⟨g, 0, none⟩) 3 3), (vI 0), (vI 3), (Value.func (.func 43) #[] #[])]) (g := g) (T := 56) (cs := fracL x ++ fracL y ++ fracL z) Tryz.func130 rfl rfl (leB rfl) hg ?_
  refine OkC.subF (sC 0 rfl (sC 1 rfl (sC 2 rfl (sC 3 rfl (sN))))) ?_
  refine q4 ?_
  refine st (ex_move rfl) (leB rfl) ?_
  refine st (ex_add (c := (1 : Int)) rfl rfl (by decide)) (leB rfl) ?_
  refine st (ex_assign rfl) (leB rfl) ?_
  refine OkL.nil ?_
  refine OkQ.subF (sC 0 rfl (sC 1 rfl (sC 2 rfl (sC 3 rfl (sC 8 rfl (sN)))))) ?_
  refine OkQ.then_ ?_
  refine OkC.block ?_
  refine OkC.unroll 5 ?_
  refine OkR.step ?_
  refine OkC.seq ?_
  refine q4 ?_
  refine st (ex_move rfl) (leB rfl) ?_
  refine st (ex_move rfl) (leB rfl) ?_
  refine st (ex_lss (c := true) rfl rfl (by decide)) (leB rfl) ?_
  refine OkL.nil ?_
  refine OkQ.then_ ?_
  refine OkC.cond_true rfl ?_
  refine OkC.skip ?_
  refine q1 ?_
  refine OkC.block ?_
  refine q4 ?_
  refine st (ex_move rfl) (leB rfl) ?_
  refine st (ex_assign rfl) (leB rfl) ?_
  refine OkL.nil ?_
  refine OkQ.then_ ?_
  refine OkC.block ?_
  refine OkC.unroll 5 ?_
  refine OkR.step ?_
  refine OkC.seq ?_
  refine OkC.seq ?_
  refine dR (specs := [⟨.pure, fun _ => (vI 1), [], 0, []⟩, ⟨.pure, fun _ => (vI 0), [], 0, []⟩, ⟨.pure, fun _ => (Value.bool true), [], 0, []⟩, ⟨.pure, fun _ => (Value.bool true), [], 0, []⟩, ⟨.pure, fun _ => (Value.func (.func 43) #[] #[]), [], 0, []⟩, ⟨.pure, fun _ => (Value.slice (some ⟨g, 0, none⟩) 3 3), [], 0, []⟩, ⟨.pure, fun _ => (vI 1), [], 0, []⟩, ⟨.pure, fun _ => (pP g 5), [], 0, []⟩, ⟨.held, fun _ => (aG (fracL y)), [], 0, []⟩, ⟨.pure, fun _ => (Value.slice (some ⟨g, 0, none⟩) 3 3), [], 0, []⟩, ⟨.pure, fun _ => (vI 1), [], 0, []⟩, ⟨.pure, fun _ => (vI 0), [], 0, []⟩, ⟨.pure, fun _ => (pP g 0), [], 0, []⟩, ⟨.held, fun _ => (aG (fracL x)), [], 0, []⟩, ⟨.call, fun _ => (vI (cmpQ y x)), [], 0, []⟩, ⟨.pure, fun _ => (Value.bool (decide ((cmpQ y x) < (0 : Int)))), [], 0, []⟩, ⟨.pure, fun _ => (Value.bool (decide ((cmpQ y x) < (0 : Int)))), [], 0, []⟩]) (Lro := [blk g 56 (fracL x ++ fracL y ++ fracL z)]) (List.Sublist.refl _) (dC (dC (dC (dC (dC (dC (dC (dC (dC (dC (dC (dC (dC (dC (dC (dC (dC (dN)))))))))))))))))) (by kernel_rfl) (by kernel_rfl) (fun _ _ d _ _ h => by cases d <;> exact h) (vC (vc_pure0 (G := fun β => [(9, (vI 1))]) (fun β => sF (by kernel_rfl)) (fun β _ => ex_move rfl)) (vC (vc_pure0 (G := fun β => [(1, (vI 0))]) (fun β => sF (by kernel_rfl)) (fun β _ => ex_move rfl)) (vC (vc_pure0 (G := fun β => [(18, (vI 1)), (19, (vI 0))]) (fun β => sF (by kernel_rfl)) (fun β _ => ex_gtr (c := true) rfl rfl (by decide))) (vC (vc_pure0 (G := fun β => [(20, (Value.bool true))]) (fun β => sF (by kernel_rfl)) (fun β _ => ex_move rfl)) (vC (vc_pure (G := fun β => [(3, (Value.func (.func 43) #[] #[])), (21, (Value.bool true))]) (fun β => sF (by kernel_rfl)) (fun β => wt_some rfl rfl rfl) (fun β _ => ex_move rfl)) (vC (vc_pure (G := fun β => [(0, (Value.slice (some ⟨g, 0, none⟩) 3 3)), (21, (Value.bool true))]) (fun β => sF (by kernel_rfl)) (fun β => wt_some rfl rfl rfl) (fun β _ => ex_move rfl)) (vC (vc_pure (G := fun β => [(9, (vI 1)), (21, (Value.bool true))]) (fun β => sF (by kernel_rfl)) (fun β => wt_some rfl rfl rfl) (fun β _ => ex_move rfl)) (vC (vc_pure (G := fun β => [(21, (Value.bool true)), (23, (Value.slice (some ⟨g, 0, none⟩) 3 3)), (24, (vI 1))]) (fun β => sF (by kernel_rfl)) (fun β => wt_some rfl rfl rfl) (fun β _ => ex_indexAddr_slice (j := 1) rfl rfl Tryz.underlying109 Tryz.sizeOf36 rfl (by omega) rfl)) (vC (vc_held (G := fun β => [(21, (Value.bool true)), (25, (pP g 5))]) (fun β => sF (by kernel_rfl)) (fun β => wt_some rfl rfl rfl) (fun β => ex_load_agg (i := 0) (vs := fracL y) rfl rfl Tryz.isAgg36 Tryz.sizeOf36 rfl rfl)) (vC (vc_pure (G := fun β => [(0, (Value.slice (some ⟨g, 0, none⟩) 3 3)), (21, (Value.bool true))]) (fun β => sF (by kernel_rfl)) (fun β => wt_some rfl rfl rfl) (fun β _ => ex_move rfl)) (vC (vc_pure (G := fun β => [(9, (vI 1)), (21, (Value.bool true))]) (fun β => sF (by kernel_rfl)) (fun β => wt_some rfl rfl rfl) (fun β _ => ex_move rfl)) (vC (vc_pure (G := fun β => [(21, (Value.bool true)), (28, (vI 1))]) (fun β => sF (by kernel_rfl)) (fun β => wt_some rfl rfl rfl) (fun β _ => ex_sub (c := (0 : Int)) rfl rfl (by decide))) (vC (vc_pure (G := fun β => [(21, (Value.bool true)), (27, (Value.slice (some ⟨g, 0, none⟩) 3 3)), (29, (vI 0))]) (fun β => sF (by kernel_rfl)) (fun β => wt_some rfl rfl rfl) (fun β _ => ex_indexAddr_slice (j := 0) rfl rfl Tryz.underlying109 Tryz.sizeOf36 rfl (by omega) rfl)) (vC (vc_held (G := fun β => [(21, (Value.bool true)), (30, (pP g 0))]) (fun β => sF (by kernel_rfl)) (fun β => wt_some rfl rfl rfl) (fun β => ex_load_agg (i := 0) (vs := fracL x) rfl rfl Tryz.isAgg36 Tryz.sizeOf36 rfl rfl)) (vC (vc_call (G := fun β => [(21, (Value.bool true)), (22, (Value.func (.func 43) #[] #[])), (26, (aG (fracL y))), (31, (aG (fracL x)))]) (fun β => sF (by kernel_rfl)) (fun β => wt_some rfl rfl rfl) (fun β => op_call0 (args := [(aG (fracL y)), (aG (fracL x))]) rfl rfl Tryz.call43) (fun β w hw => fCmp_ok y x (by omega) w)) (vC (vc_pure (G := fun β => [(21, (Value.bool true)), (32, (vI (cmpQ y x)))]) (fun β => sF (by kernel_rfl)) (fun β => wt_some rfl rfl rfl) (fun β _ => ex_lss (c := (decide ((cmpQ y x) < (0 : Int)))) rfl rfl rfl)) (vC (vc_pure0 (G := fun β => [(21, (Value.bool true)), (33, (Value.bool (decide ((cmpQ y x) < (0 : Int)))))]) (fun β => sF (by kernel_rfl)) (fun β _ => ex_pick_true rfl rfl)) (VcAll.nil)))))))))))))))))) (fun β => ?_)
  refine OkLH.sub (F' := [(0, (Value.slice (some ⟨g, 0, none⟩) 3 3)), (1, (vI 0)), (2, (vI 3)), (3, (Value.func (.func 43) #[] #[])), (8, (vI 1)), (12, (vI 1)), (13, (vI 3)), (14, (Value.bool true)), (17, (vI 1)), (9, (vI 1)), (18, (vI 1)), (19, (vI 0)), (20, (Value.bool true)), (21, (Value.bool true)), (22, (Value.func (.func 43) #[] #[])), (23, (Value.slice (some ⟨g, 0, none⟩) 3 3)), (24, (vI 1)), (25, (pP g 5)), (26, (aG (fracL y))), (27, (Value.slice (some ⟨g, 0, none⟩) 3 3)), (28, (vI 1)), (29, (vI 0)), (30, (pP g 0)), (31, (aG (fracL x))), (32, (vI (cmpQ y x))), (33, (Value.bool (decide ((cmpQ y x) < (0 : Int))))), (34, (Value.bool (decide ((cmpQ y x) < (0 : Int)))))]) (L' := [blk g 56 (fracL x ++ fracL y ++ fracL z)]) (sF rfl) (List.Sublist.refl _) ?_
  refine OkLH.nil ?_
  refine OkQ.then_ ?_
  refine OkC.cond rfl (fun hc1 => ?_) (fun hc1 => ?_)
  · replace hc1 := of_decide_eq_true hc1
    have c11 := hc1
    rw [cmpQ_lt] at c11
    refine OkC.skip ?_
    refine q1 ?_
    refine OkC.block ?_
    refine dR (specs := [⟨.pure, fun _ => (Value.slice (some ⟨g, 0, none⟩) 3 3), [], 0, []⟩, ⟨.pure, fun _ => (vI 1), [], 0, []⟩, ⟨.pure, fun _ => (Value.slice (some ⟨g, 0, none⟩) 3 3), [], 0, []⟩, ⟨.pure, fun _ => (vI 1), [], 0, []⟩, ⟨.pure, fun _ => (vI 0), [], 0, []⟩, ⟨.pure, fun _ => (Value.slice (some ⟨g, 0, none⟩) 3 3), [], 0, []⟩, ⟨.pure, fun _ => (vI 1), [], 0, []⟩, ⟨.pure, fun _ => (vI 0), [], 0, []⟩, ⟨.pure, fun _ => (pP g 0), [], 0, []⟩, ⟨.look, fun _ => (aG (fracL x)), [], 0, []⟩, ⟨.pure, fun _ => (Value.slice (some ⟨g, 0, none⟩) 3 3), [], 0, []⟩, ⟨.pure, fun _ => (vI 1), [], 0, []⟩, ⟨.pure, fun _ => (pP g 5), [], 0, []⟩, ⟨.look, fun _ => (aG (fracL y)), [], 0, []⟩, ⟨.pure, fun _ => (pP g 5), [], 0, []⟩]) (Lro := []) (List.Sublist.cons _ (List.Sublist.refl _)) (dC (dC (dC (dC (dC (dC (dC (dC (dC (dC (dC (dC (dC (dC (dC (dN)))))))))))))))) (by kernel_rfl) (by kernel_rfl) (fun _ _ d _ _ h => by cases d <;> exact h) (vC (vc_pure0 (G := fun β => [(0, (Value.slice (some ⟨g, 0, none⟩) 3 3))]) (fun β => sF (by kernel_rfl)) (fun β _ => ex_move rfl)) (vC (vc_pure0 (G := fun β => [(9, (vI 1))]) (fun β => sF (by kernel_rfl)) (fun β _ => ex_move rfl)) (vC (vc_pure0 (G := fun β => [(0, (Value.slice (some ⟨g, 0, none⟩) 3 3))]) (fun β => sF (by kernel_rfl)) (fun β _ => ex_move rfl)) (vC (vc_pure0 (G := fun β => [(9, (vI 1))]) (fun β => sF (by kernel_rfl)) (fun β _ => ex_move rfl)) (vC (vc_pure0 (G := fun β => [(40, (vI 1))]) (fun β => sF (by kernel_rfl)) (fun β _ => ex_sub (c := (0 : Int)) rfl rfl (by decide))) (vC (vc_pure0 (G := fun β => [(0, (Value.slice (some ⟨g, 0, none⟩) 3 3))]) (fun β => sF (by kernel_rfl)) (fun β _ => ex_move rfl)) (vC (vc_pure0 (G := fun β => [(9, (vI 1))]) (fun β => sF (by kernel_rfl)) (fun β _ => ex_move rfl)) (vC (vc_pure0 (G := fun β => [(43, (vI 1))]) (fun β => sF (by kernel_rfl)) (fun β _ => ex_sub (c := (0 : Int)) rfl rfl (by decide))) (vC (vc_pure0 (G := fun β => [(42, (Value.slice (some ⟨g, 0, none⟩) 3 3)), (44, (vI 0))]) (fun β => sF (by kernel_rfl)) (fun β _ => ex_indexAddr_slice (j := 0) rfl rfl Tryz.underlying109 Tryz.sizeOf36 rfl (by omega) rfl)) (vC (vc_look0 (G := fun β => [(45, (pP g 0))]) (fun β => sF (by kernel_rfl)) (fun β => ex_load_agg (i := 0) (vs := fracL x) rfl rfl Tryz.isAgg36 Tryz.sizeOf36 rfl rfl)) (vC (vc_pure0 (G := fun β => [(0, (Value.slice (some ⟨g, 0, none⟩) 3 3))]) (fun β => sF (by kernel_rfl)) (fun β _ => ex_move rfl)) (vC (vc_pure0 (G := fun β => [(9, (vI 1))]) (fun β => sF (by kernel_rfl)) (fun β _ => ex_move rfl)) (vC (vc_pure0 (G := fun β => [(47, (Value.slice (some ⟨g, 0, none⟩) 3 3)), (48, (vI 1))]) (fun β => sF (by kernel_rfl)) (fun β _ => ex_indexAddr_slice (j := 1) rfl rfl Tryz.underlying109 Tryz.sizeOf36 rfl (by omega) rfl)) (vC (vc_look0 (G := fun β => [(49, (pP g 5))]) (fun β => sF (by kernel_rfl)) (fun β => ex_load_agg (i := 0) (vs := fracL y) rfl rfl Tryz.isAgg36 Tryz.sizeOf36 rfl rfl)) (vC (vc_pure0 (G := fun β => [(37, (Value.slice (some ⟨g, 0, none⟩) 3 3)), (38, (vI 1))]) (fun β => sF (by kernel_rfl)) (fun β _ => ex_indexAddr_slice (j := 1) rfl rfl Tryz.underlying109 Tryz.sizeOf36 rfl (by omega) rfl)) (VcAll.nil)))))))))))))))) (fun β => ?_)
    refine OkLH.sub (F' := [(0, (Value.slice (some ⟨g, 0, none⟩) 3 3)), (1, (vI 0)), (2, (vI 3)), (3, (Value.func (.func 43) #[] #[])), (8, (vI 1)), (12, (vI 1)), (13, (vI 3)), (14, (Value.bool true)), (17, (vI 1)), (9, (vI 1)), (18, (vI 1)), (19, (vI 0)), (20, (Value.bool true)), (21, (Value.bool true)), (22, (Value.func (.func 43) #[] #[])), (23, (Value.slice (some ⟨g, 0, none⟩) 3 3)), (24, (vI 1)), (25, (pP g 5)), (26, (aG (fracL y))), (27, (Value.slice (some ⟨g, 0, none⟩) 3 3)), (28, (vI 1)), (29, (vI 0)), (30, (pP g 0)), (31, (aG (fracL x))), (32, (vI (cmpQ y x))), (33, (Value.bool (decide ((cmpQ y x) < (0 : Int))))), (34, (Value.bool (decide ((cmpQ y x) < (0 : Int))))), (37, (Value.slice (some ⟨g, 0, none⟩) 3 3)), (38, (vI 1)), (39, (Value.slice (some ⟨g, 0, none⟩) 3 3)), (40, (vI 1)), (41, (vI 0)), (42, (Value.slice (some ⟨g, 0, none⟩) 3 3)), (43, (vI 1)), (44, (vI 0)), (45, (pP g 0)), (46, (aG (fracL x))), (47, (Value.slice (some ⟨g, 0, none⟩) 3 3)), (48, (vI 1)), (49, (pP g 5)), (50, (aG (fracL y))), (51, (pP g 5))]) (L' := [blk g 56 (fracL x ++ fracL y ++ fracL z)]) (sF rfl) (List.Sublist.refl _) ?_
    refine OkLH.store' (i := 0) (off := 5) (vs := fracL x) (cs' := fracL x ++ fracL x ++ fracL z) (L' := [blk g 56 (fracL x ++ fracL x ++ fracL z)]) (List.Sublist.cons _ (List.Sublist.refl _)) (wt_none rfl) rfl rfl rfl rfl rfl Tryz.sizeOf36 rfl rfl rfl rfl ?_
    refine OkLH.step (v := (pP g 0)) (List.Sublist.cons _ (List.Sublist.refl _)) (wt_none rfl) (ex_indexAddr_slice (j := 0) rfl rfl Tryz.underlying109 Tryz.sizeOf36 rfl (by omega) rfl) rfl (leB rfl) ?_
    refine OkLH.store' (i := 0) (off := 0) (vs := fracL y) (cs' := fracL y ++ fracL x ++ fracL z) (L' := [blk g 56 (fracL y ++ fracL x ++ fracL z)]) (List.Sublist.cons _ (List.Sublist.refl _)) (wt_none rfl) rfl rfl rfl rfl rfl Tryz.sizeOf36 rfl rfl rfl rfl ?_
    refine OkLH.nil ?_
    refine OkQ.in_normal ?_
    refine OkQ.then_ ?_
    refine OkC.region ?_
    refine st (ex_move rfl) (leB rfl) ?_
    refine st (ex_sub (c := (0 : Int)) rfl rfl (by decide)) (leB rfl) ?_
    refine st (ex_assign rfl) (leB rfl) ?_
    refine OkL.nil ?_
    refine OkQ.again ?_
    refine OkR.step ?_
    refine OkC.seq ?_
    refine OkC.seq ?_
    refine OkC.subF (sC 0 rfl (sC 1 rfl (sC 2 rfl (sC 3 rfl (sC 8 rfl (sC 12 rfl (sC 13 rfl (sC 14 rfl (sC 17 rfl (sC 9 rfl (sC 37 rfl (sC 38 rfl (sC 39 rfl (sC 40 rfl (sC 41 rfl (sC 42 rfl (sC 43 rfl (sC 44 rfl (sC 45 rfl (sC 46 rfl (sC 47 rfl (sC 48 rfl (sC 49 rfl (sC 50 rfl (sC 51 rfl (sC 52 rfl (sC 35 rfl (sC 36 rfl (sN))))))))))))))))))))))))))))) ?_
    refine dR (specs := [⟨.pure, fun _ => (vI 0), [], 0, []⟩, ⟨.pure, fun _ => (vI 0), [], 0, []⟩, ⟨.pure, fun _ => (Value.bool false), [], 0, []⟩, ⟨.pure, fun _ => (Value.bool false), [], 0, []⟩, ⟨.pure, fun _ => undef, [], 0, []⟩, ⟨.pure, fun _ => undef, [], 0, []⟩, ⟨.pure, fun _ => undef, [], 0, []⟩, ⟨.pure, fun _ => undef, [], 0, []⟩, ⟨.pure, fun _ => undef, [], 0, []⟩, ⟨.pure, fun _ => undef, [], 0, []⟩, ⟨.pure, fun _ => undef, [], 0, []⟩, ⟨.pure, fun _ => undef, [], 0, []⟩, ⟨.pure, fun _ => undef, [], 0, []⟩, ⟨.pure, fun _ => undef, [], 0, []⟩, ⟨.pure, fun _ => undef, [], 0, []⟩, ⟨.pure, fun _ => undef, [], 0, []⟩, ⟨.pure, fun _ => (Value.bool false), [], 0, []⟩]) (Lro := [blk g 56 (fracL y ++ fracL x ++ fracL z)]) (List.Sublist.refl _) (dC (dC (dC (dC (dC (dC (dC (dC (dC (dC (dC (dC (dC (dC (dC (dC (dC (dN)))))))))))))))))) (by kernel_rfl) (by kernel_rfl) (fun _ _ d _ _ h => by cases d <;> exact h) (vC (vc_pure0 (G := fun β => [(9, (vI 0))]) (fun β => sF (by kernel_rfl)) (fun β _ => ex_move rfl)) (vC (vc_pure0 (G := fun β => [(1, (vI 0))]) (fun β => sF (by kernel_rfl)) (fun β _ => ex_move rfl)) (vC (vc_pure0 (G := fun β => [(18, (vI 0)), (19, (vI 0))]) (fun β => sF (by kernel_rfl)) (fun β _ => ex_gtr (c := false) rfl rfl (by decide))) (vC (vc_pure0 (G := fun β => [(20, (Value.bool false))]) (fun β => sF (by kernel_rfl)) (fun β _ => ex_move rfl)) (vC (vc_skip (G := fun _ => [(21, (Value.bool false))]) (fun _ => (sF (by kernel_rfl))) (fun _ => wt_not rfl rfl rfl)) (vC (vc_skip (G := fun _ => [(21, (Value.bool false))]) (fun _ => (sF (by kernel_rfl))) (fun _ => wt_not rfl rfl rfl)) (vC (vc_skip (G := fun _ => [(21, (Value.bool false))]) (fun _ => (sF (by kernel_rfl))) (fun _ => wt_not rfl rfl rfl)) (vC (vc_skip (G := fun _ => [(21, (Value.bool false))]) (fun _ => (sF (by kernel_rfl))) (fun _ => wt_not rfl rfl rfl)) (vC (vc_skip (G := fun _ => [(21, (Value.bool false))]) (fun _ => (sF (by kernel_rfl))) (fun _ => wt_not rfl rfl rfl)) (vC (vc_skip (G := fun _ => [(21, (Value.bool false))]) (fun _ => (sF (by kernel_rfl))) (fun _ => wt_not rfl rfl rfl)) (vC (vc_skip (G := fun _ => [(21, (Value.bool false))]) (fun _ => (sF (by kernel_rfl))) (fun _ => wt_not rfl rfl rfl)) (vC (vc_skip (G := fun _ => [(21, (Value.bool false))]) (fun _ => (sF (by kernel_rfl))) (fun _ => wt_not rfl rfl rfl)) (vC (vc_skip (G := fun _ => [(21, (Value.bool false))]) (fun _ => (sF (by kernel_rfl))) (fun _ => wt_not rfl rfl rfl)) (vC (vc_skip (G := fun _ => [(21, (Value.bool false))]) (fun _ => (sF (by kernel_rfl))) (fun _ => wt_not rfl rfl rfl)) (vC (vc_skip (G := fun _ => [(21, (Value.bool false))]) (fun _ => (sF (by kernel_rfl))) (fun _ => wt_not rfl rfl rfl)) (vC (vc_skip (G := fun _ => [(21, (Value.bool false))]) (fun _ => (sF (by kernel_rfl))) (fun _ => wt_not rfl rfl rfl)) (vC (vc_pure0 (G := fun β => [(21, (Value.bool false))]) (fun β => sF (by kernel_rfl)) (fun β _ => ex_pick_false rfl rfl)) (VcAll.nil)))))))))))))))))) (fun β => ?_)
    refine OkLH.sub (F' := [(0, (Value.slice (some ⟨g, 0, none⟩) 3 3)), (1, (vI 0)), (2, (vI 3)), (3, (Value.func (.func 43) #[] #[])), (8, (vI 1)), (12, (vI 1)), (13, (vI 3)), (14, (Value.bool true)), (17, (vI 1)), (9, (vI 0)), (37, (Value.slice (some ⟨g, 0, none⟩) 3 3)), (38, (vI 1)), (39, (Value.slice (some ⟨g, 0, none⟩) 3 3)), (40, (vI 1)), (41, (vI 0)), (42, (Value.slice (some ⟨g, 0, none⟩) 3 3)), (43, (vI 1)), (44, (vI 0)), (45, (pP g 0)), (46, (aG (fracL x))), (47, (Value.slice (some ⟨g, 0, none⟩) 3 3)), (48, (vI 1)), (49, (pP g 5)), (50, (aG (fracL y))), (51, (pP g 5)), (52, (pP g 0)), (35, (vI 1)), (36, (vI 0)), (18, (vI 0)), (19, (vI 0)), (20, (Value.bool false)), (21, (Value.bool false)), (34, (Value.bool false))]) (L' := [blk g 56 (fracL y ++ fracL x ++ fracL z)]) (sF rfl) (List.Sublist.refl _) ?_
    refine OkLH.nil ?_
    refine OkQ.then_ ?_
    refine OkC.cond_false rfl ?_
    refine OkC.exit ?_
    refine OkQ.then_exit ?_
    refine OkQ.then_exit ?_
    refine OkQ.in_exit ?_
    refine OkQ.in_normal ?_
    refine OkQ.then_ ?_
    refine OkC.region ?_
    refine st (ex_move rfl) (leB rfl) ?_
    refine st (ex_add (c := (2 : Int)) rfl rfl (by decide)) (leB rfl) ?_
    refine st (ex_assign rfl) (leB rfl) ?_
    refine OkL.nil ?_
    refine OkQ.again ?_
    refine OkR.step ?_
    refine OkC.seq ?_
    refine q4 ?_
    refine st (ex_move rfl) (leB rfl) ?_
    refine st (ex_move rfl) (leB rfl) ?_
    refine st (ex_lss (c := true) rfl rfl (by decide)) (leB rfl) ?_
    refine OkL.nil ?_
    refine OkQ.then_ ?_
    refine OkC.cond_true rfl ?_
    refine OkC.skip ?_
    refine q1 ?_
    refine OkC.block ?_
    refine q4 ?_
    refine st (ex_move rfl) (leB rfl) ?_
    refine st (ex_assign rfl) (leB rfl) ?_
    refine OkL.nil ?_
    refine OkQ.then_ ?_
    refine OkC.block ?_
    refine OkC.unroll 5 ?_
    refine OkR.step ?_
    refine OkC.seq ?_
    refine OkC.seq ?_
    refine OkC.subF (sC 0 rfl (sC 1 rfl (sC 2 rfl (sC 3 rfl (sC 8 rfl (sC 12 rfl (sC 13 rfl (sC 14 rfl (sC 17 rfl (sC 9 rfl (sC 37 rfl (sC 38 rfl (sC 39 rfl (sC 40 rfl (sC 41 rfl (sC 42 rfl (sC 43 rfl (sC 44 rfl (sC 45 rfl (sC 46 rfl (sC 47 rfl (sC 48 rfl (sC 49 rfl (sC 50 rfl (sC 51 rfl (sC 52 rfl (sC 35 rfl (sC 36 rfl (sC 15 rfl (sC 16 rfl (sN))))))))))))))))))))))))))))))) ?_
    refine dR (specs := [⟨.pure, fun _ => (vI 2), [], 0, []⟩, ⟨.pure, fun _ => (vI 0), [], 0, []⟩, ⟨.pure, fun _ => (Value.bool true), [], 0, []⟩, ⟨.pure, fun _ => (Value.bool true), [], 0, []⟩, ⟨.pure, fun _ => (Value.func (.func 43) #[] #[]), [], 0, []⟩, ⟨.pure, fun _ => (Value.slice (some ⟨g, 0, none⟩) 3 3), [], 0, []⟩, ⟨.pure, fun _ => (vI 2), [], 0, []⟩, ⟨.pure, fun _ => (pP g 10), [], 0, []⟩, ⟨.held, fun _ => (aG (fracL z)), [], 0, []⟩, ⟨.pure, fun _ => (Value.slice (some ⟨g, 0, none⟩) 3 3), [], 0, []⟩, ⟨.pure, fun _ => (vI 2), [], 0, []⟩, ⟨.pure, fun _ => (vI 1), [], 0, []⟩, ⟨.pure, fun _ => (pP g 5), [], 0, []⟩, ⟨.held, fun _ => (aG (fracL x)), [], 0, []⟩, ⟨.call, fun _ => (vI (cmpQ z x)), [], 0, []⟩, ⟨.pure, fun _ => (Value.bool (decide ((cmpQ z x) < (0 : Int)))), [], 0, []⟩, ⟨.pure, fun _ => (Value.bool (decide ((cmpQ z x) < (0 : Int)))), [], 0, []⟩]) (Lro := [blk g 56 (fracL y ++ fracL x ++ fracL z)]) (List.Sublist.refl _) (dC (dC (dC (dC (dC (dC (dC (dC (dC (dC (dC (dC (dC (dC (dC (dC (dC (dN)))))))))))))))))) (by kernel_rfl) (by kernel_rfl) (fun _ _ d _ _ h => by cases d <;> exact h) (vC (vc_pure0 (G := fun β => [(9, (vI 2))]) (fun β => sF (by kernel_rfl)) (fun β _ => ex_move rfl)) (vC (vc_pure0 (G := fun β => [(1, (vI 0))]) (fun β => sF (by kernel_rfl)) (fun β _ => ex_move rfl)) (vC (vc_pure0 (G := fun β => [(18, (vI 2)), (19, (vI 0))]) (fun β => sF (by kernel_rfl)) (fun β _ => ex_gtr (c := true) rfl rfl (by decide))) (vC (vc_pure0 (G := fun β => [(20, (Value.bool true))]) (fun β => sF (by kernel_rfl)) (fun β _ => ex_move rfl)) (vC (vc_pure (G := fun β => [(3, (Value.func (.func 43) #[] #[])), (21, (Value.bool true))]) (fun β => sF (by kernel_rfl)) (fun β => wt_some rfl rfl rfl) (fun β _ => ex_move rfl)) (vC (vc_pure (G := fun β => [(0, (Value.slice (some ⟨g, 0, none⟩) 3 3)), (21, (Value.bool true))]) (fun β => sF (by kernel_rfl)) (fun β => wt_some rfl rfl rfl) (fun β _ => ex_move rfl)) (vC (vc_pure (G := fun β => [(9, (vI 2)), (21, (Value.bool true))]) (fun β => sF (by kernel_rfl)) (fun β => wt_some rfl rfl rfl) (fun β _ => ex_move rfl)) (vC (vc_pure (G := fun β => [(21, (Value.bool true)), (23, (Value.slice (some ⟨g, 0, none⟩) 3 3)), (24, (vI 2))]) (fun β => sF (by kernel_rfl)) (fun β => wt_some rfl rfl rfl) (fun β _ => ex_indexAddr_slice (j := 2) rfl rfl Tryz.underlying109 Tryz.sizeOf36 rfl (by omega) rfl)) (vC (vc_held (G := fun β => [(21, (Value.bool true)), (25, (pP g 10))]) (fun β => sF (by kernel_rfl)) (fun β => wt_some rfl rfl rfl) (fun β => ex_load_agg (i := 0) (vs := fracL z) rfl rfl Tryz.isAgg36 Tryz.sizeOf36 rfl rfl)) (vC (vc_pure (G := fun β => [(0, (Value.slice (some ⟨g, 0, none⟩) 3 3)), (21, (Value.bool true))]) (fun β => sF (by kernel_rfl)) (fun β => wt_some rfl rfl rfl) (fun β _ => ex_move rfl)) (vC (vc_pure (G := fun β => [(9, (vI 2)), (21, (Value.bool true))]) (fun β => sF (by kernel_rfl)) (fun β => wt_some rfl rfl rfl) (fun β _ => ex_move rfl)) (vC (vc_pure (G := fun β => [(21, (Value.bool true)), (28, (vI 2))]) (fun β => sF (by kernel_rfl)) (fun β => wt_some rfl rfl rfl) (fun β _ => ex_sub (c := (1 : Int)) rfl rfl (by decide))) (vC (vc_pure (G := fun β => [(21, (Value.bool true)), (27, (Value.slice (some ⟨g, 0, none⟩) 3 3)), (29, (vI 1))]) (fun β => sF (by kernel_rfl)) (fun β => wt_some rfl rfl rfl) (fun β _ => ex_indexAddr_slice (j := 1) rfl rfl Tryz.underlying109 Tryz.sizeOf36 rfl (by omega) rfl)) (vC (vc_held (G := fun β => [(21, (Value.bool true)), (30, (pP g 5))]) (fun β => sF (by kernel_rfl)) (fun β => wt_some rfl rfl rfl) (fun β => ex_load_agg (i := 0) (vs := fracL x) rfl rfl Tryz.isAgg36 Tryz.sizeOf36 rfl rfl)) (vC (vc_call (G := fun β => [(21, (Value.bool true)), (22, (Value.func (.func 43) #[] #[])), (26, (aG (fracL z))), (31, (aG (fracL x)))]) (fun β => sF (by kernel_rfl)) (fun β => wt_some rfl rfl rfl) (fun β => op_call0 (args := [(aG (fracL z)), (aG (fracL x))]) rfl rfl Tryz.call43) (fun β w hw => fCmp_ok z x (by omega) w)) (vC (vc_pure (G := fun β => [(21, (Value.bool true)), (32, (vI (cmpQ z x)))]) (fun β => sF (by kernel_rfl)) (fun β => wt_some rfl rfl rfl) (fun β _ => ex_lss (c := (decide ((cmpQ z x) < (0 : Int)))) rfl rfl rfl)) (vC (vc_pure0 (G := fun β => [(21, (Value.bool true)), (33, (Value.bool (decide ((cmpQ z x) < (0 : Int)))))]) (fun β => sF (by kernel_rfl)) (fun β _ => ex_pick_true rfl rfl)) (VcAll.nil)))))))))))))))))) (fun β => ?_)
    refine OkLH.sub (F' := [(0, (Value.slice (some ⟨g, 0, none⟩) 3 3)), (1, (vI 0)), (2, (vI 3)), (3, (Value.func (.func 43) #[] #[])), (8, (vI 2)), (12, (vI 2)), (13, (vI 3)), (14, (Value.bool true)), (17, (vI 2)), (9, (vI 2)), (37, (Value.slice (some ⟨g, 0, none⟩) 3 3)), (38, (vI 1)), (39, (Value.slice (some ⟨g, 0, none⟩) 3 3)), (40, (vI 1)), (41, (vI 0)), (42, (Value.slice (some ⟨g, 0, none⟩) 3 3)), (43, (vI 1)), (44, (vI 0)), (45, (pP g 0)), (46, (aG (fracL x))), (47, (Value.slice (some ⟨g, 0, none⟩) 3 3)), (48, (vI 1)), (49, (pP g 5)), (50, (aG (fracL y))), (51, (pP g 5)), (52, (pP g 0)), (35, (vI 1)), (36, (vI 0)), (15, (vI 1)), (16, (vI 2)), (18, (vI 2)), (19, (vI 0)), (20, (Value.bool true)), (21, (Value.bool true)), (22, (Value.func (.func 43) #[] #[])), (23, (Value.slice (some ⟨g, 0, none⟩) 3 3)), (24, (vI 2)), (25, (pP g 10)), (26, (aG (fracL z))), (27, (Value.slice (some ⟨g, 0, none⟩) 3 3)), (28, (vI 2)), (29, (vI 1)), (30, (pP g 5)), (31, (aG (fracL x))), (32, (vI (cmpQ z x))), (33, (Value.bool (decide ((cmpQ z x) < (0 : Int))))), (34, (Value.bool (decide ((cmpQ z x) < (0 : Int)))))]) (L' := [blk g 56 (fracL y ++ fracL x ++ fracL z)]) (sF rfl) (List.Sublist.refl _) ?_
    refine OkLH.nil ?_
    refine OkQ.then_ ?_
    refine OkC.cond rfl (fun hc1 => ?_) (fun hc1 => ?_)
    · replace hc1 := of_decide_eq_true hc1
      have c22 := hc1
      rw [cmpQ_lt] at c22
      refine OkC.skip ?_
      refine q1 ?_
      refine OkC.block ?_
      refine OkC.subF (sC 0 rfl (sC 1 rfl (sC 2 rfl (sC 3 rfl (sC 8 rfl (sC 12 rfl (sC 13 rfl (sC 14 rfl (sC 17 rfl (sC 9 rfl (sC 52 rfl (sC 35 rfl (sC 36 rfl (sC 15 rfl (sC 16 rfl (sC 18 rfl (sC 19 rfl (sC 20 rfl (sC 21 rfl (sC 22 rfl (sC 23 rfl (sC 24 rfl (sC 25 rfl (sC 26 rfl (sC 27 rfl (sC 28 rfl (sC 29 rfl (sC 30 rfl (sC 31 rfl (sC 32 rfl (sC 33 rfl (sC 34 rfl (sN))))))))))))))))))))))))))))))))) ?_
      refine dR (specs := [⟨.pure, fun _ => (Value.slice (some ⟨g, 0, none⟩) 3 3), [], 0, []⟩, ⟨.pure, fun _ => (vI 2), [], 0, []⟩, ⟨.pure, fun _ => (Value.slice (some ⟨g, 0, none⟩) 3 3), [], 0, []⟩, ⟨.pure, fun _ => (vI 2), [], 0, []⟩, ⟨.pure, fun _ => (vI 1), [], 0, []⟩, ⟨.pure, fun _ => (Value.slice (some ⟨g, 0, none⟩) 3 3), [], 0, []⟩, ⟨.pure, fun _ => (vI 2), [], 0, []⟩, ⟨.pure, fun _ => (vI 1), [], 0, []⟩, ⟨.pure, fun _ => (pP g 5), [], 0, []⟩, ⟨.look, fun _ => (aG (fracL x)), [], 0, []⟩, ⟨.pure, fun _ => (Value.slice (some ⟨g, 0, none⟩) 3 3), [], 0, []⟩, ⟨.pure, fun _ => (vI 2), [], 0, []⟩, ⟨.pure, fun _ => (pP g 10), [], 0, []⟩, ⟨.look, fun _ => (aG (fracL z)), [], 0, []⟩, ⟨.pure, fun _ => (pP g 10), [], 0, []⟩]) (Lro := []) (List.Sublist.cons _ (List.Sublist.refl _)) (dC (dC (dC (dC (dC (dC (dC (dC (dC (dC (dC (dC (dC (dC (dC (dN)))))))))))))))) (by kernel_rfl) (by kernel_rfl) (fun _ _ d _ _ h => by cases d <;> exact h) (vC (vc_pure0 (G := fun β => [(0, (Value.slice (some ⟨g, 0, none⟩) 3 3))]) (fun β => sF (by kernel_rfl)) (fun β _ => ex_move rfl)) (vC (vc_pure0 (G := fun β => [(9, (vI 2))]) (fun β => sF (by kernel_rfl)) (fun β _ => ex_move rfl)) (vC (vc_pure0 (G := fun β => [(0, (Value.slice (some ⟨g, 0, none⟩) 3 3))]) (fun β => sF (by kernel_rfl)) (fun β _ => ex_move rfl)) (vC (vc_pure0 (G := fun β => [(9, (vI 2))]) (fun β => sF (by kernel_rfl)) (fun β _ => ex_move rfl)) (vC (vc_pure0 (G := fun β => [(40, (vI 2))]) (fun β => sF (by kernel_rfl)) (fun β _ => ex_sub (c := (1 : Int)) rfl rfl (by decide))) (vC (vc_pure0 (G := fun β => [(0, (Value.slice (some ⟨g, 0, none⟩) 3 3))]) (fun β => sF (by kernel_rfl)) (fun β _ => ex_move rfl)) (vC (vc_pure0 (G := fun β => [(9, (vI 2))]) (fun β => sF (by kernel_rfl)) (fun β _ => ex_move rfl)) (vC (vc_pure0 (G := fun β => [(43, (vI 2))]) (fun β => sF (by kernel_rfl)) (fun β _ => ex_sub (c := (1 : Int)) rfl rfl (by decide))) (vC (vc_pure0 (G := fun β => [(42, (Value.slice (some ⟨g, 0, none⟩) 3 3)), (44, (vI 1))]) (fun β => sF (by kernel_rfl)) (fun β _ => ex_indexAddr_slice (j := 1) rfl rfl Tryz.underlying109 Tryz.sizeOf36 rfl (by omega) rfl)) (vC (vc_look0 (G := fun β => [(45, (pP g 5))]) (fun β => sF (by kernel_rfl)) (fun β => ex_load_agg (i := 0) (vs := fracL x) rfl rfl Tryz.isAgg36 Tryz.sizeOf36 rfl rfl)) (vC (vc_pure0 (G := fun β => [(0, (Value.slice (some ⟨g, 0, none⟩) 3 3))]) (fun β => sF (by kernel_rfl)) (fun β _ => ex_move rfl)) (vC (vc_pure0 (G := fun β => [(9, (vI 2))]) (fun β => sF (by kernel_rfl)) (fun β _ => ex_move rfl)) (vC (vc_pure0 (G := fun β => [(47, (Value.slice (some ⟨g, 0, none⟩) 3 3)), (48, (vI 2))]) (fun β => sF (by kernel_rfl)) (fun β _ => ex_indexAddr_slice (j := 2) rfl rfl Tryz.underlying109 Tryz.sizeOf36 rfl (by omega) rfl)) (vC (vc_look0 (G := fun β => [(49, (pP g 10))]) (fun β => sF (by kernel_rfl)) (fun β => ex_load_agg (i := 0) (vs := fracL z) rfl rfl Tryz.isAgg36 Tryz.sizeOf36 rfl rfl)) (vC (vc_pure0 (G := fun β => [(37, (Value.slice (some ⟨g, 0, none⟩) 3 3)), (38, (vI 2))]) (fun β => sF (by kernel_rfl)) (fun β _ => ex_indexAddr_slice (j := 2) rfl rfl Tryz.underlying109 Tryz.sizeOf36 rfl (by omega) rfl)) (VcAll.nil)))))))))))))))) (fun β => ?_)
      refine OkLH.sub (F' := [(0, (Value.slice (some ⟨g, 0, none⟩) 3 3)), (1, (vI 0)), (2, (vI 3)), (3, (Value.func (.func 43) #[] #[])), (8, (vI 2)), (12, (vI 2)), (13, (vI 3)), (14, (Value.bool true)), (17, (vI 2)), (9, (vI 2)), (52, (pP g 0)), (35, (vI 1)), (36, (vI 0)), (15, (vI 1)), (16, (vI 2)), (18, (vI 2)), (19, (vI 0)), (20, (Value.bool true)), (21, (Value.bool true)), (22, (Value.func (.func 43) #[] #[])), (23, (Value.slice (some ⟨g, 0, none⟩) 3 3)), (24, (vI 2)), (25, (pP g 10)), (26, (aG (fracL z))), (27, (Value.slice (some ⟨g, 0, none⟩) 3 3)), (28, (vI 2)), (29, (vI 1)), (30, (pP g 5)), (31, (aG (fracL x))), (32, (vI (cmpQ z x))), (33, (Value.bool (decide ((cmpQ z x) < (0 : Int))))), (34, (Value.bool (decide ((cmpQ z x) < (0 : Int))))), (37, (Value.slice (some ⟨g, 0, none⟩) 3 3)), (38, (vI 2)), (39, (Value.slice (some ⟨g, 0, none⟩) 3 3)), (40, (vI 2)), (41, (vI 1)), (42, (Value.slice (some ⟨g, 0, none⟩) 3 3)), (43, (vI 2)), (44, (vI 1)), (45, (pP g 5)), (46, (aG (fracL x))), (47, (Value.slice (some ⟨g, 0, none⟩) 3 3)), (48, (vI 2)), (49, (pP g 10)), (50, (aG (fracL z))), (51, (pP g 10))]) (L' := [blk g 56 (fracL y ++ fracL x ++ fracL z)]) (sF rfl) (List.Sublist.refl _) ?_
      refine OkLH.store' (i := 0) (off := 10) (vs := fracL x) (cs' := fracL y ++ fracL x ++ fracL x) (L' := [blk g 56 (fracL y ++ fracL x ++ fracL x)]) (List.Sublist.cons _ (List.Sublist.refl _)) (wt_none rfl) rfl rfl rfl rfl rfl Tryz.sizeOf36 rfl rfl rfl rfl ?_
      refine OkLH.step (v := (pP g 5)) (List.Sublist.cons _ (List.Sublist.refl _)) (wt_none rfl) (ex_indexAddr_slice (j := 1) rfl rfl Tryz.underlying109 Tryz.sizeOf36 rfl (by omega) rfl) rfl (leB rfl) ?_
      refine OkLH.store' (i := 0) (off := 5) (vs := fracL z) (cs' := fracL y ++ fracL z ++ fracL x) (L' := [blk g 56 (fracL y ++ fracL z ++ fracL x)]) (List.Sublist.cons _ (List.Sublist.refl _)) (wt_none rfl) rfl rfl rfl rfl rfl Tryz.sizeOf36 rfl rfl rfl rfl ?_
      refine OkLH.nil ?_
      refine OkQ.in_normal ?_
      refine OkQ.then_ ?_
      refine OkC.region ?_
      refine st (ex_move rfl) (leB rfl) ?_
      refine st (ex_sub (c := (1 : Int)) rfl rfl (by decide)) (leB rfl) ?_
      refine st (ex_assign rfl) (leB rfl) ?_
      refine OkL.nil ?_
      refine OkQ.again ?_
      refine OkR.step ?_
      refine OkC.seq ?_
      refine OkC.seq ?_
      refine OkC.subF (sC 0 rfl (sC 1 rfl (sC 2 rfl (sC 3 rfl (sC 8 rfl (sC 12 rfl (sC 13 rfl (sC 14 rfl (sC 17 rfl (sC 9 rfl (sC 52 rfl (sC 35 rfl (sC 36 rfl (sC 15 rfl (sC 16 rfl (sC 37 rfl (sC 38 rfl (sC 39 rfl (sC 40 rfl (sC 41 rfl (sC 42 rfl (sC 43 rfl (sC 44 rfl (sC 45 rfl (sC 46 rfl (sC 47 rfl (sC 48 rfl (sC 49 rfl (sC 50 rfl (sC 51 rfl (sN))))))))))))))))))))))))))))))) ?_
      refine dR (specs := [⟨.pure, fun _ => (vI 1), [], 0, []⟩, ⟨.pure, fun _ => (vI 0), [], 0, []⟩, ⟨.pure, fun _ => (Value.bool true), [], 0, []⟩, ⟨.pure, fun _ => (Value.bool true), [], 0, []⟩, ⟨.pure, fun _ => (Value.func (.func 43) #[] #[]), [], 0, []⟩, ⟨.pure, fun _ => (Value.slice (some ⟨g, 0, none⟩) 3 3), [], 0, []⟩, ⟨.pure, fun _ => (vI 1), [], 0, []⟩, ⟨.pure, fun _ => (pP g 5), [], 0, []⟩, ⟨.held, fun _ => (aG (fracL z)), [], 0, []⟩, ⟨.pure, fun _ => (Value.slice (some ⟨g, 0, none⟩) 3 3), [], 0, []⟩, ⟨.pure, fun _ => (vI 1), [], 0, []⟩, ⟨.pure, fun _ => (vI 0), [], 0, []⟩, ⟨.pure, fun _ => (pP g 0), [], 0, []⟩, ⟨.held, fun _ => (aG (fracL y)), [], 0, []⟩, ⟨.call, fun _ => (vI (cmpQ z y)), [], 0, []⟩, ⟨.pure, fun _ => (Value.bool (decide ((cmpQ z y) < (0 : Int)))), [], 0, []⟩, ⟨.pure, fun _ => (Value.bool (decide ((cmpQ z y) < (0 : Int)))), [], 0, []⟩]) (Lro := [blk g 56 (fracL y ++ fracL z ++ fracL x)]) (List.Sublist.refl _) (dC (dC (dC (dC (dC (dC (dC (dC (dC (dC (dC (dC (dC (dC (dC (dC (dC (dN)))))))))))))))))) (by kernel_rfl) (by kernel_rfl) (fun _ _ d _ _ h => by cases d <;> exact h) (vC (vc_pure0 (G := fun β => [(9, (vI 1))]) (fun β => sF (by kernel_rfl)) (fun β _ => ex_move rfl)) (vC (vc_pure0 (G := fun β => [(1, (vI 0))]) (fun β => sF (by kernel_rfl)) (fun β _ => ex_move rfl)) (vC (vc_pure0 (G := fun β => [(18, (vI 1)), (19, (vI 0))]) (fun β => sF (by kernel_rfl)) (fun β _ => ex_gtr (c := true) rfl rfl (by decide))) (vC (vc_pure0 (G := fun β => [(20, (Value.bool true))]) (fun β => sF (by kernel_rfl)) (fun β _ => ex_move rfl)) (vC (vc_pure (G := fun β => [(3, (Value.func (.func 43) #[] #[])), (21, (Value.bool true))]) (fun β => sF (by kernel_rfl)) (fun β => wt_some rfl rfl rfl) (fun β _ => ex_move rfl)) (vC (vc_pure (G := fun β => [(0, (Value.slice (some ⟨g, 0, none⟩) 3 3)), (21, (Value.bool true))]) (fun β => sF (by kernel_rfl)) (fun β => wt_some rfl rfl rfl) (fun β _ => ex_move rfl)) (vC (vc_pure (G := fun β => [(9, (vI 1)), (21, (Value.bool true))]) (fun β => sF (by kernel_rfl)) (fun β => wt_some rfl rfl rfl) (fun β _ => ex_move rfl)) (vC (vc_pure (G := fun β => [(21, (Value.bool true)), (23, (Value.slice (some ⟨g, 0, none⟩) 3 3)), (24, (vI 1))]) (fun β => sF (by kernel_rfl)) (fun β => wt_some rfl rfl rfl) (fun β _ => ex_indexAddr_slice (j := 1) rfl rfl Tryz.underlying109 Tryz.sizeOf36 rfl (by omega) rfl)) (vC (vc_held (G := fun β => [(21, (Value.bool true)), (25, (pP g 5))]) (fun β => sF (by kernel_rfl)) (fun β => wt_some rfl rfl rfl) (fun β => ex_load_agg (i := 0) (vs := fracL z) rfl rfl Tryz.isAgg36 Tryz.sizeOf36 rfl rfl)) (vC (vc_pure (G := fun β => [(0, (Value.slice (some ⟨g, 0, none⟩) 3 3)), (21, (Value.bool true))]) (fun β => sF (by kernel_rfl)) (fun β => wt_some rfl rfl rfl) (fun β _ => ex_move rfl)) (vC (vc_pure (G := fun β => [(9, (vI 1)), (21, (Value.bool true))]) (fun β => sF (by kernel_rfl)) (fun β => wt_some rfl rfl rfl) (fun β _ => ex_move rfl)) (vC (vc_pure (G := fun β => [(21, (Value.bool true)), (28, (vI 1))]) (fun β => sF (by kernel_rfl)) (fun β => wt_some rfl rfl rfl) (fun β _ => ex_sub (c := (0 : Int)) rfl rfl (by decide))) (vC (vc_pure (G := fun β => [(21, (Value.bool true)), (27, (Value.slice (some ⟨g, 0, none⟩) 3 3)), (29, (vI 0))]) (fun β => sF (by kernel_rfl)) (fun β => wt_some rfl rfl rfl) (fun β _ => ex_indexAddr_slice (j := 0) rfl rfl Tryz.underlying109 Tryz.sizeOf36 rfl (by omega) rfl)) (vC (vc_held (G := fun β => [(21, (Value.bool true)), (30, (pP g 0))]) (fun β => sF (by kernel_rfl)) (fun β => wt_some rfl rfl rfl) (fun β => ex_load_agg (i := 0) (vs := fracL y) rfl rfl Tryz.isAgg36 Tryz.sizeOf36 rfl rfl)) (vC (vc_call (G := fun β => [(21, (Value.bool true)), (22, (Value.func (.func 43) #[] #[])), (26, (aG (fracL z))), (31, (aG (fracL y)))]) (fun β => sF (by kernel_rfl)) (fun β => wt_some rfl rfl rfl) (fun β => op_call0 (args := [(aG (fracL z)), (aG (fracL y))]) rfl rfl Tryz.call43) (fun β w hw => fCmp_ok z y (by omega) w)) (vC (vc_pure (G := fun β => [(21, (Value.bool true)), (32, (vI (cmpQ z y)))]) (fun β => sF (by kernel_rfl)) (fun β => wt_some rfl rfl rfl) (fun β _ => ex_lss (c := (decide ((cmpQ z y) < (0 : Int)))) rfl rfl rfl)) (vC (vc_pure0 (G := fun β => [(21, (Value.bool true)), (33, (Value.bool (decide ((cmpQ z y) < (0 : Int)))))]) (fun β => sF (by kernel_rfl)) (fun β _ => ex_pick_true rfl rfl)) (VcAll.nil)))))))))))))))))) (fun β => ?_)
      refine OkLH.sub (F' := [(0, (Value.slice (some ⟨g, 0, none⟩) 3 3)), (1, (vI 0)), (2, (vI 3)), (3, (Value.func (.func 43) #[] #[])), (8, (vI 2)), (12, (vI 2)), (13, (vI 3)), (14, (Value.bool true)), (17, (vI 2)), (9, (vI 1)), (52, (pP g 5)), (35, (vI 2)), (36, (vI 1)), (15, (vI 1)), (16, (vI 2)), (37, (Value.slice (some ⟨g, 0, none⟩) 3 3)), (38, (vI 2)), (39, (Value.slice (some ⟨g, 0, none⟩) 3 3)), (40, (vI 2)), (41, (vI 1)), (42, (Value.slice (some ⟨g, 0, none⟩) 3 3)), (43, (vI 2)), (44, (vI 1)), (45, (pP g 5)), (46, (aG (fracL x))), (47, (Value.slice (some ⟨g, 0, none⟩) 3 3)), (48, (vI 2)), (49, (pP g 10)), (50, (aG (fracL z))), (51, (pP g 10)), (18, (vI 1)), (19, (vI 0)), (20, (Value.bool true)), (21, (Value.bool true)), (22, (Value.func (.func 43) #[] #[])), (23, (Value.slice (some ⟨g, 0, none⟩) 3 3)), (24, (vI 1)), (25, (pP g 5)), (26, (aG (fracL z))), (27, (Value.slice (some ⟨g, 0, none⟩) 3 3)), (28, (vI 1)), (29, (vI 0)), (30, (pP g 0)), (31, (aG (fracL y))), (32, (vI (cmpQ z y))), (33, (Value.bool (decide ((cmpQ z y) < (0 : Int))))), (34, (Value.bool (decide ((cmpQ z y) < (0 : Int)))))]) (L' := [blk g 56 (fracL y ++ fracL z ++ fracL x)]) (sF rfl) (List.Sublist.refl _) ?_
      refine OkLH.nil ?_
      refine OkQ.then_ ?_
      refine OkC.cond rfl (fun hc1 => ?_) (fun hc1 => ?_)
      · replace hc1 := of_decide_eq_true hc1
        have c21 := hc1
        rw [cmpQ_lt] at c21
        refine OkC.skip ?_
        refine q1 ?_
        refine OkC.block ?_
        refine OkC.subF (sC 0 rfl (sC 1 rfl (sC 2 rfl (sC 3 rfl (sC 8 rfl (sC 12 rfl (sC 13 rfl (sC 14 rfl (sC 17 rfl (sC 9 rfl (sC 52 rfl (sC 35 rfl (sC 36 rfl (sC 15 rfl (sC 16 rfl (sC 18 rfl (sC 19 rfl (sC 20 rfl (sC 21 rfl (sC 22 rfl (sC 23 rfl (sC 24 rfl (sC 25 rfl (sC 26 rfl (sC 27 rfl (sC 28 rfl (sC 29 rfl (sC 30 rfl (sC 31 rfl (sC 32 rfl (sC 33 rfl (sC 34 rfl (sN))))))))))))))))))))))))))))))))) ?_
        refine dR (specs := [⟨.pure, fun _ => (Value.slice (some ⟨g, 0, none⟩) 3 3), [], 0, []⟩, ⟨.pure, fun _ => (vI 1), [], 0, []⟩, ⟨.pure, fun _ => (Value.slice (some ⟨g, 0, none⟩) 3 3), [], 0, []⟩, ⟨.pure, fun _ => (vI 1), [], 0, []⟩, ⟨.pure, fun _ => (vI 0), [], 0, []⟩, ⟨.pure, fun _ => (Value.slice (some ⟨g, 0, none⟩) 3 3), [], 0, []⟩, ⟨.pure, fun _ => (vI 1), [], 0, []⟩, ⟨.pure, fun _ => (vI 0), [], 0, []⟩, ⟨.pure, fun _ => (pP g 0), [], 0, []⟩, ⟨.look, fun _ => (aG (fracL y)), [], 0, []⟩, ⟨.pure, fun _ => (Value.slice (some ⟨g, 0, none⟩) 3 3), [], 0, []⟩, ⟨.pure, fun _ => (vI 1), [], 0, []⟩, ⟨.pure, fun _ => (pP g 5), [], 0, []⟩, ⟨.look, fun _ => (aG (fracL z)), [], 0, []⟩, ⟨.pure, fun _ => (pP g 5), [], 0, []⟩]) (Lro := []) (List.Sublist.cons _ (List.Sublist.refl _)) (dC (dC (dC (dC (dC (dC (dC (dC (dC (dC (dC (dC (dC (dC (dC (dN)))))))))))))))) (by kernel_rfl) (by kernel_rfl) (fun _ _ d _ _ h => by cases d <;> exact h) (vC (vc_pure0 (G := fun β => [(0, (Value.slice (some ⟨g, 0, none⟩) 3 3))]) (fun β => sF (by kernel_rfl)) (fun β _ => ex_move rfl)) (vC (vc_pure0 (G := fun β => [(9, (vI 1))]) (fun β => sF (by kernel_rfl)) (fun β _ => ex_move rfl)) (vC (vc_pure0 (G := fun β => [(0, (Value.slice (some ⟨g, 0, none⟩) 3 3))]) (fun β => sF (by kernel_rfl)) (fun β _ => ex_move rfl)) (vC (vc_pure0 (G := fun β => [(9, (vI 1))]) (fun β => sF (by kernel_rfl)) (fun β _ => ex_move rfl)) (vC (vc_pure0 (G := fun β => [(40, (vI 1))]) (fun β => sF (by kernel_rfl)) (fun β _ => ex_sub (c := (0 : Int)) rfl rfl (by decide))) (vC (vc_pure0 (G := fun β => [(0, (Value.slice (some ⟨g, 0, none⟩) 3 3))]) (fun β => sF (by kernel_rfl)) (fun β _ => ex_move rfl)) (vC (vc_pure0 (G := fun β => [(9, (vI 1))]) (fun β => sF (by kernel_rfl)) (fun β _ => ex_move rfl)) (vC (vc_pure0 (G := fun β => [(43, (vI 1))]) (fun β => sF (by kernel_rfl)) (fun β _ => ex_sub (c := (0 : Int)) rfl rfl (by decide))) (vC (vc_pure0 (G := fun β => [(42, (Value.slice (some ⟨g, 0, none⟩) 3 3)), (44, (vI 0))]) (fun β => sF (by kernel_rfl)) (fun β _ => ex_indexAddr_slice (j := 0) rfl rfl Tryz.underlying109 Tryz.sizeOf36 rfl (by omega) rfl)) (vC (vc_look0 (G := fun β => [(45, (pP g 0))]) (fun β => sF (by kernel_rfl)) (fun β => ex_load_agg (i := 0) (vs := fracL y) rfl rfl Tryz.isAgg36 Tryz.sizeOf36 rfl rfl)) (vC (vc_pure0 (G := fun β => [(0, (Value.slice (some ⟨g, 0, none⟩) 3 3))]) (fun β => sF (by kernel_rfl)) (fun β _ => ex_move rfl)) (vC (vc_pure0 (G := fun β => [(9, (vI 1))]) (fun β => sF (by kernel_rfl)) (fun β _ => ex_move rfl)) (vC (vc_pure0 (G := fun β => [(47, (Value.slice (some ⟨g, 0, none⟩) 3 3)), (48, (vI 1))]) (fun β => sF (by kernel_rfl)) (fun β _ => ex_indexAddr_slice (j := 1) rfl rfl Tryz.underlying109 Tryz.sizeOf36 rfl (by omega) rfl)) (vC (vc_look0 (G := fun β => [(49, (pP g 5))]) (fun β => sF (by kernel_rfl)) (fun β => ex_load_agg (i := 0) (vs := fracL z) rfl rfl Tryz.isAgg36 Tryz.sizeOf36 rfl rfl)) (vC (vc_pure0 (G := fun β => [(37, (Value.slice (some ⟨g, 0, none⟩) 3 3)), (38, (vI 1))]) (fun β => sF (by kernel_rfl)) (fun β _ => ex_indexAddr_slice (j := 1) rfl rfl Tryz.underlying109 Tryz.sizeOf36 rfl (by omega) rfl)) (VcAll.nil)))))))))))))))) (fun β => ?_)
        refine OkLH.sub (F' := [(0, (Value.slice (some ⟨g, 0, none⟩) 3 3)), (1, (vI 0)), (2, (vI 3)), (3, (Value.func (.func 43) #[] #[])), (8, (vI 2)), (12, (vI 2)), (13, (vI 3)), (14, (Value.bool true)), (17, (vI 2)), (9, (vI 1)), (52, (pP g 5)), (35, (vI 2)), (36, (vI 1)), (15, (vI 1)), (16, (vI 2)), (18, (vI 1)), (19, (vI 0)), (20, (Value.bool true)), (21, (Value.bool true)), (22, (Value.func (.func 43) #[] #[])), (23, (Value.slice (some ⟨g, 0, none⟩) 3 3)), (24, (vI 1)), (25, (pP g 5)), (26, (aG (fracL z))), (27, (Value.slice (some ⟨g, 0, none⟩) 3 3)), (28, (vI 1)), (29, (vI 0)), (30, (pP g 0)), (31, (aG (fracL y))), (32, (vI (cmpQ z y))), (33, (Value.bool (decide ((cmpQ z y) < (0 : Int))))), (34, (Value.bool (decide ((cmpQ z y) < (0 : Int))))), (37, (Value.slice (some ⟨g, 0, none⟩) 3 3)), (38, (vI 1)), (39, (Value.slice (some ⟨g, 0, none⟩) 3 3)), (40, (vI 1)), (41, (vI 0)), (42, (Value.slice (some ⟨g, 0, none⟩) 3 3)), (43, (vI 1)), (44, (vI 0)), (45, (pP g 0)), (46, (aG (fracL y))), (47, (Value.slice (some ⟨g, 0, none⟩) 3 3)), (48, (vI 1)), (49, (pP g 5)), (50, (aG (fracL z))), (51, (pP g 5))]) (L' := [blk g 56 (fracL y ++ fracL z ++ fracL x)]) (sF rfl) (List.Sublist.refl _) ?_
        refine OkLH.store' (i := 0) (off := 5) (vs := fracL y) (cs' := fracL y ++ fracL y ++ fracL x) (L' := [blk g 56 (fracL y ++ fracL y ++ fracL x)]) (List.Sublist.cons _ (List.Sublist.refl _)) (wt_none rfl) rfl rfl rfl rfl rfl Tryz.sizeOf36 rfl rfl rfl rfl ?_
        refine OkLH.step (v := (pP g 0)) (List.Sublist.cons _ (List.Sublist.refl _)) (wt_none rfl) (ex_indexAddr_slice (j := 0) rfl rfl Tryz.underlying109 Tryz.sizeOf36 rfl (by omega) rfl) rfl (leB rfl) ?_
        refine OkLH.store' (i := 0) (off := 0) (vs := fracL z) (cs' := fracL z ++ fracL y ++ fracL x) (L' := [blk g 56 (fracL z ++ fracL y ++ fracL x)]) (List.Sublist.cons _ (List.Sublist.refl _)) (wt_none rfl) rfl rfl rfl rfl rfl Tryz.sizeOf36 rfl rfl rfl rfl ?_
        refine OkLH.nil ?_
        refine OkQ.in_normal ?_
        refine OkQ.then_ ?_
        refine OkC.region ?_
        refine st (ex_move rfl) (leB rfl) ?_
        refine st (ex_sub (c := (0 : Int)) rfl rfl (by decide)) (leB rfl) ?_
        refine st (ex_assign rfl) (leB rfl) ?_
        refine OkL.nil ?_
        refine OkQ.again ?_
        refine OkR.step ?_
        refine OkC.seq ?_
        refine OkC.seq ?_
        refine OkC.subF (sC 0 rfl (sC 1 rfl (sC 2 rfl (sC 3 rfl (sC 8 rfl (sC 12 rfl (sC 13 rfl (sC 14 rfl (sC 17 rfl (sC 9 rfl (sC 52 rfl (sC 35 rfl (sC 36 rfl (sC 15 rfl (sC 16 rfl (sC 37 rfl (sC 38 rfl (sC 39 rfl (sC 40 rfl (sC 41 rfl (sC 42 rfl (sC 43 rfl (sC 44 rfl (sC 45 rfl (sC 46 rfl (sC 47 rfl (sC 48 rfl (sC 49 rfl (sC 50 rfl (sC 51 rfl (sN))))))))))))))))))))))))))))))) ?_
        refine dR (specs := [⟨.pure, fun _ => (vI 0), [], 0, []⟩, ⟨.pure, fun _ => (vI 0), [], 0, []⟩, ⟨.pure, fun _ => (Value.bool false), [], 0, []⟩, ⟨.pure, fun _ => (Value.bool false), [], 0, []⟩, ⟨.pure, fun _ => undef, [], 0, []⟩, ⟨.pure, fun _ => undef, [], 0, []⟩, ⟨.pure, fun _ => undef, [], 0, []⟩, ⟨.pure, fun _ => undef, [], 0, []⟩, ⟨.pure, fun _ => undef, [], 0, []⟩, ⟨.pure, fun _ => undef, [], 0, []⟩, ⟨.pure, fun _ => undef, [], 0, []⟩, ⟨.pure, fun _ => undef, [], 0, []⟩, ⟨.pure, fun _ => undef, [], 0, []⟩, ⟨.pure, fun _ => undef, [], 0, []⟩, ⟨.pure, fun _ => undef, [], 0, []⟩, ⟨.pure, fun _ => undef, [], 0, []⟩, ⟨.pure, fun _ => (Value.bool false), [], 0, []⟩]) (Lro := [blk g 56 (fracL z ++ fracL y ++ fracL x)]) (List.Sublist.refl _) (dC (dC (dC (dC (dC (dC (dC (dC (dC (dC (dC (dC (dC (dC (dC (dC (dC (dN)))))))))))))))))) (by kernel_rfl) (by kernel_rfl) (fun _ _ d _ _ h => by cases d <;> exact h) (vC (vc_pure0 (G := fun β => [(9, (vI 0))]) (fun β => sF (by kernel_rfl)) (fun β _ => ex_move rfl)) (vC (vc_pure0 (G := fun β => [(1, (vI 0))]) (fun β => sF (by kernel_rfl)) (fun β _ => ex_move rfl)) (vC (vc_pure0 (G := fun β => [(18, (vI 0)), (19, (vI 0))]) (fun β => sF (by kernel_rfl)) (fun β _ => ex_gtr (c := false) rfl rfl (by decide))) (vC (vc_pure0 (G := fun β => [(20, (Value.bool false))]) (fun β => sF (by kernel_rfl)) (fun β _ => ex_move rfl)) (vC (vc_skip (G := fun _ => [(21, (Value.bool false))]) (fun _ => (sF (by kernel_rfl))) (fun _ => wt_not rfl rfl rfl)) (vC (vc_skip (G := fun _ => [(21, (Value.bool false))]) (fun _ => (sF (by kernel_rfl))) (fun _ => wt_not rfl rfl rfl)) (vC (vc_skip (G := fun _ => [(21, (Value.bool false))]) (fun _ => (sF (by kernel_rfl))) (fun _ => wt_not rfl rfl rfl)) (vC (vc_skip (G := fun _ => [(21, (Value.bool false))]) (fun _ => (sF (by kernel_rfl))) (fun _ => wt_not rfl rfl rfl)) (vC (vc_skip (G := fun _ => [(21, (Value.bool false))]) (fun _ => (sF (by kernel_rfl))) (fun _ => wt_not rfl rfl rfl)) (vC (vc_skip (G := fun _ => [(21, (Value.bool false))]) (fun _ => (sF (by kernel_rfl))) (fun _ => wt_not rfl rfl rfl)) (vC (vc_skip (G := fun _ => [(21, (Value.bool false))]) (fun _ => (sF (by kernel_rfl))) (fun _ => wt_not rfl rfl rfl)) (vC (vc_skip (G := fun _ => [(21, (Value.bool false))]) (fun _ => (sF (by kernel_rfl))) (fun _ => wt_not rfl rfl rfl)) (vC (vc_skip (G := fun _ => [(21, (Value.bool false))]) (fun _ => (sF (by kernel_rfl))) (fun _ => wt_not rfl rfl rfl)) (vC (vc_skip (G := fun _ => [(21, (Value.bool false))]) (fun _ => (sF (by kernel_rfl))) (fun _ => wt_not rfl rfl rfl)) (vC (vc_skip (G := fun _ => [(21, (Value.bool false))]) (fun _ => (sF (by kernel_rfl))) (fun _ => wt_not rfl rfl rfl)) (vC (vc_skip (G := fun _ => [(21, (Value.bool false))]) (fun _ => (sF (by kernel_rfl))) (fun _ => wt_not rfl rfl rfl)) (vC (vc_pure0 (G := fun β => [(21, (Value.bool false))]) (fun β => sF (by kernel_rfl)) (fun β _ => ex_pick_false rfl rfl)) (VcAll.nil)))))))))))))))))) (fun β => ?_)
        refine OkLH.sub (F' := [(0, (Value.slice (some ⟨g, 0, none⟩) 3 3)), (1, (vI 0)), (2, (vI 3)), (3, (Value.func (.func 43) #[] #[])), (8, (vI 2)), (12, (vI 2)), (13, (vI 3)), (14, (Value.bool true)), (17, (vI 2)), (9, (vI 0)), (52, (pP g 0)), (35, (vI 1)), (36, (vI 0)), (15, (vI 1)), (16, (vI 2)), (37, (Value.slice (some ⟨g, 0, none⟩) 3 3)), (38, (vI 1)), (39, (Value.slice (some ⟨g, 0, none⟩) 3 3)), (40, (vI 1)), (41, (vI 0)), (42, (Value.slice (some ⟨g, 0, none⟩) 3 3)), (43, (vI 1)), (44, (vI 0)), (45, (pP g 0)), (46, (aG (fracL y))), (47, (Value.slice (some ⟨g, 0, none⟩) 3 3)), (48, (vI 1)), (49, (pP g 5)), (50, (aG (fracL z))), (51, (pP g 5)), (18, (vI 0)), (19, (vI 0)), (20, (Value.bool false)), (21, (Value.bool false)), (34, (Value.bool false))]) (L' := [blk g 56 (fracL z ++ fracL y ++ fracL x)]) (sF rfl) (List.Sublist.refl _) ?_
        refine OkLH.nil ?_
        refine OkQ.then_ ?_
        refine OkC.cond_false rfl ?_
        refine OkC.exit ?_
        refine OkQ.then_exit ?_
        refine OkQ.then_exit ?_
        refine OkQ.in_exit ?_
        refine OkQ.in_normal ?_
        refine OkQ.then_ ?_
        refine OkC.region ?_
        refine st (ex_move rfl) (leB rfl) ?_
        refine st (ex_add (c := (3 : Int)) rfl rfl (by decide)) (leB rfl) ?_
        refine st (ex_assign rfl) (leB rfl) ?_
        refine OkL.nil ?_
        refine OkQ.again ?_
        refine OkR.step ?_
        refine OkC.seq ?_
        refine q4 ?_
        refine st (ex_move rfl) (leB rfl) ?_
        refine st (ex_move rfl) (leB rfl) ?_
        refine st (ex_lss (c := false) rfl rfl (by decide)) (leB rfl) ?_
        refine OkL.nil ?_
        refine OkQ.then_ ?_
        refine OkC.cond_false rfl ?_
        refine OkC.exit ?_
        refine OkQ.then_exit ?_
        refine OkQ.then_exit ?_
        refine OkQ.in_exit ?_
        exact ret_none (.inr rfl) rfl  (fun w hw => ⟨rfl, hw.1, by rw [show sort3L x y z = fracL z ++ fracL y ++ fracL x from by unfold sort3L; simp only [*, if_true, if_false]]; exact hw.get (i := 0) rfl⟩)
      · replace hc1 := of_decide_eq_false hc1
        have c21 := hc1
        rw [cmpQ_lt] at c21
        refine OkC.exit ?_
        refine OkQ.then_exit ?_
        refine OkQ.then_exit ?_
        refine OkQ.in_exit ?_
        refine OkQ.in_normal ?_
        refine OkQ.then_ ?_
        refine OkC.region ?_
        refine st (ex_move rfl) (leB rfl) ?_
        refine st (ex_add (c := (3 : Int)) rfl rfl (by decide)) (leB rfl) ?_
        refine st (ex_assign rfl) (leB rfl) ?_
        refine OkL.nil ?_
        refine OkQ.again ?_
        refine OkR.step ?_
        refine OkC.seq ?_
        refine q4 ?_
        refine st (ex_move rfl) (leB rfl) ?_
        refine st (ex_move rfl) (leB rfl) ?_
        refine st (ex_lss (c := false) rfl rfl (by decide)) (leB rfl) ?_
        refine OkL.nil ?_
        refine OkQ.then_ ?_
        refine OkC.cond_false rfl ?_
        refine OkC.exit ?_
        refine OkQ.then_exit ?_
        refine OkQ.then_exit ?_
        refine OkQ.in_exit ?_
        exact ret_none (.inr rfl) rfl  (fun w hw => ⟨rfl, hw.1, by rw [show sort3L x y z = fracL y ++ fracL z ++ fracL x from by unfold sort3L; simp only [*, if_true, if_false]]; exact hw.get (i := 0) rfl⟩)
    · replace hc1 := of_decide_eq_false hc1
      have c22 := hc1
      rw [cmpQ_lt] at c22
      refine OkC.exit ?_
      refine OkQ.then_exit ?_
      refine OkQ.then_exit ?_
      refine OkQ.in_exit ?_
      refine OkQ.in_normal ?_
      refine OkQ.then_ ?_
      refine OkC.region ?_
      refine st (ex_move rfl) (leB rfl) ?_
      refine st (ex_add (c := (3 : Int)) rfl rfl (by decide)) (leB rfl) ?_
      refine st (ex_assign rfl) (leB rfl) ?_
      refine OkL.nil ?_
      refine OkQ.again ?_
      refine OkR.step ?_
      refine OkC.seq ?_
      refine q4 ?_
      refine st (ex_move rfl) (leB rfl) ?_
      refine st (ex_move rfl) (leB rfl) ?_
      refine st (ex_lss (c := false) rfl rfl (by decide)) (leB rfl) ?_
      refine OkL.nil ?_
      refine OkQ.then_ ?_
      refine OkC.cond_false rfl ?_
      refine OkC.exit ?_
      refine OkQ.then_exit ?_
      refine OkQ.then_exit ?_
      refine OkQ.in_exit ?_
      exact ret_none (.inr rfl) rfl  (fun w hw => ⟨rfl, hw.1, by rw [show sort3L x y z = fracL y ++ fracL x ++ fracL z from by unfold sort3L; simp only [*, if_true, if_false]]; exact hw.get (i := 0) rfl⟩)
  · replace hc1 := of_decide_eq_false hc1
    have c11 := hc1
    rw [cmpQ_lt] at c11
    refine OkC.exit ?_
    refine OkQ.then_exit ?_
    refine OkQ.then_exit ?_
    refine OkQ.in_exit ?_
    refine OkQ.in_normal ?_
    refine OkQ.then_ ?_
    refine OkC.region ?_
    refine st (ex_move rfl) (leB rfl) ?_
    refine st (ex_add (c := (2 : Int)) rfl rfl (by decide)) (leB rfl) ?_
    refine st (ex_assign rfl) (leB rfl) ?_
    refine OkL.nil ?_
    refine OkQ.again ?_
    refine OkR.step ?_
    refine OkC.seq ?_
    refine q4 ?_
    refine st (ex_move rfl) (leB rfl) ?_
    refine st (ex_move rfl) (leB rfl) ?_
    refine st (ex_lss (c := true) rfl rfl (by decide)) (leB rfl) ?_
    refine OkL.nil ?_
    refine OkQ.then_ ?_
    refine OkC.cond_true rfl ?_
    refine OkC.skip ?_
    refine q1 ?_
    refine OkC.block ?_
    refine q4 ?_
    refine st (ex_move rfl) (leB rfl) ?_
    refine st (ex_assign rfl) (leB rfl) ?_
    refine OkL.nil ?_
    refine OkQ.then_ ?_
    refine OkC.block ?_
    refine OkC.unroll 5 ?_
    refine OkR.step ?_
    refine OkC.seq ?_
    refine OkC.seq ?_
    refine OkC.subF (sC 0 rfl (sC 1 rfl (sC 2 rfl (sC 3 rfl (sC 8 rfl (sC 12 rfl (sC 13 rfl (sC 14 rfl (sC 17 rfl (sC 9 rfl (sC 15 rfl (sC 16 rfl (sN))))))))))))) ?_
    refine dR (specs := [⟨.pure, fun _ => (vI 2), [], 0, []⟩, ⟨.pure, fun _ => (vI 0), [], 0, []⟩, ⟨.pure, fun _ => (Value.bool true), [], 0, []⟩, ⟨.pure, fun _ => (Value.bool true), [], 0, []⟩, ⟨.pure, fun _ => (Value.func (.func 43) #[] #[]), [], 0, []⟩, ⟨.pure, fun _ => (Value.slice (some ⟨g, 0, none⟩) 3 3), [], 0, []⟩, ⟨.pure, fun _ => (vI 2), [], 0, []⟩, ⟨.pure, fun _ => (pP g 10), [], 0, []⟩, ⟨.held, fun _ => (aG (fracL z)), [], 0, []⟩, ⟨.pure, fun _ => (Value.slice (some ⟨g, 0, none⟩) 3 3), [], 0, []⟩, ⟨.pure, fun _ => (vI 2), [], 0, []⟩, ⟨.pure, fun _ => (vI 1), [], 0, []⟩, ⟨.pure, fun _ => (pP g 5), [], 0, []⟩, ⟨.held, fun _ => (aG (fracL y)), [], 0, []⟩, ⟨.call, fun _ => (vI (cmpQ z y)), [], 0, []⟩, ⟨.pure, fun _ => (Value.bool (decide ((cmpQ z y) < (0 : Int)))), [], 0, []⟩, ⟨.pure, fun _ => (Value.bool (decide ((cmpQ z y) < (0 : Int)))), [], 0, []⟩]) (Lro := [blk g 56 (fracL x ++ fracL y ++ fracL z)]) (List.Sublist.refl _) (dC (dC (dC (dC (dC (dC (dC (dC (dC (dC (dC (dC (dC (dC (dC (dC (dC (dN)))))))))))))))))) (by kernel_rfl) (by kernel_rfl) (fun _ _ d _ _ h => by cases d <;> exact h) (vC (vc_pure0 (G := fun β => [(9, (vI 2))]) (fun β => sF (by kernel_rfl)) (fun β _ => ex_move rfl)) (vC (vc_pure0 (G := fun β => [(1, (vI 0))]) (fun β => sF (by kernel_rfl)) (fun β _ => ex_move rfl)) (vC (vc_pure0 (G := fun β => [(18, (vI 2)), (19, (vI 0))]) (fun β => sF (by kernel_rfl)) (fun β _ => ex_gtr (c := true) rfl rfl (by decide))) (vC (vc_pure0 (G := fun β => [(20, (Value.bool true))]) (fun β => sF (by kernel_rfl)) (fun β _ => ex_move rfl)) (vC (vc_pure (G := fun β => [(3, (Value.func (.func 43) #[] #[])), (21, (Value.bool true))]) (fun β => sF (by kernel_rfl)) (fun β => wt_some rfl rfl rfl) (fun β _ => ex_move rfl)) (vC (vc_pure (G := fun β => [(0, (Value.slice (some ⟨g, 0, none⟩) 3 3)), (21, (Value.bool true))]) (fun β => sF (by kernel_rfl)) (fun β => wt_some rfl rfl rfl) (fun β _ => ex_move rfl)) (vC (vc_pure (G := fun β => [(9, (vI 2)), (21, (Value.bool true))]) (fun β => sF (by kernel_rfl)) (fun β => wt_some rfl rfl rfl) (fun β _ => ex_move rfl)) (vC (vc_pure (G := fun β => [(21, (Value.bool true)), (23, (Value.slice (some ⟨g, 0, none⟩) 3 3)), (24, (vI 2))]) (fun β => sF (by kernel_rfl)) (fun β => wt_some rfl rfl rfl) (fun β _ => ex_indexAddr_slice (j := 2) rfl rfl Tryz.underlying109 Tryz.sizeOf36 rfl (by omega) rfl)) (vC (vc_held (G := fun β => [(21, (Value.bool true)), (25, (pP g 10))]) (fun β => sF (by kernel_rfl)) (fun β => wt_some rfl rfl rfl) (fun β => ex_load_agg (i := 0) (vs := fracL z) rfl rfl Tryz.isAgg36 Tryz.sizeOf36 rfl rfl)) (vC (vc_pure (G := fun β => [(0, (Value.slice (some ⟨g, 0, none⟩) 3 3)), (21, (Value.bool true))]) (fun β => sF (by kernel_rfl)) (fun β => wt_some rfl rfl rfl) (fun β _ => ex_move rfl)) (vC (vc_pure (G := fun β => [(9, (vI 2)), (21, (Value.bool true))]) (fun β => sF (by kernel_rfl)) (fun β => wt_some rfl rfl rfl) (fun β _ => ex_move rfl)) (vC (vc_pure (G := fun β => [(21, (Value.bool true)), (28, (vI 2))]) (fun β => sF (by kernel_rfl)) (fun β => wt_some rfl rfl rfl) (fun β _ => ex_sub (c := (1 : Int)) rfl rfl (by decide))) (vC (vc_pure (G := fun β => [(21, (Value.bool true)), (27, (Value.slice (some ⟨g, 0, none⟩) 3 3)), (29, (vI 1))]) (fun β => sF (by kernel_rfl)) (fun β => wt_some rfl rfl rfl) (fun β _ => ex_indexAddr_slice (j := 1) rfl rfl Tryz.underlying109 Tryz.sizeOf36 rfl (by omega) rfl)) (vC (vc_held (G := fun β => [(21, (Value.bool true)), (30, (pP g 5))]) (fun β => sF (by kernel_rfl)) (fun β => wt_some rfl rfl rfl) (fun β => ex_load_agg (i := 0) (vs := fracL y) rfl rfl Tryz.isAgg36 Tryz.sizeOf36 rfl rfl)) (vC (vc_call (G := fun β => [(21, (Value.bool true)), (22, (Value.func (.func 43) #[] #[])), (26, (aG (fracL z))), (31, (aG (fracL y)))]) (fun β => sF (by kernel_rfl)) (fun β => wt_some rfl rfl rfl) (fun β => op_call0 (args := [(aG (fracL z)), (aG (fracL y))]) rfl rfl Tryz.call43) (fun β w hw => fCmp_ok z y (by omega) w)) (vC (vc_pure (G := fun β => [(21, (Value.bool true)), (32, (vI (cmpQ z y)))]) (fun β => sF (by kernel_rfl)) (fun β => wt_some rfl rfl rfl) (fun β _ => ex_lss (c := (decide ((cmpQ z y) < (0 : Int)))) rfl rfl rfl)) (vC (vc_pure0 (G := fun β => [(21, (Value.bool true)), (33, (Value.bool (decide ((cmpQ z y) < (0 : Int)))))]) (fun β => sF (by kernel_rfl)) (fun β _ => ex_pick_true rfl rfl)) (VcAll.nil)))))))))))))))))) (fun β => ?_)
    refine OkLH.sub (F' := [(0, (Value.slice (some ⟨g, 0, none⟩) 3 3)), (1, (vI 0)), (2, (vI 3)), (3, (Value.func (.func 43) #[] #[])), (8, (vI 2)), (12, (vI 2)), (13, (vI 3)), (14, (Value.bool true)), (17, (vI 2)), (9, (vI 2)), (15, (vI 1)), (16, (vI 2)), (18, (vI 2)), (19, (vI 0)), (20, (Value.bool true)), (21, (Value.bool true)), (22, (Value.func (.func 43) #[] #[])), (23, (Value.slice (some ⟨g, 0, none⟩) 3 3)), (24, (vI 2)), (25, (pP g 10)), (26, (aG (fracL z))), (27, (Value.slice (some ⟨g, 0, none⟩) 3 3)), (28, (vI 2)), (29, (vI 1)), (30, (pP g 5)), (31, (aG (fracL y))), (32, (vI (cmpQ z y))), (33, (Value.bool (decide ((cmpQ z y) < (0 : Int))))), (34, (Value.bool (decide ((cmpQ z y) < (0 : Int)))))]) (L' := [blk g 56 (fracL x ++ fracL y ++ fracL z)]) (sF rfl) (List.Sublist.refl _) ?_
    refine OkLH.nil ?_
    refine OkQ.then_ ?_
    refine OkC.cond rfl (fun hc1 => ?_) (fun hc1 => ?_)
    · replace hc1 := of_decide_eq_true hc1
      have c22 := hc1
      rw [cmpQ_lt] at c22
      refine OkC.skip ?_
      refine q1 ?_
      refine OkC.block ?_
      refine dR (specs := [⟨.pure, fun _ => (Value.slice (some ⟨g, 0, none⟩) 3 3), [], 0, []⟩, ⟨.pure, fun _ => (vI 2), [], 0, []⟩, ⟨.pure, fun _ => (Value.slice (some ⟨g, 0, none⟩) 3 3), [], 0, []⟩, ⟨.pure, fun _ => (vI 2), [], 0, []⟩, ⟨.pure, fun _ => (vI 1), [], 0, []⟩, ⟨.pure, fun _ => (Value.slice (some ⟨g, 0, none⟩) 3 3), [], 0, []⟩, ⟨.pure, fun _ => (vI 2), [], 0, []⟩, ⟨.pure, fun _ => (vI 1), [], 0, []⟩, ⟨.pure, fun _ => (pP g 5), [], 0, []⟩, ⟨.look, fun _ => (aG (fracL y)), [], 0, []⟩, ⟨.pure, fun _ => (Value.slice (some ⟨g, 0, none⟩) 3 3), [], 0, []⟩, ⟨.pure, fun _ => (vI 2), [], 0, []⟩, ⟨.pure, fun _ => (pP g 10), [], 0, []⟩, ⟨.look, fun _ => (aG (fracL z)), [], 0, []⟩, ⟨.pure, fun _ => (pP g 10), [], 0, []⟩]) (Lro := []) (List.Sublist.cons _ (List.Sublist.refl _)) (dC (dC (dC (dC (dC (dC (dC (dC (dC (dC (dC (dC (dC (dC (dC (dN)))))))))))))))) (by kernel_rfl) (by kernel_rfl) (fun _ _ d _ _ h => by cases d <;> exact h) (vC (vc_pure0 (G := fun β => [(0, (Value.slice (some ⟨g, 0, none⟩) 3 3))]) (fun β => sF (by kernel_rfl)) (fun β _ => ex_move rfl)) (vC (vc_pure0 (G := fun β => [(9, (vI 2))]) (fun β => sF (by kernel_rfl)) (fun β _ => ex_move rfl)) (vC (vc_pure0 (G := fun β => [(0, (Value.slice (some ⟨g, 0, none⟩) 3 3))]) (fun β => sF (by kernel_rfl)) (fun β _ => ex_move rfl)) (vC (vc_pure0 (G := fun β => [(9, (vI 2))]) (fun β => sF (by kernel_rfl)) (fun β _ => ex_move rfl)) (vC (vc_pure0 (G := fun β => [(40, (vI 2))]) (fun β => sF (by kernel_rfl)) (fun β _ => ex_sub (c := (1 : Int)) rfl rfl (by decide))) (vC (vc_pure0 (G := fun β => [(0, (Value.slice (some ⟨g, 0, none⟩) 3 3))]) (fun β => sF (by kernel_rfl)) (fun β _ => ex_move rfl)) (vC (vc_pure0 (G := fun β => [(9, (vI 2))]) (fun β => sF (by kernel_rfl)) (fun β _ => ex_move rfl)) (vC (vc_pure0 (G := fun β => [(43, (vI 2))]) (fun β => sF (by kernel_rfl)) (fun β _ => ex_sub (c := (1 : Int)) rfl rfl (by decide))) (vC (vc_pure0 (G := fun β => [(42, (Value.slice (some ⟨g, 0, none⟩) 3 3)), (44, (vI 1))]) (fun β => sF (by kernel_rfl)) (fun β _ => ex_indexAddr_slice (j := 1) rfl rfl Tryz.underlying109 Tryz.sizeOf36 rfl (by omega) rfl)) (vC (vc_look0 (G := fun β => [(45, (pP g 5))]) (fun β => sF (by kernel_rfl)) (fun β => ex_load_agg (i := 0) (vs := fracL y) rfl rfl Tryz.isAgg36 Tryz.sizeOf36 rfl rfl)) (vC (vc_pure0 (G := fun β => [(0, (Value.slice (some ⟨g, 0, none⟩) 3 3))]) (fun β => sF (by kernel_rfl)) (fun β _ => ex_move rfl)) (vC (vc_pure0 (G := fun β => [(9, (vI 2))]) (fun β => sF (by kernel_rfl)) (fun β _ => ex_move rfl)) (vC (vc_pure0 (G := fun β => [(47, (Value.slice (some ⟨g, 0, none⟩) 3 3)), (48, (vI 2))]) (fun β => sF (by kernel_rfl)) (fun β _ => ex_indexAddr_slice (j := 2) rfl rfl Tryz.underlying109 Tryz.sizeOf36 rfl (by omega) rfl)) (vC (vc_look0 (G := fun β => [(49, (pP g 10))]) (fun β => sF (by kernel_rfl)) (fun β => ex_load_agg (i := 0) (vs := fracL z) rfl rfl Tryz.isAgg36 Tryz.sizeOf36 rfl rfl)) (vC (vc_pure0 (G := fun β => [(37, (Value.slice (some ⟨g, 0, none⟩) 3 3)), (38, (vI 2))]) (fun β => sF (by kernel_rfl)) (fun β _ => ex_indexAddr_slice (j := 2) rfl rfl Tryz.underlying109 Tryz.sizeOf36 rfl (by omega) rfl)) (VcAll.nil)))))))))))))))) (fun β => ?_)
      refine OkLH.sub (F' := [(0, (Value.slice (some ⟨g, 0, none⟩) 3 3)), (1, (vI 0)), (2, (vI 3)), (3, (Value.func (.func 43) #[] #[])), (8, (vI 2)), (12, (vI 2)), (13, (vI 3)), (14, (Value.bool true)), (17, (vI 2)), (9, (vI 2)), (15, (vI 1)), (16, (vI 2)), (18, (vI 2)), (19, (vI 0)), (20, (Value.bool true)), (21, (Value.bool true)), (22, (Value.func (.func 43) #[] #[])), (23, (Value.slice (some ⟨g, 0, none⟩) 3 3)), (24, (vI 2)), (25, (pP g 10)), (26, (aG (fracL z))), (27, (Value.slice (some ⟨g, 0, none⟩) 3 3)), (28, (vI 2)), (29, (vI 1)), (30, (pP g 5)), (31, (aG (fracL y))), (32, (vI (cmpQ z y))), (33, (Value.bool (decide ((cmpQ z y) < (0 : Int))))), (34, (Value.bool (decide ((cmpQ z y) < (0 : Int))))), (37, (Value.slice (some ⟨g, 0, none⟩) 3 3)), (38, (vI 2)), (39, (Value.slice (some ⟨g, 0, none⟩) 3 3)), (40, (vI 2)), (41, (vI 1)), (42, (Value.slice (some ⟨g, 0, none⟩) 3 3)), (43, (vI 2)), (44, (vI 1)), (45, (pP g 5)), (46, (aG (fracL y))), (47, (Value.slice (some ⟨g, 0, none⟩) 3 3)), (48, (vI 2)), (49, (pP g 10)), (50, (aG (fracL z))), (51, (pP g 10))]) (L' := [blk g 56 (fracL x ++ fracL y ++ fracL z)]) (sF rfl) (List.Sublist.refl _) ?_
      refine OkLH.store' (i := 0) (off := 10) (vs := fracL y) (cs' := fracL x ++ fracL y ++ fracL y) (L' := [blk g 56 (fracL x ++ fracL y ++ fracL y)]) (List.Sublist.cons _ (List.Sublist.refl _)) (wt_none rfl) rfl rfl rfl rfl rfl Tryz.sizeOf36 rfl rfl rfl rfl ?_
      refine OkLH.step (v := (pP g 5)) (List.Sublist.cons _ (List.Sublist.refl _)) (wt_none rfl) (ex_indexAddr_slice (j := 1) rfl rfl Tryz.underlying109 Tryz.sizeOf36 rfl (by omega) rfl) rfl (leB rfl) ?_
      refine OkLH.store' (i := 0) (off := 5) (vs := fracL z) (cs' := fracL x ++ fracL z ++ fracL y) (L' := [blk g 56 (fracL x ++ fracL z ++ fracL y)]) (List.Sublist.cons _ (List.Sublist.refl _)) (wt_none rfl) rfl rfl rfl rfl rfl Tryz.sizeOf36 rfl rfl rfl rfl ?_
      refine OkLH.nil ?_
      refine OkQ.in_normal ?_
      refine OkQ.then_ ?_
      refine OkC.region ?_
      refine st (ex_move rfl) (leB rfl) ?_
      refine st (ex_sub (c := (1 : Int)) rfl rfl (by decide)) (leB rfl) ?_
      refine st (ex_assign rfl) (leB rfl) ?_
      refine OkL.nil ?_
      refine OkQ.again ?_
      refine OkR.step ?_
      refine OkC.seq ?_
      refine OkC.seq ?_
      refine OkC.subF (sC 0 rfl (sC 1 rfl (sC 2 rfl (sC 3 rfl (sC 8 rfl (sC 12 rfl (sC 13 rfl (sC 14 rfl (sC 17 rfl (sC 9 rfl (sC 15 rfl (sC 16 rfl (sC 37 rfl (sC 38 rfl (sC 39 rfl (sC 40 rfl (sC 41 rfl (sC 42 rfl (sC 43 rfl (sC 44 rfl (sC 45 rfl (sC 46 rfl (sC 47 rfl (sC 48 rfl (sC 49 rfl (sC 50 rfl (sC 51 rfl (sC 52 rfl (sC 35 rfl (sC 36 rfl (sN))))))))))))))))))))))))))))))) ?_
      refine dR (specs := [⟨.pure, fun _ => (vI 1), [], 0, []⟩, ⟨.pure, fun _ => (vI 0), [], 0, []⟩, ⟨.pure, fun _ => (Value.bool true), [], 0, []⟩, ⟨.pure, fun _ => (Value.bool true), [], 0, []⟩, ⟨.pure, fun _ => (Value.func (.func 43) #[] #[]), [], 0, []⟩, ⟨.pure, fun _ => (Value.slice (some ⟨g, 0, none⟩) 3 3), [], 0, []⟩, ⟨.pure, fun _ => (vI 1), [], 0, []⟩, ⟨.pure, fun _ => (pP g 5), [], 0, []⟩, ⟨.held, fun _ => (aG (fracL z)), [], 0, []⟩, ⟨.pure, fun _ => (Value.slice (some ⟨g, 0, none⟩) 3 3), [], 0, []⟩, ⟨.pure, fun _ => (vI 1), [], 0, []⟩, ⟨.pure, fun _ => (vI 0), [], 0, []⟩, ⟨.pure, fun _ => (pP g 0), [], 0, []⟩, ⟨.held, fun _ => (aG (fracL x)), [], 0, []⟩, ⟨.call, fun _ => (vI (cmpQ z x)), [], 0, []⟩, ⟨.pure, fun _ => (Value.bool (decide ((cmpQ z x) < (0 : Int)))), [], 0, []⟩, ⟨.pure, fun _ => (Value.bool (decide ((cmpQ z x) < (0 : Int)))), [], 0, []⟩]) (Lro := [blk g 56 (fracL x ++ fracL z ++ fracL y)]) (List.Sublist.refl _) (dC (dC (dC (dC (dC (dC (dC (dC (dC (dC (dC (dC (dC (dC (dC (dC (dC (dN)))))))))))))))))) (by kernel_rfl) (by kernel_rfl) (fun _ _ d _ _ h => by cases d <;> exact h) (vC (vc_pure0 (G := fun β => [(9, (vI 1))]) (fun β => sF (by kernel_rfl)) (fun β _ => ex_move rfl)) (vC (vc_pure0 (G := fun β => [(1, (vI 0))]) (fun β => sF (by kernel_rfl)) (fun β _ => ex_move rfl)) (vC (vc_pure0 (G := fun β => [(18, (vI 1)), (19, (vI 0))]) (fun β => sF (by kernel_rfl)) (fun β _ => ex_gtr (c := true) rfl rfl (by decide))) (vC (vc_pure0 (G := fun β => [(20, (Value.bool true))]) (fun β => sF (by kernel_rfl)) (fun β _ => ex_move rfl)) (vC (vc_pure (G := fun β => [(3, (Value.func (.func 43) #[] #[])), (21, (Value.bool true))]) (fun β => sF (by kernel_rfl)) (fun β => wt_some rfl rfl rfl) (fun β _ => ex_move rfl)) (vC (vc_pure (G := fun β => [(0, (Value.slice (some ⟨g, 0, none⟩) 3 3)), (21, (Value.bool true))]) (fun β => sF (by kernel_rfl)) (fun β => wt_some rfl rfl rfl) (fun β _ => ex_move rfl)) (vC (vc_pure (G := fun β => [(9, (vI 1)), (21, (Value.bool true))]) (fun β => sF (by kernel_rfl)) (fun β => wt_some rfl rfl rfl) (fun β _ => ex_move rfl)) (vC (vc_pure (G := fun β => [(21, (Value.bool true)), (23, (Value.slice (some ⟨g, 0, none⟩) 3 3)), (24, (vI 1))]) (fun β => sF (by kernel_rfl)) (fun β => wt_some rfl rfl rfl) (fun β _ => ex_indexAddr_slice (j := 1) rfl rfl Tryz.underlying109 Tryz.sizeOf36 rfl (by omega) rfl)) (vC (vc_held (G := fun β => [(21, (Value.bool true)), (25, (pP g 5))]) (fun β => sF (by kernel_rfl)) (fun β => wt_some rfl rfl rfl) (fun β => ex_load_agg (i := 0) (vs := fracL z) rfl rfl Tryz.isAgg36 Tryz.sizeOf36 rfl rfl)) (vC (vc_pure (G := fun β => [(0, (Value.slice (some ⟨g, 0, none⟩) 3 3)), (21, (Value.bool true))]) (fun β => sF (by kernel_rfl)) (fun β => wt_some rfl rfl rfl) (fun β _ => ex_move rfl)) (vC (vc_pure (G := fun β => [(9, (vI 1)), (21, (Value.bool true))]) (fun β => sF (by kernel_rfl)) (fun β => wt_some rfl rfl rfl) (fun β _ => ex_move rfl)) (vC (vc_pure (G := fun β => [(21, (Value.bool true)), (28, (vI 1))]) (fun β => sF (by kernel_rfl)) (fun β => wt_some rfl rfl rfl) (fun β _ => ex_sub (c := (0 : Int)) rfl rfl (by decide))) (vC (vc_pure (G := fun β => [(21, (Value.bool true)), (27, (Value.slice (some ⟨g, 0, none⟩) 3 3)), (29, (vI 0))]) (fun β => sF (by kernel_rfl)) (fun β => wt_some rfl rfl rfl) (fun β _ => ex_indexAddr_slice (j := 0) rfl rfl Tryz.underlying109 Tryz.sizeOf36 rfl (by omega) rfl)) (vC (vc_held (G := fun β => [(21, (Value.bool true)), (30, (pP g 0))]) (fun β => sF (by kernel_rfl)) (fun β => wt_some rfl rfl rfl) (fun β => ex_load_agg (i := 0) (vs := fracL x) rfl rfl Tryz.isAgg36 Tryz.sizeOf36 rfl rfl)) (vC (vc_call (G := fun β => [(21, (Value.bool true)), (22, (Value.func (.func 43) #[] #[])), (26, (aG (fracL z))), (31, (aG (fracL x)))]) (fun β => sF (by kernel_rfl)) (fun β => wt_some rfl rfl rfl) (fun β => op_call0 (args := [(aG (fracL z)), (aG (fracL x))]) rfl rfl Tryz.call43) (fun β w hw => fCmp_ok z x (by omega) w)) (vC (vc_pure (G := fun β => [(21, (Value.bool true)), (32, (vI (cmpQ z x)))]) (fun β => sF (by kernel_rfl)) (fun β => wt_some rfl rfl rfl) (fun β _ => ex_lss (c := (decide ((cmpQ z x) < (0 : Int)))) rfl rfl rfl)) (vC (vc_pure0 (G := fun β => [(21, (Value.bool true)), (33, (Value.bool (decide ((cmpQ z x) < (0 : Int)))))]) (fun β => sF (by kernel_rfl)) (fun β _ => ex_pick_true rfl rfl)) (VcAll.nil)))))))))))))))))) (fun β => ?_)
      refine OkLH.sub (F' := [(0, (Value.slice (some ⟨g, 0, none⟩) 3 3)), (1, (vI 0)), (2, (vI 3)), (3, (Value.func (.func 43) #[] #[])), (8, (vI 2)), (12, (vI 2)), (13, (vI 3)), (14, (Value.bool true)), (17, (vI 2)), (9, (vI 1)), (15, (vI 1)), (16, (vI 2)), (37, (Value.slice (some ⟨g, 0, none⟩) 3 3)), (38, (vI 2)), (39, (Value.slice (some ⟨g, 0, none⟩) 3 3)), (40, (vI 2)), (41, (vI 1)), (42, (Value.slice (some ⟨g, 0, none⟩) 3 3)), (43, (vI 2)), (44, (vI 1)), (45, (pP g 5)), (46, (aG (fracL y))), (47, (Value.slice (some ⟨g, 0, none⟩) 3 3)), (48, (vI 2)), (49, (pP g 10)), (50, (aG (fracL z))), (51, (pP g 10)), (52, (pP g 5)), (35, (vI 2)), (36, (vI 1)), (18, (vI 1)), (19, (vI 0)), (20, (Value.bool true)), (21, (Value.bool true)), (22, (Value.func (.func 43) #[] #[])), (23, (Value.slice (some ⟨g, 0, none⟩) 3 3)), (24, (vI 1)), (25, (pP g 5)), (26, (aG (fracL z))), (27, (Value.slice (some ⟨g, 0, none⟩) 3 3)), (28, (vI 1)), (29, (vI 0)), (30, (pP g 0)), (31, (aG (fracL x))), (32, (vI (cmpQ z x))), (33, (Value.bool (decide ((cmpQ z x) < (0 : Int))))), (34, (Value.bool (decide ((cmpQ z x) < (0 : Int)))))]) (L' := [blk g 56 (fracL x ++ fracL z ++ fracL y)]) (sF rfl) (List.Sublist.refl _) ?_
      refine OkLH.nil ?_
      refine OkQ.then_ ?_
      refine OkC.cond rfl (fun hc1 => ?_) (fun hc1 => ?_)
      · replace hc1 := of_decide_eq_true hc1
        have c21 := hc1
        rw [cmpQ_lt] at c21
        refine OkC.skip ?_
        refine q1 ?_
        refine OkC.block ?_
        refine OkC.subF (sC 0 rfl (sC 1 rfl (sC 2 rfl (sC 3 rfl (sC 8 rfl (sC 12 rfl (sC 13 rfl (sC 14 rfl (sC 17 rfl (sC 9 rfl (sC 15 rfl (sC 16 rfl (sC 52 rfl (sC 35 rfl (sC 36 rfl (sC 18 rfl (sC 19 rfl (sC 20 rfl (sC 21 rfl (sC 22 rfl (sC 23 rfl (sC 24 rfl (sC 25 rfl (sC 26 rfl (sC 27 rfl (sC 28 rfl (sC 29 rfl (sC 30 rfl (sC 31 rfl (sC 32 rfl (sC 33 rfl (sC 34 rfl (sN))))))))))))))))))))))))))))))))) ?_
        refine dR (specs := [⟨.pure, fun _ => (Value.slice (some ⟨g, 0, none⟩) 3 3), [], 0, []⟩, ⟨.pure, fun _ => (vI 1), [], 0, []⟩, ⟨.pure, fun _ => (Value.slice (some ⟨g, 0, none⟩) 3 3), [], 0, []⟩, ⟨.pure, fun _ => (vI 1), [], 0, []⟩, ⟨.pure, fun _ => (vI 0), [], 0, []⟩, ⟨.pure, fun _ => (Value.slice (some ⟨g, 0, none⟩) 3 3), [], 0, []⟩, ⟨.pure, fun _ => (vI 1), [], 0, []⟩, ⟨.pure, fun _ => (vI 0), [], 0, []⟩, ⟨.pure, fun _ => (pP g 0), [], 0, []⟩, ⟨.look, fun _ => (aG (fracL x)), [], 0, []⟩, ⟨.pure, fun _ => (Value.slice (some ⟨g, 0, none⟩) 3 3), [], 0, []⟩, ⟨.pure, fun _ => (vI 1), [], 0, []⟩, ⟨.pure, fun _ => (pP g 5), [], 0, []⟩, ⟨.look, fun _ => (aG (fracL z)), [], 0, []⟩, ⟨.pure, fun _ => (pP g 5), [], 0, []⟩]) (Lro := []) (List.Sublist.cons _ (List.Sublist.refl _)) (dC (dC (dC (dC (dC (dC (dC (dC (dC (dC (dC (dC (dC (dC (dC (dN)))))))))))))))) (by kernel_rfl) (by kernel_rfl) (fun _ _ d _ _ h => by cases d <;> exact h) (vC (vc_pure0 (G := fun β => [(0, (Value.slice (some ⟨g, 0, none⟩) 3 3))]) (fun β => sF (by kernel_rfl)) (fun β _ => ex_move rfl)) (vC (vc_pure0 (G := fun β => [(9, (vI 1))]) (fun β => sF (by kernel_rfl)) (fun β _ => ex_move rfl)) (vC (vc_pure0 (G := fun β => [(0, (Value.slice (some ⟨g, 0, none⟩) 3 3))]) (fun β => sF (by kernel_rfl)) (fun β _ => ex_move rfl)) (vC (vc_pure0 (G := fun β => [(9, (vI 1))]) (fun β => sF (by kernel_rfl)) (fun β _ => ex_move rfl)) (vC (vc_pure0 (G := fun β => [(40, (vI 1))]) (fun β => sF (by kernel_rfl)) (fun β _ => ex_sub (c := (0 : Int)) rfl rfl (by decide))) (vC (vc_pure0 (G := fun β => [(0, (Value.slice (some ⟨g, 0, none⟩) 3 3))]) (fun β => sF (by kernel_rfl)) (fun β _ => ex_move rfl)) (vC (vc_pure0 (G := fun β => [(9, (vI 1))]) (fun β => sF (by kernel_rfl)) (fun β _ => ex_move rfl)) (vC (vc_pure0 (G := fun β => [(43, (vI 1))]) (fun β => sF (by kernel_rfl)) (fun β _ => ex_sub (c := (0 : Int)) rfl rfl (by decide))) (vC (vc_pure0 (G := fun β => [(42, (Value.slice (some ⟨g, 0, none⟩) 3 3)), (44, (vI 0))]) (fun β => sF (by kernel_rfl)) (fun β _ => ex_indexAddr_slice (j := 0) rfl rfl Tryz.underlying109 Tryz.sizeOf36 rfl (by omega) rfl)) (vC (vc_look0 (G := fun β => [(45, (pP g 0))]) (fun β => sF (by kernel_rfl)) (fun β => ex_load_agg (i := 0) (vs := fracL x) rfl rfl Tryz.isAgg36 Tryz.sizeOf36 rfl rfl)) (vC (vc_pure0 (G := fun β => [(0, (Value.slice (some ⟨g, 0, none⟩) 3 3))]) (fun β => sF (by kernel_rfl)) (fun β _ => ex_move rfl)) (vC (vc_pure0 (G := fun β => [(9, (vI 1))]) (fun β => sF (by kernel_rfl)) (fun β _ => ex_move rfl)) (vC (vc_pure0 (G := fun β => [(47, (Value.slice (some ⟨g, 0, none⟩) 3 3)), (48, (vI 1))]) (fun β => sF (by kernel_rfl)) (fun β _ => ex_indexAddr_slice (j := 1) rfl rfl Tryz.underlying109 Tryz.sizeOf36 rfl (by omega) rfl)) (vC (vc_look0 (G := fun β => [(49, (pP g 5))]) (fun β => sF (by kernel_rfl)) (fun β => ex_load_agg (i := 0) (vs := fracL z) rfl rfl Tryz.isAgg36 Tryz.sizeOf36 rfl rfl)) (vC (vc_pure0 (G := fun β => [(37, (Value.slice (some ⟨g, 0, none⟩) 3 3)), (38, (vI 1))]) (fun β => sF (by kernel_rfl)) (fun β _ => ex_indexAddr_slice (j := 1) rfl rfl Tryz.underlying109 Tryz.sizeOf36 rfl (by omega) rfl)) (VcAll.nil)))))))))))))))) (fun β => ?_)
        refine OkLH.sub (F' := [(0, (Value.slice (some ⟨g, 0, none⟩) 3 3)), (1, (vI 0)), (2, (vI 3)), (3, (Value.func (.func 43) #[] #[])), (8, (vI 2)), (12, (vI 2)), (13, (vI 3)), (14, (Value.bool true)), (17, (vI 2)), (9, (vI 1)), (15, (vI 1)), (16, (vI 2)), (52, (pP g 5)), (35, (vI 2)), (36, (vI 1)), (18, (vI 1)), (19, (vI 0)), (20, (Value.bool true)), (21, (Value.bool true)), (22, (Value.func (.func 43) #[] #[])), (23, (Value.slice (some ⟨g, 0, none⟩) 3 3)), (24, (vI 1)), (25, (pP g 5)), (26, (aG (fracL z))), (27, (Value.slice (some ⟨g, 0, none⟩) 3 3)), (28, (vI 1)), (29, (vI 0)), (30, (pP g 0)), (31, (aG (fracL x))), (32, (vI (cmpQ z x))), (33, (Value.bool (decide ((cmpQ z x) < (0 : Int))))), (34, (Value.bool (decide ((cmpQ z x) < (0 : Int))))), (37, (Value.slice (some ⟨g, 0, none⟩) 3 3)), (38, (vI 1)), (39, (Value.slice (some ⟨g, 0, none⟩) 3 3)), (40, (vI 1)), (41, (vI 0)), (42, (Value.slice (some ⟨g, 0, none⟩) 3 3)), (43, (vI 1)), (44, (vI 0)), (45, (pP g 0)), (46, (aG (fracL x))), (47, (Value.slice (some ⟨g, 0, none⟩) 3 3)), (48, (vI 1)), (49, (pP g 5)), (50, (aG (fracL z))), (51, (pP g 5))]) (L' := [blk g 56 (fracL x ++ fracL z ++ fracL y)]) (sF rfl) (List.Sublist.refl _) ?_
        refine OkLH.store' (i := 0) (off := 5) (vs := fracL x) (cs' := fracL x ++ fracL x ++ fracL y) (L' := [blk g 56 (fracL x ++ fracL x ++ fracL y)]) (List.Sublist.cons _ (List.Sublist.refl _)) (wt_none rfl) rfl rfl rfl rfl rfl Tryz.sizeOf36 rfl rfl rfl rfl ?_
        refine OkLH.step (v := (pP g 0)) (List.Sublist.cons _ (List.Sublist.refl _)) (wt_none rfl) (ex_indexAddr_slice (j := 0) rfl rfl Tryz.underlying109 Tryz.sizeOf36 rfl (by omega) rfl) rfl (leB rfl) ?_
        refine OkLH.store' (i := 0) (off := 0) (vs := fracL z) (cs' := fracL z ++ fracL x ++ fracL y) (L' := [blk g 56 (fracL z ++ fracL x ++ fracL y)]) (List.Sublist.cons _ (List.Sublist.refl _)) (wt_none rfl) rfl rfl rfl rfl rfl Tryz.sizeOf36 rfl rfl rfl rfl ?_
        refine OkLH.nil ?_
        refine OkQ.in_normal ?_
        refine OkQ.then_ ?_
        refine OkC.region ?_
        refine st (ex_move rfl) (leB rfl) ?_
        refine st (ex_sub (c := (0 : Int)) rfl rfl (by decide)) (leB rfl) ?_
        refine st (ex_assign rfl) (leB rfl) ?_
        refine OkL.nil ?_
        refine OkQ.again ?_
        refine OkR.step ?_
        refine OkC.seq ?_
        refine OkC.seq ?_
        refine OkC.subF (sC 0 rfl (sC 1 rfl (sC 2 rfl (sC 3 rfl (sC 8 rfl (sC 12 rfl (sC 13 rfl (sC 14 rfl (sC 17 rfl (sC 9 rfl (sC 15 rfl (sC 16 rfl (sC 52 rfl (sC 35 rfl (sC 36 rfl (sC 37 rfl (sC 38 rfl (sC 39 rfl (sC 40 rfl (sC 41 rfl (sC 42 rfl (sC 43 rfl (sC 44 rfl (sC 45 rfl (sC 46 rfl (sC 47 rfl (sC 48 rfl (sC 49 rfl (sC 50 rfl (sC 51 rfl (sN))))))))))))))))))))))))))))))) ?_
        refine dR (specs := [⟨.pure, fun _ => (vI 0), [], 0, []⟩, ⟨.pure, fun _ => (vI 0), [], 0, []⟩, ⟨.pure, fun _ => (Value.bool false), [], 0, []⟩, ⟨.pure, fun _ => (Value.bool false), [], 0, []⟩, ⟨.pure, fun _ => undef, [], 0, []⟩, ⟨.pure, fun _ => undef, [], 0, []⟩, ⟨.pure, fun _ => undef, [], 0, []⟩, ⟨.pure, fun _ => undef, [], 0, []⟩, ⟨.pure, fun _ => undef, [], 0, []⟩, ⟨.pure, fun _ => undef, [], 0, []⟩, ⟨.pure, fun _ => undef, [], 0, []⟩, ⟨.pure, fun _ => undef, [], 0, []⟩, ⟨.pure, fun _ => undef, [], 0, []⟩, ⟨.pure, fun _ => undef, [], 0, []⟩, ⟨.pure, fun _ => undef, [], 0, []⟩, ⟨.pure, fun _ => undef, [], 0, []⟩, ⟨.pure, fun _ => (Value.bool false), [], 0, []⟩]) (Lro := [blk g 56 (fracL z ++ fracL x ++ fracL y)]) (List.Sublist.refl _) (dC (dC (dC (dC (dC (dC (dC (dC (dC (dC (dC (dC (dC (dC (dC (dC (dC (dN)))))))))))))))))) (by kernel_rfl) (by kernel_rfl) (fun _ _ d _ _ h => by cases d <;> exact h) (vC (vc_pure0 (G := fun β => [(9, (vI 0))]) (fun β => sF (by kernel_rfl)) (fun β _ => ex_move rfl)) (vC (vc_pure0 (G := fun β => [(1, (vI 0))]) (fun β => sF (by kernel_rfl)) (fun β _ => ex_move rfl)) (vC (vc_pure0 (G := fun β => [(18, (vI 0)), (19, (vI 0))]) (fun β => sF (by kernel_rfl)) (fun β _ => ex_gtr (c := false) rfl rfl (by decide))) (vC (vc_pure0 (G := fun β => [(20, (Value.bool false))]) (fun β => sF (by kernel_rfl)) (fun β _ => ex_move rfl)) (vC (vc_skip (G := fun _ => [(21, (Value.bool false))]) (fun _ => (sF (by kernel_rfl))) (fun _ => wt_not rfl rfl rfl)) (vC (vc_skip (G := fun _ => [(21, (Value.bool false))]) (fun _ => (sF (by kernel_rfl))) (fun _ => wt_not rfl rfl rfl)) (vC (vc_skip (G := fun _ => [(21, (Value.bool false))]) (fun _ => (sF (by kernel_rfl))) (fun _ => wt_not rfl rfl rfl)) (vC (vc_skip (G := fun _ => [(21, (Value.bool false))]) (fun _ => (sF (by kernel_rfl))) (fun _ => wt_not rfl rfl rfl)) (vC (vc_skip (G := fun _ => [(21, (Value.bool false))]) (fun _ => (sF (by kernel_rfl))) (fun _ => wt_not rfl rfl rfl)) (vC (vc_skip (G := fun _ => [(21, (Value.bool false))]) (fun _ => (sF (by kernel_rfl))) (fun _ => wt_not rfl rfl rfl)) (vC (vc_skip (G := fun _ => [(21, (Value.bool false))]) (fun _ => (sF (by kernel_rfl))) (fun _ => wt_not rfl rfl rfl)) (vC (vc_skip (G := fun _ => [(21, (Value.bool false))]) (fun _ => (sF (by kernel_rfl))) (fun _ => wt_not rfl rfl rfl)) (vC (vc_skip (G := fun _ => [(21, (Value.bool false))]) (fun _ => (sF (by kernel_rfl))) (fun _ => wt_not rfl rfl rfl)) (vC (vc_skip (G := fun _ => [(21, (Value.bool false))]) (fun _ => (sF (by kernel_rfl))) (fun _ => wt_not rfl rfl rfl)) (vC (vc_skip (G := fun _ => [(21, (Value.bool false))]) (fun _ => (sF (by kernel_rfl))) (fun _ => wt_not rfl rfl rfl)) (vC (vc_skip (G := fun _ => [(21, (Value.bool false))]) (fun _ => (sF (by kernel_rfl))) (fun _ => wt_not rfl rfl rfl)) (vC (vc_pure0 (G := fun β => [(21, (Value.bool false))]) (fun β => sF (by kernel_rfl)) (fun β _ => ex_pick_false rfl rfl)) (VcAll.nil)))))))))))))))))) (fun β => ?_)
        refine OkLH.sub (F' := [(0, (Value.slice (some ⟨g, 0, none⟩) 3 3)), (1, (vI 0)), (2, (vI 3)), (3, (Value.func (.func 43) #[] #[])), (8, (vI 2)), (12, (vI 2)), (13, (vI 3)), (14, (Value.bool true)), (17, (vI 2)), (9, (vI 0)), (15, (vI 1)), (16, (vI 2)), (52, (pP g 0)), (35, (vI 1)), (36, (vI 0)), (37, (Value.slice (some ⟨g, 0, none⟩) 3 3)), (38, (vI 1)), (39, (Value.slice (some ⟨g, 0, none⟩) 3 3)), (40, (vI 1)), (41, (vI 0)), (42, (Value.slice (some ⟨g, 0, none⟩) 3 3)), (43, (vI 1)), (44, (vI 0)), (45, (pP g 0)), (46, (aG (fracL x))), (47, (Value.slice (some ⟨g, 0, none⟩) 3 3)), (48, (vI 1)), (49, (pP g 5)), (50, (aG (fracL z))), (51, (pP g 5)), (18, (vI 0)), (19, (vI 0)), (20, (Value.bool false)), (21, (Value.bool false)), (34, (Value.bool false))]) (L' := [blk g 56 (fracL z ++ fracL x ++ fracL y)]) (sF rfl) (List.Sublist.refl _) ?_
        refine OkLH.nil ?_
        refine OkQ.then_ ?_
        refine OkC.cond_false rfl ?_
        refine OkC.exit ?_
        refine OkQ.then_exit ?_
        refine OkQ.then_exit ?_
        refine OkQ.in_exit ?_
        refine OkQ.in_normal ?_
        refine OkQ.then_ ?_
        refine OkC.region ?_
        refine st (ex_move rfl) (leB rfl) ?_
        refine st (ex_add (c := (3 : Int)) rfl rfl (by decide)) (leB rfl) ?_
        refine st (ex_assign rfl) (leB rfl) ?_
        refine OkL.nil ?_
        refine OkQ.again ?_
        refine OkR.step ?_
        refine OkC.seq ?_
        refine q4 ?_
        refine st (ex_move rfl) (leB rfl) ?_
        refine st (ex_move rfl) (leB rfl) ?_
        refine st (ex_lss (c := false) rfl rfl (by decide)) (leB rfl) ?_
        refine OkL.nil ?_
        refine OkQ.then_ ?_
        refine OkC.cond_false rfl ?_
        refine OkC.exit ?_
        refine OkQ.then_exit ?_
        refine OkQ.then_exit ?_
        refine OkQ.in_exit ?_
        exact ret_none (.inr rfl) rfl  (fun w hw => ⟨rfl, hw.1, by rw [show sort3L x y z = fracL z ++ fracL x ++ fracL y from by unfold sort3L; simp only [*, if_true, if_false]]; exact hw.get (i := 0) rfl⟩)
      · replace hc1 := of_decide_eq_false hc1
        have c21 := hc1
        rw [cmpQ_lt] at c21
        refine OkC.exit ?_
        refine OkQ.then_exit ?_
        refine OkQ.then_exit ?_
        refine OkQ.in_exit ?_
        refine OkQ.in_normal ?_
        refine OkQ.then_ ?_
        refine OkC.region ?_
        refine st (ex_move rfl) (leB rfl) ?_
        refine st (ex_add (c := (3 : Int)) rfl rfl (by decide)) (leB rfl) ?_
        refine st (ex_assign rfl) (leB rfl) ?_
        refine OkL.nil ?_
        refine OkQ.again ?_
        refine OkR.step ?_
        refine OkC.seq ?_
        refine q4 ?_
        refine st (ex_move rfl) (leB rfl) ?_
        refine st (ex_move rfl) (leB rfl) ?_
        refine st (ex_lss (c := false) rfl rfl (by decide)) (leB rfl) ?_
        refine OkL.nil ?_
        refine OkQ.then_ ?_
        refine OkC.cond_false rfl ?_
        refine OkC.exit ?_
        refine OkQ.then_exit ?_
        refine OkQ.then_exit ?_
        refine OkQ.in_exit ?_
        exact ret_none (.inr rfl) rfl  (fun w hw => ⟨rfl, hw.1, by rw [show sort3L x y z = fracL x ++ fracL z ++ fracL y from by unfold sort3L; simp only [*, if_true, if_false]]; exact hw.get (i := 0) rfl⟩)
    · replace hc1 := of_decide_eq_false hc1
      have c22 := hc1
      rw [cmpQ_lt] at c22
      refine OkC.exit ?_
      refine OkQ.then_exit ?_
      refine OkQ.then_exit ?_
      refine OkQ.in_exit ?_
      refine OkQ.in_normal ?_
      refine OkQ.then_ ?_
      refine OkC.region ?_
      refine st (ex_move rfl) (leB rfl) ?_
      refine st (ex_add (c := (3 : Int)) rfl rfl (by decide)) (leB rfl) ?_
      refine st (ex_assign rfl) (leB rfl) ?_
      refine OkL.nil ?_
      refine OkQ.again ?_
      refine OkR.step ?_
      refine OkC.seq ?_
      refine q4 ?_
      refine st (ex_move rfl) (leB rfl) ?_
      refine st (ex_move rfl) (leB rfl) ?_
      refine st (ex_lss (c := false) rfl rfl (by decide)) (leB rfl) ?_
      refine OkL.nil ?_
      refine OkQ.then_ ?_
      refine OkC.cond_false rfl ?_
      refine OkC.exit ?_
      refine OkQ.then_exit ?_
      refine OkQ.then_exit ?_
      refine OkQ.in_exit ?_
      exact ret_none (.inr rfl) rfl  (fun w hw => ⟨rfl, hw.1, by rw [show sort3L x y z = fracL x ++ fracL y ++ fracL z from by unfold sort3L; simp only [*, if_true, if_false]]; exact hw.get (i := 0) rfl⟩)


end Go.Proofs.YtpkoldfmbebmgaaGreatDoor
