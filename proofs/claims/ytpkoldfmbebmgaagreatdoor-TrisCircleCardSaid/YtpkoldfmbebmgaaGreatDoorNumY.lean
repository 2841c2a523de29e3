/- Walks, printed by gen.py. -/
import Derived.Test.YtpkoldfmbebmgaaGreatDoorNumX
namespace Go.Proofs.YtpkoldfmbebmgaaGreatDoor
open Go Go.RowKit
set_option maxRecDepth 100000
set_option linter.unusedVariables false
set_option linter.unusedSimpArgs false

/-- The least, the middle and the greatest of three. -/
def sort3 (x y z : Rat) : Rat × Rat × Rat :=
  if y < x then (if z < x then (if z < y then (z, y, x) else (y, z, x)) else (y, x, z))
  else (if z < y then (if z < x then (z, x, y) else (x, z, y)) else (x, y, z))
theorem sort3L_eq (x y z : Rat) : sort3L x y z = fracL (sort3 x y z).1 ++ fracL (sort3 x y z).2.1 ++ fracL (sort3 x y z).2.2 := by
  unfold sort3L sort3
  split <;> split <;> first | rfl | (split <;> rfl)
theorem sort3_Sz (x y z : Rat) (k : Nat) (h : Sz x ≤ k ∧ Sz y ≤ k ∧ Sz z ≤ k) : Sz (sort3 x y z).1 ≤ k ∧ Sz (sort3 x y z).2.1 ≤ k ∧ Sz (sort3 x y z).2.2 ≤ k := by
  obtain ⟨h1, h2, h3⟩ := h
  unfold sort3
  split <;> split <;> first | exact ⟨by assumption, by assumption, by assumption⟩ | (split <;> exact ⟨by assumption, by assumption, by assumption⟩)
theorem fill_numy_56_0fracL_1fracL_2fracL (x0 : Rat) (x1 : Rat) (x2 : Rat) : Instr.fill (fun i => some (i * 5, 5)) (fracL (0 : Rat) ++ fracL (0 : Rat) ++ fracL (0 : Rat)).toArray [(0, .agg (fracL x0).toArray), (1, .agg (fracL x1).toArray), (2, .agg (fracL x2).toArray)] = some (fracL x0 ++ fracL x1 ++ fracL x2).toArray := by kernel_rfl
set_option maxHeartbeats 2000000 in
theorem Shape_ok (a b c : Pt) (hs : SzP a + SzP b + SzP c ≤ 1048576) (h0 : turnP a b c ≠ 0) (h : (sort3 (dotP (b - a) (b - a)) (dotP (c - b) (c - b)) (dotP (a - c) (a - c))).2.2 ≠ 0) (w : World)  : Calls Tryz.prog 16 #[(aG (ptL a)), (aG (ptL b)), (aG (ptL c))] w (Gives w (Value.tuple #[(aG (fracL ((sort3 (dotP (b - a) (b - a)) (dotP (c - b) (c - b)) (dotP (a - c) (a - c))).1 / (sort3 (dotP (b - a) (b - a)) (dotP (c - b) (c - b)) (dotP (a - c) (a - c))).2.2) ++ fracL ((sort3 (dotP (b - a) (b - a)) (dotP (c - b) (c - b)) (dotP (a - c) (a - c))).2.1 / (sort3 (dotP (b - a) (b - a)) (dotP (c - b) (c - b)) (dotP (a - c) (a - c))).2.2))), (vI 0)])) := by
  have hns := sign_ne h0
  obtain ⟨s, hs3⟩ : ∃ s, s = sort3 (dotP (b - a) (b - a)) (dotP (c - b) (c - b)) (dotP (a - c) (a - c)) := ⟨_, rfl⟩
  rw [← hs3] at h
  have d1 := SzP_sub b a
  have d2 := SzP_sub c b
  have d3 := SzP_sub a c
  have qs1 := Sz_dot (b - a) (b - a)
  have qs2 := Sz_dot (c - b) (c - b)
  have qs3 := Sz_dot (a - c) (a - c)
  have s3z := sort3_Sz (dotP (b - a) (b - a)) (dotP (c - b) (c - b)) (dotP (a - c) (a - c)) 16777216 ⟨by omega, by omega, by omega⟩
  rw [← hs3] at s3z
  obtain ⟨z1, z2, z3⟩ := s3z
  refine calls_of (args := [(aG (ptL a)), (aG (ptL b)), (aG (ptL c))]) Tryz.func16 rfl rfl (leB rfl) ?_
  refine OkC.subF (sC 0 rfl (sC 1 rfl (sC 2 rfl (sN)))) ?_
  refine q4 ?_
  refine OkL.open_ (T := 38) (cs := ptL a) (wt_none rfl) (op_box (cs := ptL a) rfl rfl) rfl (leB rfl) ?_; intro b1
  refine OkL.open_ (T := 38) (cs := ptL b) (wt_none rfl) (op_box (cs := ptL b) rfl rfl) rfl (leB rfl) ?_; intro b2
  refine OkL.open_ (T := 38) (cs := ptL c) (wt_none rfl) (op_box (cs := ptL c) rfl rfl) rfl (leB rfl) ?_; intro b3
  refine OkL.open_ (T := 62) (cs := fracL (0 : Rat) ++ fracL (0 : Rat)) (wt_none rfl) (op_alloc (cs := fracL (0 : Rat) ++ fracL (0 : Rat)) Tryz.zeroValue62 rfl) rfl (leB rfl) ?_; intro b4
  refine st (ex_assign rfl) (leB rfl) ?_
  refine q6 (sC 3 rfl (sC 4 rfl (sC 5 rfl (sC 6 rfl (sC 7 rfl (sN)))))) ?_
  refine q4 ?_
  refine st (ex_load_agg (i := 3) (vs := ptL a) rfl rfl Tryz.isAgg38 Tryz.sizeOf38 rfl rfl) (leB rfl) ?_
  refine st (ex_load_agg (i := 2) (vs := ptL b) rfl rfl Tryz.isAgg38 Tryz.sizeOf38 rfl rfl) (leB rfl) ?_
  refine st (ex_load_agg (i := 1) (vs := ptL c) rfl rfl Tryz.isAgg38 Tryz.sizeOf38 rfl rfl) (leB rfl) ?_
  have hz1 := Sz_turn a b c
  refine OkL.call (v := (aG (fracL (turnP a b c)))) (wt_none rfl) (op_call0 (args := [(aG (ptL a)), (aG (ptL b)), (aG (ptL c))]) rfl rfl Tryz.call53) (fun w hw => twice_ok a b c (by omega) w) rfl (leB rfl) ?_
  refine OkL.call (v := (vI ((turnP a b c).num.sign))) (wt_none rfl) (op_call0 (args := [(aG (fracL (turnP a b c)))]) rfl rfl Tryz.call20) (fun w hw => fSign_ok (turnP a b c) w) rfl (leB rfl) ?_
  refine st (ex_eql (c := (decide (((turnP a b c).num.sign) = (0 : Int)))) rfl rfl rfl) (leB rfl) ?_
  refine OkL.nil ?_
  refine OkQ.subF (sC 3 rfl (sC 4 rfl (sC 5 rfl (sC 6 rfl (sC 7 rfl (sC 16 rfl (sN))))))) ?_
  refine OkQ.then_ ?_
  refine OkC.cond rfl (fun hc0 => ?_) (fun hc0 => ?_)
  · replace hc0 := of_decide_eq_true hc0
    exact absurd hc0 hns
  · replace hc0 := of_decide_eq_false hc0
    refine OkC.skip ?_
    refine q1 ?_
    have hz2 := SzP_sub b a
    have hz3 := Sz_dot (b - a) (b - a)
    have hz4 := SzP_sub c b
    have hz5 := Sz_dot (c - b) (c - b)
    have hz6 := SzP_sub a c
    have hz7 := Sz_dot (a - c) (a - c)
    refine OkC.drawn' (specs := [⟨.held, fun _ => (aG (ptL a)), [], 0, []⟩, ⟨.held, fun _ => (aG (ptL b)), [], 0, []⟩, ⟨.call, fun _ => (aG (fracL (dotP (b - a) (b - a)))), [], 0, []⟩, ⟨.held, fun _ => (aG (ptL b)), [], 0, []⟩, ⟨.held, fun _ => (aG (ptL c)), [], 0, []⟩, ⟨.call, fun _ => (aG (fracL (dotP (c - b) (c - b)))), [], 0, []⟩, ⟨.held, fun _ => (aG (ptL c)), [], 0, []⟩, ⟨.held, fun _ => (aG (ptL a)), [], 0, []⟩, ⟨.call, fun _ => (aG (fracL (dotP (a - c) (a - c)))), [], 0, []⟩, ⟨.pure, fun _ => (aG (fracL (dotP (b - a) (b - a)) ++ fracL (dotP (c - b) (c - b)) ++ fracL (dotP (a - c) (a - c)))), [], 0, []⟩, ⟨.new, fun β => (pP (β 10) 0), [], 56, fracL (0 : Rat) ++ fracL (0 : Rat) ++ fracL (0 : Rat)⟩]) (by kernel_rfl) (fun hchk1 => ?_)
    refine dR (Lro := [blk b4 62 (fracL (0 : Rat) ++ fracL (0 : Rat)), blk b3 38 (ptL c), blk b2 38 (ptL b), blk b1 38 (ptL a)]) (List.Sublist.refl _) (dC (dC (dC (dC (dC (dC (dC (dC (dC (dC (DepAll.block (V := fun b => (Value.pointer (some ⟨b, 0, none⟩))) (dN)))))))))))) hchk1 (by kernel_rfl) (fun _ _ d _ _ h => by cases d <;> exact h) (vC (vc_held0 (G := fun β => [(3, (pP b1 0))]) (fun β => sF (by kernel_rfl)) (fun β => ex_load_agg (i := 3) (vs := ptL a) rfl rfl Tryz.isAgg38 Tryz.sizeOf38 rfl rfl)) (vC (vc_held0 (G := fun β => [(4, (pP b2 0))]) (fun β => sF (by kernel_rfl)) (fun β => ex_load_agg (i := 2) (vs := ptL b) rfl rfl Tryz.isAgg38 Tryz.sizeOf38 rfl rfl)) (vC (vc_call0 (G := fun β => [(18, (aG (ptL a))), (19, (aG (ptL b)))]) (fun β => sF (by kernel_rfl)) (fun β => op_call0 (args := [(aG (ptL a)), (aG (ptL b))]) rfl rfl Tryz.call51) (fun β w hw => pSquare_ok a b (by omega) w)) (vC (vc_held0 (G := fun β => [(4, (pP b2 0))]) (fun β => sF (by kernel_rfl)) (fun β => ex_load_agg (i := 2) (vs := ptL b) rfl rfl Tryz.isAgg38 Tryz.sizeOf38 rfl rfl)) (vC (vc_held0 (G := fun β => [(5, (pP b3 0))]) (fun β => sF (by kernel_rfl)) (fun β => ex_load_agg (i := 1) (vs := ptL c) rfl rfl Tryz.isAgg38 Tryz.sizeOf38 rfl rfl)) (vC (vc_call0 (G := fun β => [(21, (aG (ptL b))), (22, (aG (ptL c)))]) (fun β => sF (by kernel_rfl)) (fun β => op_call0 (args := [(aG (ptL b)), (aG (ptL c))]) rfl rfl Tryz.call51) (fun β w hw => pSquare_ok b c (by omega) w)) (vC (vc_held0 (G := fun β => [(5, (pP b3 0))]) (fun β => sF (by kernel_rfl)) (fun β => ex_load_agg (i := 1) (vs := ptL c) rfl rfl Tryz.isAgg38 Tryz.sizeOf38 rfl rfl)) (vC (vc_held0 (G := fun β => [(3, (pP b1 0))]) (fun β => sF (by kernel_rfl)) (fun β => ex_load_agg (i := 3) (vs := ptL a) rfl rfl Tryz.isAgg38 Tryz.sizeOf38 rfl rfl)) (vC (vc_call0 (G := fun β => [(24, (aG (ptL c))), (25, (aG (ptL a)))]) (fun β => sF (by kernel_rfl)) (fun β => op_call0 (args := [(aG (ptL c)), (aG (ptL a))]) rfl rfl Tryz.call51) (fun β w hw => pSquare_ok c a (by omega) w)) (vC (vc_pure0 (G := fun β => [(20, (aG (fracL (dotP (b - a) (b - a))))), (23, (aG (fracL (dotP (c - b) (c - b))))), (26, (aG (fracL (dotP (a - c) (a - c)))))]) (fun β => sF (by kernel_rfl)) (fun β _ => ex_build_array (zs := fracL (0 : Rat) ++ fracL (0 : Rat) ++ fracL (0 : Rat)) (vs := fracL (dotP (b - a) (b - a)) ++ fracL (dotP (c - b) (c - b)) ++ fracL (dotP (a - c) (a - c))) (pv := [(0, (aG (fracL (dotP (b - a) (b - a))))), (1, (aG (fracL (dotP (c - b) (c - b))))), (2, (aG (fracL (dotP (a - c) (a - c)))))]) Tryz.zeroValue56 Tryz.underlying56 Tryz.sizeOf36 rfl (fill_numy_56_0fracL_1fracL_2fracL (dotP (b - a) (b - a)) (dotP (c - b) (c - b)) (dotP (a - c) (a - c))))) (vC (vc_new0 (V := fun b => (Value.pointer (some ⟨b, 0, none⟩))) (j := 10) (one_place hchk1 rfl rfl rfl) (G := fun β => []) (fun β => sN) (fun β => op_alloc (cs := fracL (0 : Rat) ++ fracL (0 : Rat) ++ fracL (0 : Rat)) Tryz.zeroValue56 rfl)) (VcAll.nil)))))))))))) (fun β => ?_)
    clear hchk1
    refine OkLH.sub (F' := [(3, (pP b1 0)), (4, (pP b2 0)), (5, (pP b3 0)), (6, (pP b4 0)), (7, (vI 0)), (27, (aG (fracL (dotP (b - a) (b - a)) ++ fracL (dotP (c - b) (c - b)) ++ fracL (dotP (a - c) (a - c))))), (8, (pP (β 10) 0))]) (L' := [blk (β 10) 56 (fracL (0 : Rat) ++ fracL (0 : Rat) ++ fracL (0 : Rat)), blk b4 62 (fracL (0 : Rat) ++ fracL (0 : Rat)), blk b3 38 (ptL c), blk b2 38 (ptL b), blk b1 38 (ptL a)]) (sF rfl) (List.Sublist.refl _) ?_
    generalize β 10 = b5
    refine OkLH.store' (i := 0) (off := 0) (vs := fracL (dotP (b - a) (b - a)) ++ fracL (dotP (c - b) (c - b)) ++ fracL (dotP (a - c) (a - c))) (cs' := fracL (dotP (b - a) (b - a)) ++ fracL (dotP (c - b) (c - b)) ++ fracL (dotP (a - c) (a - c))) (L' := [blk b5 56 (fracL (dotP (b - a) (b - a)) ++ fracL (dotP (c - b) (c - b)) ++ fracL (dotP (a - c) (a - c))), blk b4 62 (fracL (0 : Rat) ++ fracL (0 : Rat)), blk b3 38 (ptL c), blk b2 38 (ptL b), blk b1 38 (ptL a)]) (List.Sublist.cons _ (List.Sublist.refl _)) (wt_none rfl) rfl rfl rfl rfl rfl Tryz.sizeOf56 rfl rfl rfl rfl ?_
    refine q5 (sC 3 rfl (sC 4 rfl (sC 5 rfl (sC 6 rfl (sC 7 rfl (sC 8 rfl (sN))))))) ?_
    refine st (v := (Value.slice (some ⟨b5, 0, none⟩) 3 3)) (ex_slice_array rfl Tryz.underlying56 Tryz.sizeOf36 (by decide)) (leB rfl) ?_
    refine OkL.callM (v := (Value.tuple #[])) (i := 0) (cs' := fracL s.1 ++ fracL s.2.1 ++ fracL s.2.2) (L' := [blk b5 56 (fracL s.1 ++ fracL s.2.1 ++ fracL s.2.2), blk b4 62 (fracL (0 : Rat) ++ fracL (0 : Rat)), blk b3 38 (ptL c), blk b2 38 (ptL b), blk b1 38 (ptL a)]) (wt_none rfl) (op_call0 (args := [(Value.slice (some ⟨b5, 0, none⟩) 3 3), (Value.func (.func 43) #[] #[])]) rfl rfl Tryz.call60) rfl (fun w hw => (by have h9 := sort_ok (dotP (b - a) (b - a)) (dotP (c - b) (c - b)) (dotP (a - c) (a - c)) _ (by omega) w (hw.get (i := 0) rfl); rwa [sort3L_eq, ← hs3] at h9)) (fun d hd => by cases hd <;> exact (leB rfl)) rfl ?_
    refine q3 (sC 3 rfl (sC 4 rfl (sC 5 rfl (sC 6 rfl (sC 7 rfl (sC 8 rfl (sN))))))) ?_
    refine OkL.open_ (T := 62) (cs := fracL (0 : Rat) ++ fracL (0 : Rat)) (wt_none rfl) (op_alloc (cs := fracL (0 : Rat) ++ fracL (0 : Rat)) Tryz.zeroValue62 rfl) rfl (leB rfl) ?_; intro b6
    refine OkL.nil ?_
    refine q1 ?_
    refine q4 ?_
    refine st (ex_move rfl) (leB rfl) ?_
    refine OkL.nil ?_
    refine OkQ.then_ ?_
    refine OkC.block ?_
    refine OkC.unroll 4 ?_
    refine OkR.step ?_
    refine q4 ?_
    refine st (ex_lss (c := true) rfl rfl (by decide)) (leB rfl) ?_
    refine OkL.nil ?_
    refine q1 ?_
    refine OkC.cond_true rfl ?_
    refine OkC.skip ?_
    refine q1 ?_
    refine OkC.block ?_
    refine q4 ?_
    refine st (ex_move rfl) (leB rfl) ?_
    refine st (ex_assign rfl) (leB rfl) ?_
    refine OkL.nil ?_
    refine OkQ.then_ ?_
    have hz8 := Sz_div (a := s.1) (b := s.2.2) (by assumption)
    refine dR (specs := [⟨.pure, fun _ => (vI 0), [], 0, []⟩, ⟨.pure, fun _ => (vI 0), [], 0, []⟩, ⟨.pure, fun _ => (pP b5 0), [], 0, []⟩, ⟨.held, fun _ => (aG (fracL s.1)), [], 0, []⟩, ⟨.pure, fun _ => (pP b5 10), [], 0, []⟩, ⟨.held, fun _ => (aG (fracL s.2.2)), [], 0, []⟩, ⟨.call, fun _ => (Value.tuple #[(aG (fracL (s.1 / s.2.2))), (vI 0)]), [], 0, []⟩, ⟨.pure, fun _ => (Value.tuple #[(aG (fracL (s.1 / s.2.2))), (vI 0)]), [], 0, []⟩, ⟨.pure, fun _ => (aG (fracL (s.1 / s.2.2))), [], 0, []⟩, ⟨.pure, fun _ => (vI 0), [], 0, []⟩, ⟨.pure, fun _ => (pP b6 0), [], 0, []⟩]) (Lro := [blk b5 56 (fracL s.1 ++ fracL s.2.1 ++ fracL s.2.2), blk b4 62 (fracL (0 : Rat) ++ fracL (0 : Rat)), blk b3 38 (ptL c), blk b2 38 (ptL b), blk b1 38 (ptL a)]) (List.Sublist.cons _ (List.Sublist.refl _)) (dC (dC (dC (dC (dC (dC (dC (dC (dC (dC (dC (dN)))))))))))) (by kernel_rfl) (by kernel_rfl) (fun _ _ d _ _ h => by cases d <;> exact h) (vC (vc_pure0 (G := fun β => [(10, (vI 0))]) (fun β => sF (by kernel_rfl)) (fun β _ => ex_move rfl)) (vC (vc_pure0 (G := fun β => [(10, (vI 0))]) (fun β => sF (by kernel_rfl)) (fun β _ => ex_move rfl)) (vC (vc_pure0 (G := fun β => [(8, (pP b5 0)), (35, (vI 0))]) (fun β => sF (by kernel_rfl)) (fun β _ => ex_indexAddr_array (j := 0) rfl rfl Tryz.underlying56 Tryz.sizeOf36 rfl (by decide) rfl)) (vC (vc_held0 (G := fun β => [(36, (pP b5 0))]) (fun β => sF (by kernel_rfl)) (fun β => ex_load_agg (i := 0) (vs := fracL s.1) rfl rfl Tryz.isAgg36 Tryz.sizeOf36 rfl rfl)) (vC (vc_pure0 (G := fun β => [(8, (pP b5 0))]) (fun β => sF (by kernel_rfl)) (fun β _ => ex_indexAddr_array (j := 2) rfl rfl Tryz.underlying56 Tryz.sizeOf36 rfl (by decide) rfl)) (vC (vc_held0 (G := fun β => [(38, (pP b5 10))]) (fun β => sF (by kernel_rfl)) (fun β => ex_load_agg (i := 0) (vs := fracL s.2.2) rfl rfl Tryz.isAgg36 Tryz.sizeOf36 rfl rfl)) (vC (vc_call0 (G := fun β => [(37, (aG (fracL s.1))), (39, (aG (fracL s.2.2)))]) (fun β => sF (by kernel_rfl)) (fun β => op_call0 (args := [(aG (fracL s.1)), (aG (fracL s.2.2))]) rfl rfl Tryz.call54) (fun β w hw => fDiv_ok s.1 s.2.2 (by omega) (by assumption) w)) (vC (vc_pure0 (G := fun β => [(40, (Value.tuple #[(aG (fracL (s.1 / s.2.2))), (vI 0)]))]) (fun β => sF (by kernel_rfl)) (fun β _ => ex_move rfl)) (vC (vc_pure0 (G := fun β => [(33, (Value.tuple #[(aG (fracL (s.1 / s.2.2))), (vI 0)]))]) (fun β => sF (by kernel_rfl)) (fun β _ => ex_extract (v := (aG (fracL (s.1 / s.2.2)))) rfl rfl)) (vC (vc_pure0 (G := fun β => [(33, (Value.tuple #[(aG (fracL (s.1 / s.2.2))), (vI 0)]))]) (fun β => sF (by kernel_rfl)) (fun β _ => ex_extract (v := (vI 0)) rfl rfl)) (vC (vc_pure0 (G := fun β => [(9, (pP b6 0)), (34, (vI 0))]) (fun β => sF (by kernel_rfl)) (fun β _ => ex_indexAddr_array (j := 0) rfl rfl Tryz.underlying62 Tryz.sizeOf36 rfl (by decide) rfl)) (VcAll.nil)))))))))))) (fun β => ?_)
    refine OkLH.sub (F' := [(3, (pP b1 0)), (4, (pP b2 0)), (5, (pP b3 0)), (6, (pP b4 0)), (7, (vI 0)), (8, (pP b5 0)), (9, (pP b6 0)), (30, (vI 0)), (31, (Value.bool true)), (32, (vI 0)), (10, (vI 0)), (34, (vI 0)), (35, (vI 0)), (36, (pP b5 0)), (37, (aG (fracL s.1))), (38, (pP b5 10)), (39, (aG (fracL s.2.2))), (40, (Value.tuple #[(aG (fracL (s.1 / s.2.2))), (vI 0)])), (33, (Value.tuple #[(aG (fracL (s.1 / s.2.2))), (vI 0)])), (41, (aG (fracL (s.1 / s.2.2)))), (43, (pP b6 0))]) (L' := [blk b6 62 (fracL (0 : Rat) ++ fracL (0 : Rat)), blk b5 56 (fracL s.1 ++ fracL s.2.1 ++ fracL s.2.2), blk b4 62 (fracL (0 : Rat) ++ fracL (0 : Rat)), blk b3 38 (ptL c), blk b2 38 (ptL b), blk b1 38 (ptL a)]) (sF rfl) (List.Sublist.refl _) ?_
    refine OkLH.store' (i := 0) (off := 0) (vs := fracL (s.1 / s.2.2)) (cs' := fracL (s.1 / s.2.2) ++ fracL (0 : Rat)) (L' := [blk b6 62 (fracL (s.1 / s.2.2) ++ fracL (0 : Rat)), blk b5 56 (fracL s.1 ++ fracL s.2.1 ++ fracL s.2.2), blk b4 62 (fracL (0 : Rat) ++ fracL (0 : Rat)), blk b3 38 (ptL c), blk b2 38 (ptL b), blk b1 38 (ptL a)]) (List.Sublist.cons _ (List.Sublist.refl _)) (wt_none rfl) rfl rfl rfl rfl rfl Tryz.sizeOf36 rfl rfl rfl rfl ?_
    refine OkLH.nil ?_
    refine OkQ.in_normal ?_
    refine OkQ.then_ ?_
    refine OkC.region ?_
    refine st (ex_add (c := (1 : Int)) rfl rfl (by decide)) (leB rfl) ?_
    refine st (ex_move rfl) (leB rfl) ?_
    refine OkL.nil ?_
    refine OkQ.again ?_
    refine OkR.step ?_
    refine q4 ?_
    refine st (ex_lss (c := true) rfl rfl (by decide)) (leB rfl) ?_
    refine OkL.nil ?_
    refine q1 ?_
    refine OkC.cond_true rfl ?_
    refine OkC.skip ?_
    refine q1 ?_
    refine OkC.block ?_
    refine q4 ?_
    refine st (ex_move rfl) (leB rfl) ?_
    refine st (ex_assign rfl) (leB rfl) ?_
    refine OkL.nil ?_
    refine OkQ.then_ ?_
    refine OkC.subF (sC 3 rfl (sC 4 rfl (sC 5 rfl (sC 6 rfl (sC 7 rfl (sC 8 rfl (sC 9 rfl (sC 30 rfl (sC 31 rfl (sC 32 rfl (sC 10 rfl (sC 44 rfl (sN))))))))))))) ?_
    have hz9 := Sz_div (a := s.2.1) (b := s.2.2) (by assumption)
    refine dR (specs := [⟨.pure, fun _ => (vI 1), [], 0, []⟩, ⟨.pure, fun _ => (vI 1), [], 0, []⟩, ⟨.pure, fun _ => (pP b5 5), [], 0, []⟩, ⟨.held, fun _ => (aG (fracL s.2.1)), [], 0, []⟩, ⟨.pure, fun _ => (pP b5 10), [], 0, []⟩, ⟨.held, fun _ => (aG (fracL s.2.2)), [], 0, []⟩, ⟨.call, fun _ => (Value.tuple #[(aG (fracL (s.2.1 / s.2.2))), (vI 0)]), [], 0, []⟩, ⟨.pure, fun _ => (Value.tuple #[(aG (fracL (s.2.1 / s.2.2))), (vI 0)]), [], 0, []⟩, ⟨.pure, fun _ => (aG (fracL (s.2.1 / s.2.2))), [], 0, []⟩, ⟨.pure, fun _ => (vI 0), [], 0, []⟩, ⟨.pure, fun _ => (pP b6 5), [], 0, []⟩]) (Lro := [blk b5 56 (fracL s.1 ++ fracL s.2.1 ++ fracL s.2.2), blk b4 62 (fracL (0 : Rat) ++ fracL (0 : Rat)), blk b3 38 (ptL c), blk b2 38 (ptL b), blk b1 38 (ptL a)]) (List.Sublist.cons _ (List.Sublist.refl _)) (dC (dC (dC (dC (dC (dC (dC (dC (dC (dC (dC (dN)))))))))))) (by kernel_rfl) (by kernel_rfl) (fun _ _ d _ _ h => by cases d <;> exact h) (vC (vc_pure0 (G := fun β => [(10, (vI 1))]) (fun β => sF (by kernel_rfl)) (fun β _ => ex_move rfl)) (vC (vc_pure0 (G := fun β => [(10, (vI 1))]) (fun β => sF (by kernel_rfl)) (fun β _ => ex_move rfl)) (vC (vc_pure0 (G := fun β => [(8, (pP b5 0)), (35, (vI 1))]) (fun β => sF (by kernel_rfl)) (fun β _ => ex_indexAddr_array (j := 1) rfl rfl Tryz.underlying56 Tryz.sizeOf36 rfl (by decide) rfl)) (vC (vc_held0 (G := fun β => [(36, (pP b5 5))]) (fun β => sF (by kernel_rfl)) (fun β => ex_load_agg (i := 0) (vs := fracL s.2.1) rfl rfl Tryz.isAgg36 Tryz.sizeOf36 rfl rfl)) (vC (vc_pure0 (G := fun β => [(8, (pP b5 0))]) (fun β => sF (by kernel_rfl)) (fun β _ => ex_indexAddr_array (j := 2) rfl rfl Tryz.underlying56 Tryz.sizeOf36 rfl (by decide) rfl)) (vC (vc_held0 (G := fun β => [(38, (pP b5 10))]) (fun β => sF (by kernel_rfl)) (fun β => ex_load_agg (i := 0) (vs := fracL s.2.2) rfl rfl Tryz.isAgg36 Tryz.sizeOf36 rfl rfl)) (vC (vc_call0 (G := fun β => [(37, (aG (fracL s.2.1))), (39, (aG (fracL s.2.2)))]) (fun β => sF (by kernel_rfl)) (fun β => op_call0 (args := [(aG (fracL s.2.1)), (aG (fracL s.2.2))]) rfl rfl Tryz.call54) (fun β w hw => fDiv_ok s.2.1 s.2.2 (by omega) (by assumption) w)) (vC (vc_pure0 (G := fun β => [(40, (Value.tuple #[(aG (fracL (s.2.1 / s.2.2))), (vI 0)]))]) (fun β => sF (by kernel_rfl)) (fun β _ => ex_move rfl)) (vC (vc_pure0 (G := fun β => [(33, (Value.tuple #[(aG (fracL (s.2.1 / s.2.2))), (vI 0)]))]) (fun β => sF (by kernel_rfl)) (fun β _ => ex_extract (v := (aG (fracL (s.2.1 / s.2.2)))) rfl rfl)) (vC (vc_pure0 (G := fun β => [(33, (Value.tuple #[(aG (fracL (s.2.1 / s.2.2))), (vI 0)]))]) (fun β => sF (by kernel_rfl)) (fun β _ => ex_extract (v := (vI 0)) rfl rfl)) (vC (vc_pure0 (G := fun β => [(9, (pP b6 0)), (34, (vI 1))]) (fun β => sF (by kernel_rfl)) (fun β _ => ex_indexAddr_array (j := 1) rfl rfl Tryz.underlying62 Tryz.sizeOf36 rfl (by decide) rfl)) (VcAll.nil)))))))))))) (fun β => ?_)
    refine OkLH.sub (F' := [(3, (pP b1 0)), (4, (pP b2 0)), (5, (pP b3 0)), (6, (pP b4 0)), (7, (vI 0)), (8, (pP b5 0)), (9, (pP b6 0)), (30, (vI 1)), (31, (Value.bool true)), (32, (vI 1)), (10, (vI 1)), (44, (vI 1)), (34, (vI 1)), (35, (vI 1)), (36, (pP b5 5)), (37, (aG (fracL s.2.1))), (38, (pP b5 10)), (39, (aG (fracL s.2.2))), (40, (Value.tuple #[(aG (fracL (s.2.1 / s.2.2))), (vI 0)])), (33, (Value.tuple #[(aG (fracL (s.2.1 / s.2.2))), (vI 0)])), (41, (aG (fracL (s.2.1 / s.2.2)))), (43, (pP b6 5))]) (L' := [blk b6 62 (fracL (s.1 / s.2.2) ++ fracL (0 : Rat)), blk b5 56 (fracL s.1 ++ fracL s.2.1 ++ fracL s.2.2), blk b4 62 (fracL (0 : Rat) ++ fracL (0 : Rat)), blk b3 38 (ptL c), blk b2 38 (ptL b), blk b1 38 (ptL a)]) (sF rfl) (List.Sublist.refl _) ?_
    refine OkLH.store' (i := 0) (off := 5) (vs := fracL (s.2.1 / s.2.2)) (cs' := fracL (s.1 / s.2.2) ++ fracL (s.2.1 / s.2.2)) (L' := [blk b6 62 (fracL (s.1 / s.2.2) ++ fracL (s.2.1 / s.2.2)), blk b5 56 (fracL s.1 ++ fracL s.2.1 ++ fracL s.2.2), blk b4 62 (fracL (0 : Rat) ++ fracL (0 : Rat)), blk b3 38 (ptL c), blk b2 38 (ptL b), blk b1 38 (ptL a)]) (List.Sublist.cons _ (List.Sublist.refl _)) (wt_none rfl) rfl rfl rfl rfl rfl Tryz.sizeOf36 rfl rfl rfl rfl ?_
    refine OkLH.nil ?_
    refine OkQ.in_normal ?_
    refine OkQ.then_ ?_
    refine OkC.region ?_
    refine st (ex_add (c := (2 : Int)) rfl rfl (by decide)) (leB rfl) ?_
    refine st (ex_move rfl) (leB rfl) ?_
    refine OkL.nil ?_
    refine OkQ.again ?_
    refine OkR.step ?_
    refine q4 ?_
    refine st (ex_lss (c := false) rfl rfl (by decide)) (leB rfl) ?_
    refine OkL.nil ?_
    refine q1 ?_
    refine OkC.cond_false rfl ?_
    refine OkC.exit ?_
    refine OkQ.then_exit ?_
    refine OkQ.then_exit ?_
    refine OkQ.in_exit ?_
    refine q2 ?_
    refine st (ex_load_agg (i := 0) (vs := fracL (s.1 / s.2.2) ++ fracL (s.2.1 / s.2.2)) rfl rfl Tryz.isAgg62 Tryz.sizeOf62 rfl rfl) (leB rfl) ?_
    refine OkL.store' (i := 2) (off := 0) (vs := fracL (s.1 / s.2.2) ++ fracL (s.2.1 / s.2.2)) (cs' := fracL (s.1 / s.2.2) ++ fracL (s.2.1 / s.2.2)) (L' := [blk b6 62 (fracL (s.1 / s.2.2) ++ fracL (s.2.1 / s.2.2)), blk b5 56 (fracL s.1 ++ fracL s.2.1 ++ fracL s.2.2), blk b4 62 (fracL (s.1 / s.2.2) ++ fracL (s.2.1 / s.2.2)), blk b3 38 (ptL c), blk b2 38 (ptL b), blk b1 38 (ptL a)]) (wt_none rfl) rfl rfl rfl rfl rfl Tryz.sizeOf62 rfl rfl rfl rfl ?_
    refine st (ex_assign rfl) (leB rfl) ?_
    refine OkL.nil ?_
    refine OkQ.subF (sC 3 rfl (sC 4 rfl (sC 5 rfl (sC 6 rfl (sC 7 rfl (sC 8 rfl (sC 9 rfl (sC 30 rfl (sC 31 rfl (sC 32 rfl (sC 10 rfl (sC 44 rfl (sC 34 rfl (sC 35 rfl (sC 36 rfl (sC 37 rfl (sC 38 rfl (sC 39 rfl (sC 40 rfl (sC 33 rfl (sC 41 rfl (sC 43 rfl (sN))))))))))))))))))))))) ?_
    refine OkQ.then_ ?_
    refine OkC.ret ?_
    exact ret_two rfl (rd_agg (i := 2) (cs := fracL (s.1 / s.2.2) ++ fracL (s.2.1 / s.2.2)) rfl rfl Tryz.isAgg62 Tryz.sizeOf62 rfl) (rd_tmp (v := (vI 0)) rfl) (fun w hw => ⟨by rw [← hs3], hw.out⟩)

theorem fill_numy_62_  : Instr.fill (fun i => some (i * 5, 5)) (fracL (0 : Rat) ++ fracL (0 : Rat)).toArray [] = some (fracL (0 : Rat) ++ fracL (0 : Rat)).toArray := by kernel_rfl
theorem Shape0_ok (a b c : Pt) (hs : SzP a + SzP b + SzP c ≤ 1048576) (h : turnP a b c = 0) (w : World)  : Calls Tryz.prog 16 #[(aG (ptL a)), (aG (ptL b)), (aG (ptL c))] w (Gives w (Value.tuple #[(aG (fracL (0 : Rat) ++ fracL (0 : Rat))), (vI 1)])) := by
  refine calls_of (args := [(aG (ptL a)), (aG (ptL b)), (aG (ptL c))]) Tryz.func16 rfl rfl (leB rfl) ?_
  refine OkC.subF (sC 0 rfl (sC 1 rfl (sC 2 rfl (sN)))) ?_
  refine q4 ?_
  refine OkL.open_ (T := 38) (cs := ptL a) (wt_none rfl) (op_box (cs := ptL a) rfl rfl) rfl (leB rfl) ?_; intro b1
  refine OkL.open_ (T := 38) (cs := ptL b) (wt_none rfl) (op_box (cs := ptL b) rfl rfl) rfl (leB rfl) ?_; intro b2
  refine OkL.open_ (T := 38) (cs := ptL c) (wt_none rfl) (op_box (cs := ptL c) rfl rfl) rfl (leB rfl) ?_; intro b3
  refine OkL.open_ (T := 62) (cs := fracL (0 : Rat) ++ fracL (0 : Rat)) (wt_none rfl) (op_alloc (cs := fracL (0 : Rat) ++ fracL (0 : Rat)) Tryz.zeroValue62 rfl) rfl (leB rfl) ?_; intro b4
  refine st (ex_assign rfl) (leB rfl) ?_
  refine q6 (sC 3 rfl (sC 4 rfl (sC 5 rfl (sC 6 rfl (sC 7 rfl (sN)))))) ?_
  refine q4 ?_
  refine st (ex_load_agg (i := 3) (vs := ptL a) rfl rfl Tryz.isAgg38 Tryz.sizeOf38 rfl rfl) (leB rfl) ?_
  refine st (ex_load_agg (i := 2) (vs := ptL b) rfl rfl Tryz.isAgg38 Tryz.sizeOf38 rfl rfl) (leB rfl) ?_
  refine st (ex_load_agg (i := 1) (vs := ptL c) rfl rfl Tryz.isAgg38 Tryz.sizeOf38 rfl rfl) (leB rfl) ?_
  have hz1 := Sz_turn a b c
  refine OkL.call (v := (aG (fracL (turnP a b c)))) (wt_none rfl) (op_call0 (args := [(aG (ptL a)), (aG (ptL b)), (aG (ptL c))]) rfl rfl Tryz.call53) (fun w hw => twice_ok a b c (by omega) w) rfl (leB rfl) ?_
  refine OkL.call (v := (vI ((turnP a b c).num.sign))) (wt_none rfl) (op_call0 (args := [(aG (fracL (turnP a b c)))]) rfl rfl Tryz.call20) (fun w hw => fSign_ok (turnP a b c) w) rfl (leB rfl) ?_
  refine st (ex_eql (c := (decide (((turnP a b c).num.sign) = (0 : Int)))) rfl rfl rfl) (leB rfl) ?_
  refine OkL.nil ?_
  refine OkQ.subF (sC 3 rfl (sC 4 rfl (sC 5 rfl (sC 6 rfl (sC 7 rfl (sC 16 rfl (sN))))))) ?_
  refine OkQ.then_ ?_
  refine OkC.cond rfl (fun hc0 => ?_) (fun hc0 => ?_)
  · replace hc0 := of_decide_eq_true hc0
    refine q4 ?_
    refine st (v := (aG (fracL (0 : Rat) ++ fracL (0 : Rat)))) (ex_build_array (zs := fracL (0 : Rat) ++ fracL (0 : Rat)) (vs := fracL (0 : Rat) ++ fracL (0 : Rat)) (pv := []) Tryz.zeroValue62 Tryz.underlying62 Tryz.sizeOf36 rfl (fill_numy_62_ )) (leB rfl) ?_
    refine OkL.store' (i := 0) (off := 0) (vs := fracL (0 : Rat) ++ fracL (0 : Rat)) (cs' := fracL (0 : Rat) ++ fracL (0 : Rat)) (L' := [blk b4 62 (fracL (0 : Rat) ++ fracL (0 : Rat)), blk b3 38 (ptL c), blk b2 38 (ptL b), blk b1 38 (ptL a)]) (wt_none rfl) rfl rfl rfl rfl rfl Tryz.sizeOf62 rfl rfl rfl rfl ?_
    refine st (ex_assign rfl) (leB rfl) ?_
    refine OkL.nil ?_
    refine OkQ.subF (sC 3 rfl (sC 4 rfl (sC 5 rfl (sC 6 rfl (sC 7 rfl (sN)))))) ?_
    refine OkQ.then_ ?_
    refine OkC.ret ?_
    refine OkQ.then_ret ?_
    exact ret_two rfl (rd_agg (i := 0) (cs := fracL (0 : Rat) ++ fracL (0 : Rat)) rfl rfl Tryz.isAgg62 Tryz.sizeOf62 rfl) (rd_tmp (v := (vI 1)) rfl) (fun w hw => ⟨rfl, hw.out⟩)
  · replace hc0 := of_decide_eq_false hc0
    exact absurd (by rw [h]; rfl) hc0


end Go.Proofs.YtpkoldfmbebmgaaGreatDoor
