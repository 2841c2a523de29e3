/- Walks, printed by gen.py. -/
import Derived.Test.YtpkoldfmbebmgaaGreatDoorNumK
import Derived.Test.YtpkoldfmbebmgaaGreatDoorRat
namespace Go.Proofs.YtpkoldfmbebmgaaGreatDoor
open Go Go.RowKit
set_option maxRecDepth 100000
set_option linter.unusedVariables false
set_option linter.unusedSimpArgs false

theorem fill_numl_36_0intL_1natL (x0 : Int) (x1 : Nat) : Instr.fill ([(0, 3), (3, 2)].toArray[·]?) (fracL (0 : Rat)).toArray [(0, .agg (intL x0).toArray), (1, .agg (natL x1).toArray)] = some (intL x0 ++ natL x1).toArray := by kernel_rfl
theorem lowest_ok (n : Int) (d : Nat) (hn : nw n.natAbs ≤ 1099511627776) (hd : nw d ≤ 1099511627776) (hd0 : d ≠ 0) (w : World)  : Calls Tryz.prog 83 #[(aG (intL n)), (aG (natL d))] w (Gives w (aG (fracL (mkRat n d)))) := by
  have hg : Nat.gcd n.natAbs d ≠ 0 := fun h => hd0 (Nat.eq_zero_of_gcd_eq_zero_right h)
  have hgw : nw (Nat.gcd n.natAbs d) ≤ nw d := nw_mono (Nat.gcd_le_right _ (Nat.pos_of_ne_zero hd0))
  have hqw : nw (d / Nat.gcd n.natAbs d) ≤ nw d := nw_mono (Nat.div_le_self _ _)
  have h1w := nw_one
  refine calls_of (args := [(aG (intL n)), (aG (natL d))]) Tryz.func83 rfl rfl (leB rfl) ?_
  refine OkC.subF (sC 0 rfl (sC 1 rfl (sN))) ?_
  refine q4 ?_
  refine OkL.open_ (T := 34) (cs := intL n) (wt_none rfl) (op_box (cs := intL n) rfl rfl) rfl (leB rfl) ?_; intro b1
  refine OkL.open_ (T := 30) (cs := natL d) (wt_none rfl) (op_box (cs := natL d) rfl rfl) rfl (leB rfl) ?_; intro b2
  refine OkL.open_ (T := 36) (cs := fracL (0 : Rat)) (wt_none rfl) (op_alloc (cs := fracL (0 : Rat)) Tryz.zeroValue36 rfl) rfl (leB rfl) ?_; intro b3
  refine q6 (sC 2 rfl (sC 3 rfl (sC 4 rfl (sN)))) ?_
  refine OkC.drawn' (specs := [⟨.held, fun _ => (aG (intL n)), [], 0, []⟩, ⟨.call, fun _ => (aG (natL n.natAbs)), [], 0, []⟩, ⟨.held, fun _ => (aG (natL d)), [], 0, []⟩, ⟨.call, fun _ => (aG (natL (Nat.gcd n.natAbs d))), [], 0, []⟩, ⟨.new, fun β => (pP (β 4) 0), [], 30, natL 0⟩]) (by kernel_rfl) (fun hchk1 => ?_)
  refine dR (Lro := [blk b3 36 (fracL (0 : Rat)), blk b2 30 (natL d), blk b1 34 (intL n)]) (List.Sublist.refl _) (dC (dC (dC (dC (DepAll.block (V := fun b => (Value.pointer (some ⟨b, 0, none⟩))) (dN)))))) hchk1 (by kernel_rfl) (fun _ _ d _ _ h => by cases d <;> exact h) (vC (vc_held0 (G := fun β => [(2, (pP b1 0))]) (fun β => sF (by kernel_rfl)) (fun β => ex_load_agg (i := 2) (vs := intL n) rfl rfl Tryz.isAgg34 Tryz.sizeOf34 rfl rfl)) (vC (vc_call0 (G := fun β => [(12, (aG (intL n)))]) (fun β => sF (by kernel_rfl)) (fun β => op_call0 (args := [(aG (intL n))]) rfl rfl Tryz.call92) (fun β w hw => iAbs_ok n w)) (vC (vc_held0 (G := fun β => [(3, (pP b2 0))]) (fun β => sF (by kernel_rfl)) (fun β => ex_load_agg (i := 1) (vs := natL d) rfl rfl Tryz.isAgg30 Tryz.sizeOf30 rfl rfl)) (vC (vc_call0 (G := fun β => [(13, (aG (natL n.natAbs))), (14, (aG (natL d)))]) (fun β => sF (by kernel_rfl)) (fun β => op_call0 (args := [(aG (natL n.natAbs)), (aG (natL d))]) rfl rfl Tryz.call115) (fun β w hw => Gcd_ok n.natAbs d (by omega) (by omega) w)) (vC (vc_new0 (V := fun b => (Value.pointer (some ⟨b, 0, none⟩))) (j := 4) (one_place hchk1 rfl rfl rfl) (G := fun β => []) (fun β => sN) (fun β => op_alloc (cs := natL 0) Tryz.zeroValue30 rfl)) (VcAll.nil)))))) (fun β => ?_)
  clear hchk1
  refine OkLH.sub (F' := [(2, (pP b1 0)), (3, (pP b2 0)), (4, (pP b3 0)), (15, (aG (natL (Nat.gcd n.natAbs d)))), (5, (pP (β 4) 0))]) (L' := [blk (β 4) 30 (natL 0), blk b3 36 (fracL (0 : Rat)), blk b2 30 (natL d), blk b1 34 (intL n)]) (sF rfl) (List.Sublist.refl _) ?_
  generalize β 4 = b4
  refine OkLH.store' (i := 0) (off := 0) (vs := natL (Nat.gcd n.natAbs d)) (cs' := natL (Nat.gcd n.natAbs d)) (L' := [blk b4 30 (natL (Nat.gcd n.natAbs d)), blk b3 36 (fracL (0 : Rat)), blk b2 30 (natL d), blk b1 34 (intL n)]) (List.Sublist.cons _ (List.Sublist.refl _)) (wt_none rfl) rfl rfl rfl rfl rfl Tryz.sizeOf30 rfl rfl rfl rfl ?_
  refine q7 (sC 2 rfl (sC 3 rfl (sC 4 rfl (sC 5 rfl (sN))))) ?_
  refine OkC.drawn' (specs := [⟨.held, fun _ => (aG (intL n)), [], 0, []⟩, ⟨.call, fun _ => (aG (natL n.natAbs)), [], 0, []⟩, ⟨.held, fun _ => (aG (natL (Nat.gcd n.natAbs d))), [], 0, []⟩, ⟨.call, fun _ => (Value.tuple #[(aG (natL (n.natAbs / (Nat.gcd n.natAbs d)))), (aG (natL (n.natAbs % (Nat.gcd n.natAbs d)))), (Value.bool true)]), [], 0, []⟩, ⟨.pure, fun _ => (Value.tuple #[(aG (natL (n.natAbs / (Nat.gcd n.natAbs d)))), (aG (natL (n.natAbs % (Nat.gcd n.natAbs d)))), (Value.bool true)]), [], 0, []⟩, ⟨.pure, fun _ => (aG (natL (n.natAbs / (Nat.gcd n.natAbs d)))), [], 0, []⟩, ⟨.pure, fun _ => (aG (natL (n.natAbs % (Nat.gcd n.natAbs d)))), [], 0, []⟩, ⟨.pure, fun _ => (Value.bool true), [], 0, []⟩, ⟨.new, fun β => (pP (β 8) 0), [], 30, natL 0⟩, ⟨.new, fun β => (pP (β 9) 0), [], 30, natL 0⟩]) (by kernel_rfl) (fun hchk2 => ?_)
  refine dR (Lro := [blk b4 30 (natL (Nat.gcd n.natAbs d)), blk b3 36 (fracL (0 : Rat)), blk b2 30 (natL d), blk b1 34 (intL n)]) (List.Sublist.refl _) (dC (dC (dC (dC (dC (dC (dC (dC (DepAll.block (V := fun b => (Value.pointer (some ⟨b, 0, none⟩))) (DepAll.block (V := fun b => (Value.pointer (some ⟨b, 0, none⟩))) (dN))))))))))) hchk2 (by kernel_rfl) (fun _ _ d _ _ h => by cases d <;> exact h) (vC (vc_held0 (G := fun β => [(2, (pP b1 0))]) (fun β => sF (by kernel_rfl)) (fun β => ex_load_agg (i := 3) (vs := intL n) rfl rfl Tryz.isAgg34 Tryz.sizeOf34 rfl rfl)) (vC (vc_call0 (G := fun β => [(17, (aG (intL n)))]) (fun β => sF (by kernel_rfl)) (fun β => op_call0 (args := [(aG (intL n))]) rfl rfl Tryz.call92) (fun β w hw => iAbs_ok n w)) (vC (vc_held0 (G := fun β => [(5, (pP b4 0))]) (fun β => sF (by kernel_rfl)) (fun β => ex_load_agg (i := 0) (vs := natL (Nat.gcd n.natAbs d)) rfl rfl Tryz.isAgg30 Tryz.sizeOf30 rfl rfl)) (vC (vc_call0 (G := fun β => [(18, (aG (natL n.natAbs))), (19, (aG (natL (Nat.gcd n.natAbs d))))]) (fun β => sF (by kernel_rfl)) (fun β => op_call0 (args := [(aG (natL n.natAbs)), (aG (natL (Nat.gcd n.natAbs d)))]) rfl rfl Tryz.call116) (fun β w hw => Div_ok n.natAbs (Nat.gcd n.natAbs d) (by omega) (by omega) (by omega) w)) (vC (vc_pure0 (G := fun β => [(20, (Value.tuple #[(aG (natL (n.natAbs / (Nat.gcd n.natAbs d)))), (aG (natL (n.natAbs % (Nat.gcd n.natAbs d)))), (Value.bool true)]))]) (fun β => sF (by kernel_rfl)) (fun β _ => ex_move rfl)) (vC (vc_pure0 (G := fun β => [(16, (Value.tuple #[(aG (natL (n.natAbs / (Nat.gcd n.natAbs d)))), (aG (natL (n.natAbs % (Nat.gcd n.natAbs d)))), (Value.bool true)]))]) (fun β => sF (by kernel_rfl)) (fun β _ => ex_extract (v := (aG (natL (n.natAbs / (Nat.gcd n.natAbs d))))) rfl rfl)) (vC (vc_pure0 (G := fun β => [(16, (Value.tuple #[(aG (natL (n.natAbs / (Nat.gcd n.natAbs d)))), (aG (natL (n.natAbs % (Nat.gcd n.natAbs d)))), (Value.bool true)]))]) (fun β => sF (by kernel_rfl)) (fun β _ => ex_extract (v := (aG (natL (n.natAbs % (Nat.gcd n.natAbs d))))) rfl rfl)) (vC (vc_pure0 (G := fun β => [(16, (Value.tuple #[(aG (natL (n.natAbs / (Nat.gcd n.natAbs d)))), (aG (natL (n.natAbs % (Nat.gcd n.natAbs d)))), (Value.bool true)]))]) (fun β => sF (by kernel_rfl)) (fun β _ => ex_extract (v := (Value.bool true)) rfl rfl)) (vC (vc_new0 (V := fun b => (Value.pointer (some ⟨b, 0, none⟩))) (j := 8) (one_place hchk2 rfl rfl rfl) (G := fun β => []) (fun β => sN) (fun β => op_alloc (cs := natL 0) Tryz.zeroValue30 rfl)) (vC (vc_new0 (V := fun b => (Value.pointer (some ⟨b, 0, none⟩))) (j := 9) (one_place hchk2 rfl rfl rfl) (G := fun β => []) (fun β => sN) (fun β => op_alloc (cs := natL 0) Tryz.zeroValue30 rfl)) (VcAll.nil))))))))))) (fun β => ?_)
  clear hchk2
  refine OkLH.sub (F' := [(2, (pP b1 0)), (3, (pP b2 0)), (4, (pP b3 0)), (5, (pP b4 0)), (21, (aG (natL (n.natAbs / (Nat.gcd n.natAbs d))))), (22, (aG (natL (n.natAbs % (Nat.gcd n.natAbs d))))), (23, (Value.bool true)), (6, (pP (β 8) 0)), (7, (pP (β 9) 0))]) (L' := [blk (β 8) 30 (natL 0), blk (β 9) 30 (natL 0), blk b4 30 (natL (Nat.gcd n.natAbs d)), blk b3 36 (fracL (0 : Rat)), blk b2 30 (natL d), blk b1 34 (intL n)]) (sF rfl) (List.Sublist.refl _) ?_
  generalize β 8 = b5
  generalize β 9 = b6
  refine OkLH.store' (i := 0) (off := 0) (vs := natL (n.natAbs / (Nat.gcd n.natAbs d))) (cs' := natL (n.natAbs / (Nat.gcd n.natAbs d))) (L' := [blk b5 30 (natL (n.natAbs / (Nat.gcd n.natAbs d))), blk b6 30 (natL 0), blk b4 30 (natL (Nat.gcd n.natAbs d)), blk b3 36 (fracL (0 : Rat)), blk b2 30 (natL d), blk b1 34 (intL n)]) (List.Sublist.cons _ (List.Sublist.cons _ (List.Sublist.refl _))) (wt_none rfl) rfl rfl rfl rfl rfl Tryz.sizeOf30 rfl rfl rfl rfl ?_
  refine OkLH.store' (i := 1) (off := 0) (vs := natL (n.natAbs % (Nat.gcd n.natAbs d))) (cs' := natL (n.natAbs % (Nat.gcd n.natAbs d))) (L' := [blk b5 30 (natL (n.natAbs / (Nat.gcd n.natAbs d))), blk b6 30 (natL (n.natAbs % (Nat.gcd n.natAbs d))), blk b4 30 (natL (Nat.gcd n.natAbs d)), blk b3 36 (fracL (0 : Rat)), blk b2 30 (natL d), blk b1 34 (intL n)]) (List.Sublist.cons _ (List.Sublist.cons _ (List.Sublist.refl _))) (wt_none rfl) rfl rfl rfl rfl rfl Tryz.sizeOf30 rfl rfl rfl rfl ?_
  refine OkLH.step (v := (Value.bool true)) (List.Sublist.cons _ (List.Sublist.cons _ (List.Sublist.refl _))) (wt_none rfl) (ex_assign rfl) rfl (leB rfl) ?_
  refine q5 (sC 2 rfl (sC 3 rfl (sC 4 rfl (sC 5 rfl (sC 6 rfl (sN)))))) ?_
  refine st (ex_load_agg (i := 4) (vs := natL d) rfl rfl Tryz.isAgg30 Tryz.sizeOf30 rfl rfl) (leB rfl) ?_
  refine st (ex_load_agg (i := 2) (vs := natL (Nat.gcd n.natAbs d)) rfl rfl Tryz.isAgg30 Tryz.sizeOf30 rfl rfl) (leB rfl) ?_
  refine OkL.call (v := (Value.tuple #[(aG (natL (d / (Nat.gcd n.natAbs d)))), (aG (natL (d % (Nat.gcd n.natAbs d)))), (Value.bool true)])) (wt_none rfl) (op_call0 (args := [(aG (natL d)), (aG (natL (Nat.gcd n.natAbs d)))]) rfl rfl Tryz.call116) (fun w hw => Div_ok d (Nat.gcd n.natAbs d) (by omega) (by omega) (by omega) w) rfl (leB rfl) ?_
  refine st (ex_move rfl) (leB rfl) ?_
  refine st (ex_extract (v := (aG (natL (d / (Nat.gcd n.natAbs d))))) rfl rfl) (leB rfl) ?_
  refine st (ex_extract (v := (aG (natL (d % (Nat.gcd n.natAbs d))))) rfl rfl) (leB rfl) ?_
  refine st (ex_extract (v := (Value.bool true)) rfl rfl) (leB rfl) ?_
  refine OkL.open_ (T := 30) (cs := natL 0) (wt_none rfl) (op_alloc (cs := natL 0) Tryz.zeroValue30 rfl) rfl (leB rfl) ?_; intro b7
  refine OkL.open_ (T := 30) (cs := natL 0) (wt_none rfl) (op_alloc (cs := natL 0) Tryz.zeroValue30 rfl) rfl (leB rfl) ?_; intro b8
  refine OkL.store' (i := 1) (off := 0) (vs := natL (d / (Nat.gcd n.natAbs d))) (cs' := natL (d / (Nat.gcd n.natAbs d))) (L' := [blk b8 30 (natL 0), blk b7 30 (natL (d / (Nat.gcd n.natAbs d))), blk b5 30 (natL (n.natAbs / (Nat.gcd n.natAbs d))), blk b6 30 (natL (n.natAbs % (Nat.gcd n.natAbs d))), blk b4 30 (natL (Nat.gcd n.natAbs d)), blk b3 36 (fracL (0 : Rat)), blk b2 30 (natL d), blk b1 34 (intL n)]) (wt_none rfl) rfl rfl rfl rfl rfl Tryz.sizeOf30 rfl rfl rfl rfl ?_
  refine OkL.store' (i := 0) (off := 0) (vs := natL (d % (Nat.gcd n.natAbs d))) (cs' := natL (d % (Nat.gcd n.natAbs d))) (L' := [blk b8 30 (natL (d % (Nat.gcd n.natAbs d))), blk b7 30 (natL (d / (Nat.gcd n.natAbs d))), blk b5 30 (natL (n.natAbs / (Nat.gcd n.natAbs d))), blk b6 30 (natL (n.natAbs % (Nat.gcd n.natAbs d))), blk b4 30 (natL (Nat.gcd n.natAbs d)), blk b3 36 (fracL (0 : Rat)), blk b2 30 (natL d), blk b1 34 (intL n)]) (wt_none rfl) rfl rfl rfl rfl rfl Tryz.sizeOf30 rfl rfl rfl rfl ?_
  refine st (ex_assign rfl) (leB rfl) ?_
  refine q6 (sC 2 rfl (sC 3 rfl (sC 4 rfl (sC 5 rfl (sC 6 rfl (sC 9 rfl (sN))))))) ?_
  refine dR (specs := [⟨.look, fun _ => (aG (natL (d / (Nat.gcd n.natAbs d)))), [], 0, []⟩, ⟨.call, fun _ => (aG (natL 1)), [], 0, []⟩, ⟨.call, fun _ => (Value.tuple #[(aG (natL ((d / (Nat.gcd n.natAbs d)) - 1))), (Value.bool (decide (1 ≤ d / (Nat.gcd n.natAbs d))))]), [], 0, []⟩, ⟨.pure, fun _ => (Value.tuple #[(aG (natL ((d / (Nat.gcd n.natAbs d)) - 1))), (Value.bool (decide (1 ≤ d / (Nat.gcd n.natAbs d))))]), [], 0, []⟩, ⟨.pure, fun _ => (aG (natL ((d / (Nat.gcd n.natAbs d)) - 1))), [], 0, []⟩, ⟨.pure, fun _ => (Value.bool (decide (1 ≤ d / (Nat.gcd n.natAbs d)))), [], 0, []⟩]) (Lro := [blk b8 30 (natL (d % (Nat.gcd n.natAbs d))), blk b5 30 (natL (n.natAbs / (Nat.gcd n.natAbs d))), blk b6 30 (natL (n.natAbs % (Nat.gcd n.natAbs d))), blk b4 30 (natL (Nat.gcd n.natAbs d)), blk b3 36 (fracL (0 : Rat)), blk b2 30 (natL d), blk b1 34 (intL n)]) (List.Sublist.cons_cons _ (List.Sublist.cons _ (List.Sublist.refl _))) (dC (dC (dC (dC (dC (dC (dN))))))) (by kernel_rfl) (by kernel_rfl) (fun _ _ d _ _ h => by cases d <;> exact h) (vC (vc_look0 (G := fun β => [(9, (pP b7 0))]) (fun β => sF (by kernel_rfl)) (fun β => ex_load_agg (i := 1) (vs := natL (d / (Nat.gcd n.natAbs d))) rfl rfl Tryz.isAgg30 Tryz.sizeOf30 rfl rfl)) (vC (vc_call0 (G := fun β => []) (fun β => sN) (fun β => op_call0 (args := [(Value.int .u64 (1 : Int))]) rfl rfl Tryz.call118) (fun β w hw => of64_ok 1 (by omega) w)) (vC (vc_call0 (G := fun β => [(32, (aG (natL (d / (Nat.gcd n.natAbs d))))), (33, (aG (natL 1)))]) (fun β => sF (by kernel_rfl)) (fun β => op_call0 (args := [(aG (natL (d / (Nat.gcd n.natAbs d)))), (aG (natL 1))]) rfl rfl Tryz.call117) (fun β w hw => Sub_ok (d / (Nat.gcd n.natAbs d)) 1 (by omega) (by omega) w)) (vC (vc_pure0 (G := fun β => [(34, (Value.tuple #[(aG (natL ((d / (Nat.gcd n.natAbs d)) - 1))), (Value.bool (decide (1 ≤ d / (Nat.gcd n.natAbs d))))]))]) (fun β => sF (by kernel_rfl)) (fun β _ => ex_move rfl)) (vC (vc_pure0 (G := fun β => [(31, (Value.tuple #[(aG (natL ((d / (Nat.gcd n.natAbs d)) - 1))), (Value.bool (decide (1 ≤ d / (Nat.gcd n.natAbs d))))]))]) (fun β => sF (by kernel_rfl)) (fun β _ => ex_extract (v := (aG (natL ((d / (Nat.gcd n.natAbs d)) - 1)))) rfl rfl)) (vC (vc_pure0 (G := fun β => [(31, (Value.tuple #[(aG (natL ((d / (Nat.gcd n.natAbs d)) - 1))), (Value.bool (decide (1 ≤ d / (Nat.gcd n.natAbs d))))]))]) (fun β => sF (by kernel_rfl)) (fun β _ => ex_extract (v := (Value.bool (decide (1 ≤ d / (Nat.gcd n.natAbs d))))) rfl rfl)) (VcAll.nil))))))) (fun β => ?_)
  refine OkLH.sub (F' := [(2, (pP b1 0)), (3, (pP b2 0)), (4, (pP b3 0)), (5, (pP b4 0)), (6, (pP b5 0)), (9, (pP b7 0)), (35, (aG (natL ((d / (Nat.gcd n.natAbs d)) - 1))))]) (L' := [blk b8 30 (natL (d % (Nat.gcd n.natAbs d))), blk b7 30 (natL (d / (Nat.gcd n.natAbs d))), blk b5 30 (natL (n.natAbs / (Nat.gcd n.natAbs d))), blk b6 30 (natL (n.natAbs % (Nat.gcd n.natAbs d))), blk b4 30 (natL (Nat.gcd n.natAbs d)), blk b3 36 (fracL (0 : Rat)), blk b2 30 (natL d), blk b1 34 (intL n)]) (sF rfl) (List.Sublist.refl _) ?_
  refine OkLH.store' (i := 1) (off := 0) (vs := natL ((d / (Nat.gcd n.natAbs d)) - 1)) (cs' := natL ((d / (Nat.gcd n.natAbs d)) - 1)) (L' := [blk b8 30 (natL (d % (Nat.gcd n.natAbs d))), blk b7 30 (natL ((d / (Nat.gcd n.natAbs d)) - 1)), blk b5 30 (natL (n.natAbs / (Nat.gcd n.natAbs d))), blk b6 30 (natL (n.natAbs % (Nat.gcd n.natAbs d))), blk b4 30 (natL (Nat.gcd n.natAbs d)), blk b3 36 (fracL (0 : Rat)), blk b2 30 (natL d), blk b1 34 (intL n)]) (List.Sublist.cons_cons _ (List.Sublist.cons _ (List.Sublist.refl _))) (wt_none rfl) rfl rfl rfl rfl rfl Tryz.sizeOf30 rfl rfl rfl rfl ?_
  refine q7 (sC 2 rfl (sC 3 rfl (sC 4 rfl (sC 5 rfl (sC 6 rfl (sC 9 rfl (sN))))))) ?_
  refine dR (specs := [⟨.held, fun _ => (aG (intL n)), [], 0, []⟩, ⟨.call, fun _ => (vI n.sign), [], 0, []⟩, ⟨.pure, fun _ => (Value.bool (decide (n.sign < (0 : Int)))), [], 0, []⟩, ⟨.held, fun _ => (aG (natL (n.natAbs / (Nat.gcd n.natAbs d)))), [], 0, []⟩, ⟨.call, fun _ => (aG (intL (mkI (decide (n.sign < (0 : Int))) (n.natAbs / (Nat.gcd n.natAbs d))))), [], 0, []⟩, ⟨.held, fun _ => (aG (natL ((d / (Nat.gcd n.natAbs d)) - 1))), [], 0, []⟩, ⟨.pure, fun _ => (aG (intL (mkI (decide (n.sign < (0 : Int))) (n.natAbs / (Nat.gcd n.natAbs d))) ++ natL ((d / (Nat.gcd n.natAbs d)) - 1))), [], 0, []⟩]) (Lro := [blk b8 30 (natL (d % (Nat.gcd n.natAbs d))), blk b7 30 (natL ((d / (Nat.gcd n.natAbs d)) - 1)), blk b5 30 (natL (n.natAbs / (Nat.gcd n.natAbs d))), blk b6 30 (natL (n.natAbs % (Nat.gcd n.natAbs d))), blk b4 30 (natL (Nat.gcd n.natAbs d)), blk b2 30 (natL d), blk b1 34 (intL n)]) (List.Sublist.cons_cons _ (List.Sublist.cons_cons _ (List.Sublist.cons_cons _ (List.Sublist.cons_cons _ (List.Sublist.cons_cons _ (List.Sublist.cons _ (List.Sublist.refl _))))))) (dC (dC (dC (dC (dC (dC (dC (dN)))))))) (by kernel_rfl) (by kernel_rfl) (fun _ _ d _ _ h => by cases d <;> exact h) (vC (vc_held0 (G := fun β => [(2, (pP b1 0))]) (fun β => sF (by kernel_rfl)) (fun β => ex_load_agg (i := 6) (vs := intL n) rfl rfl Tryz.isAgg34 Tryz.sizeOf34 rfl rfl)) (vC (vc_call0 (G := fun β => [(37, (aG (intL n)))]) (fun β => sF (by kernel_rfl)) (fun β => op_call0 (args := [(aG (intL n))]) rfl rfl Tryz.call65) (fun β w hw => iSign_ok n w)) (vC (vc_pure0 (G := fun β => [(38, (vI n.sign))]) (fun β => sF (by kernel_rfl)) (fun β _ => ex_lss (c := (decide (n.sign < (0 : Int)))) rfl rfl rfl)) (vC (vc_held0 (G := fun β => [(6, (pP b5 0))]) (fun β => sF (by kernel_rfl)) (fun β => ex_load_agg (i := 2) (vs := natL (n.natAbs / (Nat.gcd n.natAbs d))) rfl rfl Tryz.isAgg30 Tryz.sizeOf30 rfl rfl)) (vC (vc_call0 (G := fun β => [(39, (Value.bool (decide (n.sign < (0 : Int))))), (40, (aG (natL (n.natAbs / (Nat.gcd n.natAbs d)))))]) (fun β => sF (by kernel_rfl)) (fun β => op_call0 (args := [(Value.bool (decide (n.sign < (0 : Int)))), (aG (natL (n.natAbs / (Nat.gcd n.natAbs d))))]) rfl rfl Tryz.call91) (fun β w hw => From_ok (decide (n.sign < (0 : Int))) (n.natAbs / (Nat.gcd n.natAbs d)) w)) (vC (vc_held0 (G := fun β => [(9, (pP b7 0))]) (fun β => sF (by kernel_rfl)) (fun β => ex_load_agg (i := 1) (vs := natL ((d / (Nat.gcd n.natAbs d)) - 1)) rfl rfl Tryz.isAgg30 Tryz.sizeOf30 rfl rfl)) (vC (vc_pure0 (G := fun β => [(41, (aG (intL (mkI (decide (n.sign < (0 : Int))) (n.natAbs / (Nat.gcd n.natAbs d)))))), (42, (aG (natL ((d / (Nat.gcd n.natAbs d)) - 1))))]) (fun β => sF (by kernel_rfl)) (fun β _ => ex_build_struct (zs := fracL (0 : Rat)) (vs := intL (mkI (decide (n.sign < (0 : Int))) (n.natAbs / (Nat.gcd n.natAbs d))) ++ natL ((d / (Nat.gcd n.natAbs d)) - 1)) (pv := [(0, (aG (intL (mkI (decide (n.sign < (0 : Int))) (n.natAbs / (Nat.gcd n.natAbs d)))))), (1, (aG (natL ((d / (Nat.gcd n.natAbs d)) - 1))))]) (places := [(0, 3), (3, 2)]) Tryz.zeroValue36 Tryz.underlying36 (fun w => by simp [Tryz.sizeOf30, Tryz.sizeOf34]) rfl (fill_numl_36_0intL_1natL (mkI (decide (n.sign < (0 : Int))) (n.natAbs / (Nat.gcd n.natAbs d))) ((d / (Nat.gcd n.natAbs d)) - 1)))) (VcAll.nil)))))))) (fun β => ?_)
  refine OkLH.sub (F' := [(2, (pP b1 0)), (3, (pP b2 0)), (4, (pP b3 0)), (5, (pP b4 0)), (6, (pP b5 0)), (9, (pP b7 0)), (43, (aG (intL (mkI (decide (n.sign < (0 : Int))) (n.natAbs / (Nat.gcd n.natAbs d))) ++ natL ((d / (Nat.gcd n.natAbs d)) - 1))))]) (L' := [blk b8 30 (natL (d % (Nat.gcd n.natAbs d))), blk b7 30 (natL ((d / (Nat.gcd n.natAbs d)) - 1)), blk b5 30 (natL (n.natAbs / (Nat.gcd n.natAbs d))), blk b6 30 (natL (n.natAbs % (Nat.gcd n.natAbs d))), blk b4 30 (natL (Nat.gcd n.natAbs d)), blk b3 36 (fracL (0 : Rat)), blk b2 30 (natL d), blk b1 34 (intL n)]) (sF rfl) (List.Sublist.refl _) ?_
  refine OkLH.store' (i := 5) (off := 0) (vs := intL (mkI (decide (n.sign < (0 : Int))) (n.natAbs / (Nat.gcd n.natAbs d))) ++ natL ((d / (Nat.gcd n.natAbs d)) - 1)) (cs' := intL (mkI (decide (n.sign < (0 : Int))) (n.natAbs / (Nat.gcd n.natAbs d))) ++ natL ((d / (Nat.gcd n.natAbs d)) - 1)) (L' := [blk b8 30 (natL (d % (Nat.gcd n.natAbs d))), blk b7 30 (natL ((d / (Nat.gcd n.natAbs d)) - 1)), blk b5 30 (natL (n.natAbs / (Nat.gcd n.natAbs d))), blk b6 30 (natL (n.natAbs % (Nat.gcd n.natAbs d))), blk b4 30 (natL (Nat.gcd n.natAbs d)), blk b3 36 (intL (mkI (decide (n.sign < (0 : Int))) (n.natAbs / (Nat.gcd n.natAbs d))) ++ natL ((d / (Nat.gcd n.natAbs d)) - 1)), blk b2 30 (natL d), blk b1 34 (intL n)]) (List.Sublist.cons_cons _ (List.Sublist.cons_cons _ (List.Sublist.cons_cons _ (List.Sublist.cons_cons _ (List.Sublist.cons_cons _ (List.Sublist.cons _ (List.Sublist.refl _))))))) (wt_none rfl) rfl rfl rfl rfl rfl Tryz.sizeOf36 rfl rfl rfl rfl ?_
  refine OkLH.nil ?_
  refine OkQ.subF (sC 2 rfl (sC 3 rfl (sC 4 rfl (sC 5 rfl (sC 6 rfl (sC 9 rfl (sN))))))) ?_
  refine OkQ.then_ ?_
  refine OkC.ret ?_
  exact ret_one rfl (rd_agg (i := 5) (cs := intL (mkI (decide (n.sign < (0 : Int))) (n.natAbs / (Nat.gcd n.natAbs d))) ++ natL ((d / (Nat.gcd n.natAbs d)) - 1)) rfl rfl Tryz.isAgg36 Tryz.sizeOf36 rfl) (fun w hw => ⟨by rw [fracL_parts, low_num hd0, low_den hd0], hw.out⟩)

theorem fill_numl_36_0intL (x0 : Int) : Instr.fill ([(0, 3), (3, 2)].toArray[·]?) (fracL (0 : Rat)).toArray [(0, .agg (intL x0).toArray)] = some (intL x0 ++ natL ((0 : Rat).den - 1)).toArray := by kernel_rfl
theorem whole_ok (n : Int) (w : World)  : Calls Tryz.prog 81 #[(aG (intL n))] w (Gives w (aG (fracL ((n : Int) : Rat)))) := by
  refine calls_of (args := [(aG (intL n))]) Tryz.func81 rfl rfl (leB rfl) ?_
  refine OkC.subF (sC 0 rfl (sN)) ?_
  refine q4 ?_
  refine OkL.open_ (T := 34) (cs := intL n) (wt_none rfl) (op_box (cs := intL n) rfl rfl) rfl (leB rfl) ?_; intro b1
  refine OkL.open_ (T := 36) (cs := fracL (0 : Rat)) (wt_none rfl) (op_alloc (cs := fracL (0 : Rat)) Tryz.zeroValue36 rfl) rfl (leB rfl) ?_; intro b2
  refine q3 (sC 1 rfl (sC 2 rfl (sN))) ?_
  refine st (ex_load_agg (i := 1) (vs := intL n) rfl rfl Tryz.isAgg34 Tryz.sizeOf34 rfl rfl) (leB rfl) ?_
  refine st (v := (aG (intL n ++ natL ((0 : Rat).den - 1)))) (ex_build_struct (zs := fracL (0 : Rat)) (vs := intL n ++ natL ((0 : Rat).den - 1)) (pv := [(0, (aG (intL n)))]) (places := [(0, 3), (3, 2)]) Tryz.zeroValue36 Tryz.underlying36 (fun w => by simp [Tryz.sizeOf30, Tryz.sizeOf34]) rfl (fill_numl_36_0intL n)) (leB rfl) ?_
  refine OkL.store' (i := 0) (off := 0) (vs := intL n ++ natL ((0 : Rat).den - 1)) (cs' := intL n ++ natL ((0 : Rat).den - 1)) (L' := [blk b2 36 (intL n ++ natL ((0 : Rat).den - 1)), blk b1 34 (intL n)]) (wt_none rfl) rfl rfl rfl rfl rfl Tryz.sizeOf36 rfl rfl rfl rfl ?_
  refine OkL.nil ?_
  refine OkQ.subF (sC 2 rfl (sN)) ?_
  refine OkQ.then_ ?_
  refine OkC.ret ?_
  exact ret_one rfl (rd_agg (i := 0) (cs := intL n ++ natL ((0 : Rat).den - 1)) rfl rfl Tryz.isAgg36 Tryz.sizeOf36 rfl) (fun w hw => ⟨rfl, hw.out⟩)

theorem fill_numl_30_  : Instr.fill ([(0, 1), (1, 1)].toArray[·]?) (natL 0).toArray [] = some (natL 0).toArray := by kernel_rfl
theorem Whole_ok (a : Rat) (w : World)  : Calls Tryz.prog 80 #[(aG (fracL a))] w (Gives w (Value.bool (decide (a.den - 1 = 0)))) := by
  refine calls_of (args := [(aG (fracL a))]) Tryz.func80 rfl rfl (leB rfl) ?_
  refine OkC.subF (sC 0 rfl (sN)) ?_
  refine q4 ?_
  refine OkL.open_ (T := 36) (cs := fracL a) (wt_none rfl) (op_box (cs := fracL a) rfl rfl) rfl (leB rfl) ?_; intro b1
  refine st (ex_assign rfl) (leB rfl) ?_
  refine q3 (sC 1 rfl (sC 2 rfl (sN))) ?_
  refine st (v := (pP b1 3)) (ex_fieldAddr rfl Tryz.underlying36 rfl Tryz.sizeOf30 rfl) (leB rfl) ?_
  refine st (ex_load_agg (i := 0) (vs := natL (a.den - 1)) rfl rfl Tryz.isAgg30 Tryz.sizeOf30 rfl rfl) (leB rfl) ?_
  refine st (v := (aG (natL 0))) (ex_build_struct (zs := natL 0) (vs := natL 0) (pv := []) (places := [(0, 1), (1, 1)]) Tryz.zeroValue30 Tryz.underlying30 (fun w => by simp [Tryz.sizeOf9, Tryz.sizeOf28]) rfl (fill_numl_30_ )) (leB rfl) ?_
  refine st (ex_eql_agg (c := (decide (a.den - 1 = 0))) rfl rfl Tryz.eqGuardType30 (eqB_nat 9998 (a.den - 1) 0)) (leB rfl) ?_
  refine st (ex_assign rfl) (leB rfl) ?_
  refine OkL.nil ?_
  refine OkQ.subF (sC 2 rfl (sN)) ?_
  refine OkQ.then_ ?_
  refine OkC.ret ?_
  exact ret_one rfl (rd_tmp (v := (Value.bool (decide (a.den - 1 = 0)))) rfl) (fun w hw => ⟨rfl, hw.out⟩)

theorem den_ok (a : Rat) (ha : nw a.den ≤ 1099511627776) (w : World)  : Calls Tryz.prog 85 #[(aG (fracL a))] w (Gives w (aG (natL a.den))) := by
  have h1w := nw_one
  have h2w := nw_mono (Nat.sub_le a.den 1)
  refine calls_of (args := [(aG (fracL a))]) Tryz.func85 rfl rfl (leB rfl) ?_
  refine OkC.subF (sC 0 rfl (sN)) ?_
  refine q4 ?_
  refine OkL.open_ (T := 36) (cs := fracL a) (wt_none rfl) (op_box (cs := fracL a) rfl rfl) rfl (leB rfl) ?_; intro b1
  refine OkL.open_ (T := 30) (cs := natL 0) (wt_none rfl) (op_alloc (cs := natL 0) Tryz.zeroValue30 rfl) rfl (leB rfl) ?_; intro b2
  refine q6 (sC 1 rfl (sC 2 rfl (sN))) ?_
  refine dR (specs := [⟨.pure, fun _ => (pP b1 3), [], 0, []⟩, ⟨.held, fun _ => (aG (natL (a.den - 1))), [], 0, []⟩, ⟨.call, fun _ => (aG (natL 1)), [], 0, []⟩, ⟨.call, fun _ => (aG (natL ((a.den - 1) + 1))), [], 0, []⟩]) (Lro := [blk b1 36 (fracL a)]) (List.Sublist.cons _ (List.Sublist.refl _)) (dC (dC (dC (dC (dN))))) (by kernel_rfl) (by kernel_rfl) (fun _ _ d _ _ h => by cases d <;> exact h) (vC (vc_pure0 (G := fun β => [(1, (pP b1 0))]) (fun β => sF (by kernel_rfl)) (fun β _ => ex_fieldAddr rfl Tryz.underlying36 rfl Tryz.sizeOf30 rfl)) (vC (vc_held0 (G := fun β => [(3, (pP b1 3))]) (fun β => sF (by kernel_rfl)) (fun β => ex_load_agg (i := 0) (vs := natL (a.den - 1)) rfl rfl Tryz.isAgg30 Tryz.sizeOf30 rfl rfl)) (vC (vc_call0 (G := fun β => []) (fun β => sN) (fun β => op_call0 (args := [(Value.int .u64 (1 : Int))]) rfl rfl Tryz.call118) (fun β w hw => of64_ok 1 (by omega) w)) (vC (vc_call0 (G := fun β => [(4, (aG (natL (a.den - 1)))), (5, (aG (natL 1)))]) (fun β => sF (by kernel_rfl)) (fun β => op_call0 (args := [(aG (natL (a.den - 1))), (aG (natL 1))]) rfl rfl Tryz.call122) (fun β w hw => Add_ok (a.den - 1) 1 (by omega) (by omega) w)) (VcAll.nil))))) (fun β => ?_)
  refine OkLH.sub (F' := [(2, (pP b2 0)), (6, (aG (natL ((a.den - 1) + 1))))]) (L' := [blk b2 30 (natL 0), blk b1 36 (fracL a)]) (sF rfl) (List.Sublist.refl _) ?_
  refine OkLH.store' (i := 0) (off := 0) (vs := natL ((a.den - 1) + 1)) (cs' := natL ((a.den - 1) + 1)) (L' := [blk b2 30 (natL ((a.den - 1) + 1)), blk b1 36 (fracL a)]) (List.Sublist.cons _ (List.Sublist.refl _)) (wt_none rfl) rfl rfl rfl rfl rfl Tryz.sizeOf30 rfl rfl rfl rfl ?_
  refine OkLH.nil ?_
  refine OkQ.subF (sC 2 rfl (sN)) ?_
  refine OkQ.then_ ?_
  refine OkC.ret ?_
  exact ret_one rfl (rd_agg (i := 0) (cs := natL ((a.den - 1) + 1)) rfl rfl Tryz.isAgg30 Tryz.sizeOf30 rfl) (fun w hw => ⟨by rw [Nat.sub_add_cancel a.den_pos], hw.out⟩)

theorem signed_ok (a : Rat) (ha : nw a.den ≤ 1099511627776) (w : World)  : Calls Tryz.prog 87 #[(aG (fracL a))] w (Gives w (aG (intL ((a.den : Nat) : Int)))) := by
  refine calls_of (args := [(aG (fracL a))]) Tryz.func87 rfl rfl (leB rfl) ?_
  refine OkC.subF (sC 0 rfl (sN)) ?_
  refine q4 ?_
  refine OkL.open_ (T := 36) (cs := fracL a) (wt_none rfl) (op_box (cs := fracL a) rfl rfl) rfl (leB rfl) ?_; intro b1
  refine OkL.open_ (T := 34) (cs := intL 0) (wt_none rfl) (op_alloc (cs := intL 0) Tryz.zeroValue34 rfl) rfl (leB rfl) ?_; intro b2
  refine q3 (sC 1 rfl (sC 2 rfl (sN))) ?_
  refine st (ex_load_agg (i := 1) (vs := fracL a) rfl rfl Tryz.isAgg36 Tryz.sizeOf36 rfl rfl) (leB rfl) ?_
  refine OkL.call (v := (aG (natL a.den))) (wt_none rfl) (op_call0 (args := [(aG (fracL a))]) rfl rfl Tryz.call85) (fun w hw => den_ok a (by omega) w) rfl (leB rfl) ?_
  refine OkL.call (v := (aG (intL (mkI false a.den)))) (wt_none rfl) (op_call0 (args := [(Value.bool false), (aG (natL a.den))]) rfl rfl Tryz.call91) (fun w hw => From_ok false a.den w) rfl (leB rfl) ?_
  refine OkL.store' (i := 0) (off := 0) (vs := intL (mkI false a.den)) (cs' := intL (mkI false a.den)) (L' := [blk b2 34 (intL (mkI false a.den)), blk b1 36 (fracL a)]) (wt_none rfl) rfl rfl rfl rfl rfl Tryz.sizeOf34 rfl rfl rfl rfl ?_
  refine OkL.nil ?_
  refine OkQ.subF (sC 2 rfl (sN)) ?_
  refine OkQ.then_ ?_
  refine OkC.ret ?_
  exact ret_one rfl (rd_agg (i := 0) (cs := intL (mkI false a.den)) rfl rfl Tryz.isAgg34 Tryz.sizeOf34 rfl) (fun w hw => ⟨rfl, hw.out⟩)

theorem fNeg_ok (a : Rat) (w : World)  : Calls Tryz.prog 37 #[(aG (fracL a))] w (Gives w (aG (fracL (-a)))) := by
  refine calls_of (args := [(aG (fracL a))]) Tryz.func37 rfl rfl (leB rfl) ?_
  refine OkC.subF (sC 0 rfl (sN)) ?_
  refine q4 ?_
  refine OkL.open_ (T := 36) (cs := fracL a) (wt_none rfl) (op_box (cs := fracL a) rfl rfl) rfl (leB rfl) ?_; intro b1
  refine OkL.open_ (T := 36) (cs := fracL (0 : Rat)) (wt_none rfl) (op_alloc (cs := fracL (0 : Rat)) Tryz.zeroValue36 rfl) rfl (leB rfl) ?_; intro b2
  refine q6 (sC 1 rfl (sC 2 rfl (sN))) ?_
  refine dR (specs := [⟨.pure, fun _ => (pP b1 0), [], 0, []⟩, ⟨.held, fun _ => (aG (intL a.num)), [], 0, []⟩, ⟨.call, fun _ => (aG (intL (-a.num))), [], 0, []⟩, ⟨.pure, fun _ => (pP b1 3), [], 0, []⟩, ⟨.held, fun _ => (aG (natL (a.den - 1))), [], 0, []⟩, ⟨.pure, fun _ => (aG (intL (-a.num) ++ natL (a.den - 1))), [], 0, []⟩]) (Lro := [blk b1 36 (fracL a)]) (List.Sublist.cons _ (List.Sublist.refl _)) (dC (dC (dC (dC (dC (dC (dN))))))) (by kernel_rfl) (by kernel_rfl) (fun _ _ d _ _ h => by cases d <;> exact h) (vC (vc_pure0 (G := fun β => [(1, (pP b1 0))]) (fun β => sF (by kernel_rfl)) (fun β _ => ex_fieldAddr rfl Tryz.underlying36 rfl Tryz.sizeOf34 rfl)) (vC (vc_held0 (G := fun β => [(3, (pP b1 0))]) (fun β => sF (by kernel_rfl)) (fun β => ex_load_agg (i := 0) (vs := intL a.num) rfl rfl Tryz.isAgg34 Tryz.sizeOf34 rfl rfl)) (vC (vc_call0 (G := fun β => [(4, (aG (intL a.num)))]) (fun β => sF (by kernel_rfl)) (fun β => op_call0 (args := [(aG (intL a.num))]) rfl rfl Tryz.call78) (fun β w hw => iNeg_ok a.num w)) (vC (vc_pure0 (G := fun β => [(1, (pP b1 0))]) (fun β => sF (by kernel_rfl)) (fun β _ => ex_fieldAddr rfl Tryz.underlying36 rfl Tryz.sizeOf30 rfl)) (vC (vc_held0 (G := fun β => [(6, (pP b1 3))]) (fun β => sF (by kernel_rfl)) (fun β => ex_load_agg (i := 0) (vs := natL (a.den - 1)) rfl rfl Tryz.isAgg30 Tryz.sizeOf30 rfl rfl)) (vC (vc_pure0 (G := fun β => [(5, (aG (intL (-a.num)))), (7, (aG (natL (a.den - 1))))]) (fun β => sF (by kernel_rfl)) (fun β _ => ex_build_struct (zs := fracL (0 : Rat)) (vs := intL (-a.num) ++ natL (a.den - 1)) (pv := [(0, (aG (intL (-a.num)))), (1, (aG (natL (a.den - 1))))]) (places := [(0, 3), (3, 2)]) Tryz.zeroValue36 Tryz.underlying36 (fun w => by simp [Tryz.sizeOf30, Tryz.sizeOf34]) rfl (fill_numl_36_0intL_1natL (-a.num) (a.den - 1)))) (VcAll.nil))))))) (fun β => ?_)
  refine OkLH.sub (F' := [(2, (pP b2 0)), (8, (aG (intL (-a.num) ++ natL (a.den - 1))))]) (L' := [blk b2 36 (fracL (0 : Rat)), blk b1 36 (fracL a)]) (sF rfl) (List.Sublist.refl _) ?_
  refine OkLH.store' (i := 0) (off := 0) (vs := intL (-a.num) ++ natL (a.den - 1)) (cs' := intL (-a.num) ++ natL (a.den - 1)) (L' := [blk b2 36 (intL (-a.num) ++ natL (a.den - 1)), blk b1 36 (fracL a)]) (List.Sublist.cons _ (List.Sublist.refl _)) (wt_none rfl) rfl rfl rfl rfl rfl Tryz.sizeOf36 rfl rfl rfl rfl ?_
  refine OkLH.nil ?_
  refine OkQ.subF (sC 2 rfl (sN)) ?_
  refine OkQ.then_ ?_
  refine OkC.ret ?_
  exact ret_one rfl (rd_agg (i := 0) (cs := intL (-a.num) ++ natL (a.den - 1)) rfl rfl Tryz.isAgg36 Tryz.sizeOf36 rfl) (fun w hw => ⟨by rw [fracL_parts, Rat.neg_num, Rat.neg_den], hw.out⟩)

theorem fSign_ok (a : Rat) (w : World)  : Calls Tryz.prog 20 #[(aG (fracL a))] w (Gives w (vI a.num.sign)) := by
  refine calls_of (args := [(aG (fracL a))]) Tryz.func20 rfl rfl (leB rfl) ?_
  refine OkC.subF (sC 0 rfl (sN)) ?_
  refine q4 ?_
  refine OkL.open_ (T := 36) (cs := fracL a) (wt_none rfl) (op_box (cs := fracL a) rfl rfl) rfl (leB rfl) ?_; intro b1
  refine st (ex_assign rfl) (leB rfl) ?_
  refine q3 (sC 1 rfl (sC 2 rfl (sN))) ?_
  refine st (v := (pP b1 0)) (ex_fieldAddr rfl Tryz.underlying36 rfl Tryz.sizeOf34 rfl) (leB rfl) ?_
  refine st (ex_load_agg (i := 0) (vs := intL a.num) rfl rfl Tryz.isAgg34 Tryz.sizeOf34 rfl rfl) (leB rfl) ?_
  refine OkL.call (v := (vI a.num.sign)) (wt_none rfl) (op_call0 (args := [(aG (intL a.num))]) rfl rfl Tryz.call65) (fun w hw => iSign_ok a.num w) rfl (leB rfl) ?_
  refine st (ex_assign rfl) (leB rfl) ?_
  refine OkL.nil ?_
  refine OkQ.subF (sC 2 rfl (sN)) ?_
  refine OkQ.then_ ?_
  refine OkC.ret ?_
  exact ret_one rfl (rd_tmp (v := (vI a.num.sign)) rfl) (fun w hw => ⟨rfl, hw.out⟩)

theorem fCmp_ok (a b : Rat) (hs : Sz a + Sz b ≤ 549755813888) (w : World)  : Calls Tryz.prog 43 #[(aG (fracL a)), (aG (fracL b))] w (Gives w (vI (cmpQ a b))) := by
  have s1 := Sz_num a
  have s2 := Sz_den a
  have s3 := Sz_num b
  have s4 := Sz_den b
  have s5 := cross_nw a b
  have s6 := cross_nw b a
  have s7 := den_nw a b
  have s8 := num_nw a b
  have s9 := nwI_add a.num b.num
  have s10 := nwI_add (a.num * ((b.den : Nat) : Int)) (b.num * ((a.den : Nat) : Int))
  have hda := a.den_nz
  have hdb := b.den_nz
  have hdab : a.den * b.den ≠ 0 := Nat.mul_ne_zero hda hdb
  refine calls_of (args := [(aG (fracL a)), (aG (fracL b))]) Tryz.func43 rfl rfl (leB rfl) ?_
  refine OkC.subF (sC 0 rfl (sC 1 rfl (sN))) ?_
  refine q4 ?_
  refine OkL.open_ (T := 36) (cs := fracL a) (wt_none rfl) (op_box (cs := fracL a) rfl rfl) rfl (leB rfl) ?_; intro b1
  refine OkL.open_ (T := 36) (cs := fracL b) (wt_none rfl) (op_box (cs := fracL b) rfl rfl) rfl (leB rfl) ?_; intro b2
  refine st (ex_assign rfl) (leB rfl) ?_
  refine q6 (sC 2 rfl (sC 3 rfl (sC 4 rfl (sN)))) ?_
  refine q4 ?_
  refine st (v := (pP b1 3)) (ex_fieldAddr rfl Tryz.underlying36 rfl Tryz.sizeOf30 rfl) (leB rfl) ?_
  refine st (ex_load_agg (i := 1) (vs := natL (a.den - 1)) rfl rfl Tryz.isAgg30 Tryz.sizeOf30 rfl rfl) (leB rfl) ?_
  refine st (v := (pP b2 3)) (ex_fieldAddr rfl Tryz.underlying36 rfl Tryz.sizeOf30 rfl) (leB rfl) ?_
  refine st (ex_load_agg (i := 0) (vs := natL (b.den - 1)) rfl rfl Tryz.isAgg30 Tryz.sizeOf30 rfl rfl) (leB rfl) ?_
  refine st (ex_eql_agg (c := (decide (a.den - 1 = b.den - 1))) rfl rfl Tryz.eqGuardType30 (eqB_nat 9998 (a.den - 1) (b.den - 1))) (leB rfl) ?_
  refine OkL.nil ?_
  refine OkQ.subF (sC 2 rfl (sC 3 rfl (sC 4 rfl (sC 9 rfl (sN))))) ?_
  refine OkQ.then_ ?_
  refine OkC.cond rfl (fun hc0 => ?_) (fun hc0 => ?_)
  · replace hc0 := of_decide_eq_true hc0
    have he := cmpQ_same hc0
    refine q4 ?_
    refine st (v := (pP b1 0)) (ex_fieldAddr rfl Tryz.underlying36 rfl Tryz.sizeOf34 rfl) (leB rfl) ?_
    refine st (ex_load_agg (i := 1) (vs := intL a.num) rfl rfl Tryz.isAgg34 Tryz.sizeOf34 rfl rfl) (leB rfl) ?_
    refine st (v := (pP b2 0)) (ex_fieldAddr rfl Tryz.underlying36 rfl Tryz.sizeOf34 rfl) (leB rfl) ?_
    refine st (ex_load_agg (i := 0) (vs := intL b.num) rfl rfl Tryz.isAgg34 Tryz.sizeOf34 rfl rfl) (leB rfl) ?_
    refine OkL.call (v := (vI ((a.num - b.num).sign))) (wt_none rfl) (op_call0 (args := [(aG (intL a.num)), (aG (intL b.num))]) rfl rfl Tryz.call89) (fun w hw => iCmp_ok a.num b.num (by first | omega | (simp only [Int.natAbs_neg, mkI_natAbs, Int.natAbs_natCast]; omega)) (by first | omega | (simp only [Int.natAbs_neg, mkI_natAbs, Int.natAbs_natCast]; omega)) w) rfl (leB rfl) ?_
    refine st (ex_assign rfl) (leB rfl) ?_
    refine OkL.nil ?_
    refine OkQ.subF (sC 2 rfl (sC 3 rfl (sC 4 rfl (sN)))) ?_
    refine OkQ.then_ ?_
    refine OkC.ret ?_
    refine OkQ.then_ret ?_
    exact ret_one rfl (rd_tmp (v := (vI ((a.num - b.num).sign))) rfl) (fun w hw => ⟨by rw [he], hw.out⟩)
  · replace hc0 := of_decide_eq_false hc0
    have he := cmpQ_cross a b
    refine OkC.skip ?_
    refine q1 ?_
    refine dR (specs := [⟨.pure, fun _ => (pP b1 0), [], 0, []⟩, ⟨.held, fun _ => (aG (intL a.num)), [], 0, []⟩, ⟨.held, fun _ => (aG (fracL b)), [], 0, []⟩, ⟨.call, fun _ => (aG (intL ((b.den : Nat) : Int))), [], 0, []⟩, ⟨.call, fun _ => (aG (intL (a.num * ((b.den : Nat) : Int)))), [], 0, []⟩, ⟨.pure, fun _ => (pP b2 0), [], 0, []⟩, ⟨.held, fun _ => (aG (intL b.num)), [], 0, []⟩, ⟨.held, fun _ => (aG (fracL a)), [], 0, []⟩, ⟨.call, fun _ => (aG (intL ((a.den : Nat) : Int))), [], 0, []⟩, ⟨.call, fun _ => (aG (intL (b.num * ((a.den : Nat) : Int)))), [], 0, []⟩, ⟨.call, fun _ => (vI (((a.num * ((b.den : Nat) : Int)) - (b.num * ((a.den : Nat) : Int))).sign)), [], 0, []⟩]) (Lro := [blk b2 36 (fracL b), blk b1 36 (fracL a)]) (List.Sublist.refl _) (dC (dC (dC (dC (dC (dC (dC (dC (dC (dC (dC (dN)))))))))))) (by kernel_rfl) (by kernel_rfl) (fun _ _ d _ _ h => by cases d <;> exact h) (vC (vc_pure0 (G := fun β => [(2, (pP b1 0))]) (fun β => sF (by kernel_rfl)) (fun β _ => ex_fieldAddr rfl Tryz.underlying36 rfl Tryz.sizeOf34 rfl)) (vC (vc_held0 (G := fun β => [(15, (pP b1 0))]) (fun β => sF (by kernel_rfl)) (fun β => ex_load_agg (i := 1) (vs := intL a.num) rfl rfl Tryz.isAgg34 Tryz.sizeOf34 rfl rfl)) (vC (vc_held0 (G := fun β => [(3, (pP b2 0))]) (fun β => sF (by kernel_rfl)) (fun β => ex_load_agg (i := 0) (vs := fracL b) rfl rfl Tryz.isAgg36 Tryz.sizeOf36 rfl rfl)) (vC (vc_call0 (G := fun β => [(17, (aG (fracL b)))]) (fun β => sF (by kernel_rfl)) (fun β => op_call0 (args := [(aG (fracL b))]) rfl rfl Tryz.call87) (fun β w hw => signed_ok b (by omega) w)) (vC (vc_call0 (G := fun β => [(16, (aG (intL a.num))), (18, (aG (intL ((b.den : Nat) : Int))))]) (fun β => sF (by kernel_rfl)) (fun β => op_call0 (args := [(aG (intL a.num)), (aG (intL ((b.den : Nat) : Int)))]) rfl rfl Tryz.call82) (fun β w hw => iMul_ok a.num ((b.den : Nat) : Int) (by first | omega | (simp only [Int.natAbs_neg, mkI_natAbs, Int.natAbs_natCast]; omega)) (by first | omega | (simp only [Int.natAbs_neg, mkI_natAbs, Int.natAbs_natCast]; omega)) w)) (vC (vc_pure0 (G := fun β => [(3, (pP b2 0))]) (fun β => sF (by kernel_rfl)) (fun β _ => ex_fieldAddr rfl Tryz.underlying36 rfl Tryz.sizeOf34 rfl)) (vC (vc_held0 (G := fun β => [(20, (pP b2 0))]) (fun β => sF (by kernel_rfl)) (fun β => ex_load_agg (i := 0) (vs := intL b.num) rfl rfl Tryz.isAgg34 Tryz.sizeOf34 rfl rfl)) (vC (vc_held0 (G := fun β => [(2, (pP b1 0))]) (fun β => sF (by kernel_rfl)) (fun β => ex_load_agg (i := 1) (vs := fracL a) rfl rfl Tryz.isAgg36 Tryz.sizeOf36 rfl rfl)) (vC (vc_call0 (G := fun β => [(22, (aG (fracL a)))]) (fun β => sF (by kernel_rfl)) (fun β => op_call0 (args := [(aG (fracL a))]) rfl rfl Tryz.call87) (fun β w hw => signed_ok a (by omega) w)) (vC (vc_call0 (G := fun β => [(21, (aG (intL b.num))), (23, (aG (intL ((a.den : Nat) : Int))))]) (fun β => sF (by kernel_rfl)) (fun β => op_call0 (args := [(aG (intL b.num)), (aG (intL ((a.den : Nat) : Int)))]) rfl rfl Tryz.call82) (fun β w hw => iMul_ok b.num ((a.den : Nat) : Int) (by first | omega | (simp only [Int.natAbs_neg, mkI_natAbs, Int.natAbs_natCast]; omega)) (by first | omega | (simp only [Int.natAbs_neg, mkI_natAbs, Int.natAbs_natCast]; omega)) w)) (vC (vc_call0 (G := fun β => [(19, (aG (intL (a.num * ((b.den : Nat) : Int))))), (24, (aG (intL (b.num * ((a.den : Nat) : Int)))))]) (fun β => sF (by kernel_rfl)) (fun β => op_call0 (args := [(aG (intL (a.num * ((b.den : Nat) : Int)))), (aG (intL (b.num * ((a.den : Nat) : Int))))]) rfl rfl Tryz.call89) (fun β w hw => iCmp_ok (a.num * ((b.den : Nat) : Int)) (b.num * ((a.den : Nat) : Int)) (by first | omega | (simp only [Int.natAbs_neg, mkI_natAbs, Int.natAbs_natCast]; omega)) (by first | omega | (simp only [Int.natAbs_neg, mkI_natAbs, Int.natAbs_natCast]; omega)) w)) (VcAll.nil)))))))))))) (fun β => ?_)
    refine OkLH.sub (F' := [(2, (pP b1 0)), (3, (pP b2 0)), (4, (vI 0)), (25, (vI (((a.num * ((b.den : Nat) : Int)) - (b.num * ((a.den : Nat) : Int))).sign)))]) (L' := [blk b2 36 (fracL b), blk b1 36 (fracL a)]) (sF rfl) (List.Sublist.refl _) ?_
    refine OkLH.step (v := (vI (((a.num * ((b.den : Nat) : Int)) - (b.num * ((a.den : Nat) : Int))).sign))) (List.Sublist.refl _) (wt_none rfl) (ex_assign rfl) rfl (leB rfl) ?_
    refine OkLH.nil ?_
    refine OkQ.subF (sC 2 rfl (sC 3 rfl (sC 4 rfl (sN)))) ?_
    refine OkQ.then_ ?_
    refine OkC.ret ?_
    exact ret_one rfl (rd_tmp (v := (vI (((a.num * ((b.den : Nat) : Int)) - (b.num * ((a.den : Nat) : Int))).sign))) rfl) (fun w hw => ⟨by rw [he], hw.out⟩)

theorem fAdd_ok (a b : Rat) (hs : Sz a + Sz b ≤ 549755813888) (w : World)  : Calls Tryz.prog 41 #[(aG (fracL a)), (aG (fracL b))] w (Gives w (aG (fracL (a + b)))) := by
  have s1 := Sz_num a
  have s2 := Sz_den a
  have s3 := Sz_num b
  have s4 := Sz_den b
  have s5 := cross_nw a b
  have s6 := cross_nw b a
  have s7 := den_nw a b
  have s8 := num_nw a b
  have s9 := nwI_add a.num b.num
  have s10 := nwI_add (a.num * ((b.den : Nat) : Int)) (b.num * ((a.den : Nat) : Int))
  have hda := a.den_nz
  have hdb := b.den_nz
  have hdab : a.den * b.den ≠ 0 := Nat.mul_ne_zero hda hdb
  refine calls_of (args := [(aG (fracL a)), (aG (fracL b))]) Tryz.func41 rfl rfl (leB rfl) ?_
  refine OkC.subF (sC 0 rfl (sC 1 rfl (sN))) ?_
  refine q4 ?_
  refine OkL.open_ (T := 36) (cs := fracL a) (wt_none rfl) (op_box (cs := fracL a) rfl rfl) rfl (leB rfl) ?_; intro b1
  refine OkL.open_ (T := 36) (cs := fracL b) (wt_none rfl) (op_box (cs := fracL b) rfl rfl) rfl (leB rfl) ?_; intro b2
  refine OkL.open_ (T := 36) (cs := fracL (0 : Rat)) (wt_none rfl) (op_alloc (cs := fracL (0 : Rat)) Tryz.zeroValue36 rfl) rfl (leB rfl) ?_; intro b3
  refine q6 (sC 2 rfl (sC 3 rfl (sC 4 rfl (sN)))) ?_
  refine OkC.block ?_
  refine q4 ?_
  refine st (ex_load_agg (i := 2) (vs := fracL a) rfl rfl Tryz.isAgg36 Tryz.sizeOf36 rfl rfl) (leB rfl) ?_
  refine OkL.call (v := (Value.bool (decide (a.den - 1 = 0)))) (wt_none rfl) (op_call0 (args := [(aG (fracL a))]) rfl rfl Tryz.call80) (fun w hw => Whole_ok a w) rfl (leB rfl) ?_
  refine st (ex_move rfl) (leB rfl) ?_
  refine OkL.mid (FM := [(2, (pP b1 0)), (3, (pP b2 0)), (4, (pP b3 0)), (6, (aG (fracL a))), (7, (Value.bool (decide (a.den - 1 = 0)))), (8, (Value.bool (decide (a.den - 1 = 0)))), (11, (Value.bool ((decide (a.den - 1 = 0)) && (decide (b.den - 1 = 0)))))]) (LM := [blk b3 36 (fracL (0 : Rat)), blk b2 36 (fracL b), blk b1 36 (fracL a)]) 3 ?_ ?_
  · rcases Bool.eq_false_or_eq_true (decide (a.den - 1 = 0)) with hg1 | hg1
    · skip
      refine OkL.retell (k := 8) (u := Value.bool true) rfl (by rw [hg1]) ?_
      have hg1' := hg1
      replace hg1' := of_decide_eq_true hg1'
      refine OkL.step (v := (aG (fracL b))) (wt_some rfl rfl rfl) (ex_load_agg (i := 1) (vs := fracL b) rfl rfl Tryz.isAgg36 Tryz.sizeOf36 rfl rfl) rfl (leB rfl) ?_
      refine OkL.call (v := (Value.bool (decide (b.den - 1 = 0)))) (wt_some rfl rfl rfl) (op_call0 (args := [(aG (fracL b))]) rfl rfl Tryz.call80) (fun w hw => Whole_ok b w) rfl (leB rfl) ?_
      refine st (v := (Value.bool (decide (b.den - 1 = 0)))) (ex_pick_true rfl rfl) (leB rfl) ?_
      refine OkL.nil ?_
      exact OkQ.mid (sS rfl (sS rfl (sS rfl (sS rfl (sS rfl (sS (by first | rfl | (rw [hg1]; rfl) | rw [hg1]) (sS (by first | rfl | (rw [hg1]; rfl) | rw [hg1]) (sN)))))))) (List.Sublist.refl _)
    · skip
      refine OkL.retell (k := 8) (u := Value.bool false) rfl (by rw [hg1]) ?_
      have hg1' := hg1
      replace hg1' := of_decide_eq_false hg1'
      refine OkL.skip (wt_not rfl rfl rfl) rfl (leB rfl) ?_
      refine OkL.skip (wt_not rfl rfl rfl) rfl (leB rfl) ?_
      refine st (v := (Value.bool false)) (ex_pick_false rfl rfl) (leB rfl) ?_
      refine OkL.nil ?_
      exact OkQ.mid (sS rfl (sS rfl (sS rfl (sS rfl (sS rfl (sS (by first | rfl | (rw [hg1]; rfl) | rw [hg1]) (sS (by first | rfl | (rw [hg1]; rfl) | rw [hg1]) (sN)))))))) (List.Sublist.refl _)
  refine st (ex_assign rfl) (leB rfl) ?_
  refine OkL.nil ?_
  refine OkQ.subF (sC 2 rfl (sC 3 rfl (sC 4 rfl (sC 5 rfl (sN))))) ?_
  refine OkQ.then_ ?_
  refine OkC.cond rfl (fun hc0 => ?_) (fun hc0 => ?_)
  · simp only [Bool.and_eq_true, Bool.or_eq_true, Bool.and_eq_false_iff, Bool.or_eq_false_iff, Bool.not_eq_true', Bool.not_eq_false', decide_eq_true_eq, decide_eq_false_iff_not] at hc0
    have he := add_whole hc0.1 hc0.2
    refine q4 ?_
    refine st (v := (pP b1 0)) (ex_fieldAddr rfl Tryz.underlying36 rfl Tryz.sizeOf34 rfl) (leB rfl) ?_
    refine st (ex_load_agg (i := 2) (vs := intL a.num) rfl rfl Tryz.isAgg34 Tryz.sizeOf34 rfl rfl) (leB rfl) ?_
    refine st (v := (pP b2 0)) (ex_fieldAddr rfl Tryz.underlying36 rfl Tryz.sizeOf34 rfl) (leB rfl) ?_
    refine st (ex_load_agg (i := 1) (vs := intL b.num) rfl rfl Tryz.isAgg34 Tryz.sizeOf34 rfl rfl) (leB rfl) ?_
    refine OkL.call (v := (aG (intL (a.num + b.num)))) (wt_none rfl) (op_call0 (args := [(aG (intL a.num)), (aG (intL b.num))]) rfl rfl Tryz.call86) (fun w hw => iAdd_ok a.num b.num (by first | omega | (simp only [Int.natAbs_neg, mkI_natAbs, Int.natAbs_natCast]; omega)) (by first | omega | (simp only [Int.natAbs_neg, mkI_natAbs, Int.natAbs_natCast]; omega)) w) rfl (leB rfl) ?_
    refine OkL.call (v := (aG (fracL ((a.num + b.num : Int) : Rat)))) (wt_none rfl) (op_call0 (args := [(aG (intL (a.num + b.num)))]) rfl rfl Tryz.call81) (fun w hw => whole_ok (a.num + b.num) w) rfl (leB rfl) ?_
    refine OkL.store' (i := 0) (off := 0) (vs := fracL ((a.num + b.num : Int) : Rat)) (cs' := fracL ((a.num + b.num : Int) : Rat)) (L' := [blk b3 36 (fracL ((a.num + b.num : Int) : Rat)), blk b2 36 (fracL b), blk b1 36 (fracL a)]) (wt_none rfl) rfl rfl rfl rfl rfl Tryz.sizeOf36 rfl rfl rfl rfl ?_
    refine OkL.nil ?_
    refine OkQ.subF (sC 2 rfl (sC 3 rfl (sC 4 rfl (sN)))) ?_
    refine OkQ.then_ ?_
    refine OkC.ret ?_
    refine OkQ.in_ret ?_
    refine OkQ.then_ret ?_
    exact ret_one rfl (rd_agg (i := 0) (cs := fracL ((a.num + b.num : Int) : Rat)) rfl rfl Tryz.isAgg36 Tryz.sizeOf36 rfl) (fun w hw => ⟨by rw [he], hw.out⟩)
  · simp only [Bool.and_eq_true, Bool.or_eq_true, Bool.and_eq_false_iff, Bool.or_eq_false_iff, Bool.not_eq_true', Bool.not_eq_false', decide_eq_true_eq, decide_eq_false_iff_not] at hc0
    have he := add_mkRat a b
    refine q4 ?_
    refine st (v := (pP b1 3)) (ex_fieldAddr rfl Tryz.underlying36 rfl Tryz.sizeOf30 rfl) (leB rfl) ?_
    refine st (ex_load_agg (i := 2) (vs := natL (a.den - 1)) rfl rfl Tryz.isAgg30 Tryz.sizeOf30 rfl rfl) (leB rfl) ?_
    refine st (v := (pP b2 3)) (ex_fieldAddr rfl Tryz.underlying36 rfl Tryz.sizeOf30 rfl) (leB rfl) ?_
    refine st (ex_load_agg (i := 1) (vs := natL (b.den - 1)) rfl rfl Tryz.isAgg30 Tryz.sizeOf30 rfl rfl) (leB rfl) ?_
    refine st (ex_eql_agg (c := (decide (a.den - 1 = b.den - 1))) rfl rfl Tryz.eqGuardType30 (eqB_nat 9998 (a.den - 1) (b.den - 1))) (leB rfl) ?_
    refine st (ex_assign rfl) (leB rfl) ?_
    refine OkL.nil ?_
    refine OkQ.subF (sC 2 rfl (sC 3 rfl (sC 4 rfl (sC 18 rfl (sN))))) ?_
    refine OkQ.then_ ?_
    refine OkC.cond rfl (fun hc1 => ?_) (fun hc1 => ?_)
    · replace hc1 := of_decide_eq_true hc1
      have he := add_same hc1
      refine OkC.seq ?_
      refine dR (specs := [⟨.pure, fun _ => (pP b1 0), [], 0, []⟩, ⟨.held, fun _ => (aG (intL a.num)), [], 0, []⟩, ⟨.pure, fun _ => (pP b2 0), [], 0, []⟩, ⟨.held, fun _ => (aG (intL b.num)), [], 0, []⟩, ⟨.call, fun _ => (aG (intL (a.num + b.num))), [], 0, []⟩, ⟨.held, fun _ => (aG (fracL a)), [], 0, []⟩, ⟨.call, fun _ => (aG (natL a.den)), [], 0, []⟩, ⟨.call, fun _ => (aG (fracL (mkRat (a.num + b.num) a.den))), [], 0, []⟩]) (Lro := [blk b2 36 (fracL b), blk b1 36 (fracL a)]) (List.Sublist.cons _ (List.Sublist.refl _)) (dC (dC (dC (dC (dC (dC (dC (dC (dN))))))))) (by kernel_rfl) (by kernel_rfl) (fun _ _ d _ _ h => by cases d <;> exact h) (vC (vc_pure0 (G := fun β => [(2, (pP b1 0))]) (fun β => sF (by kernel_rfl)) (fun β _ => ex_fieldAddr rfl Tryz.underlying36 rfl Tryz.sizeOf34 rfl)) (vC (vc_held0 (G := fun β => [(24, (pP b1 0))]) (fun β => sF (by kernel_rfl)) (fun β => ex_load_agg (i := 1) (vs := intL a.num) rfl rfl Tryz.isAgg34 Tryz.sizeOf34 rfl rfl)) (vC (vc_pure0 (G := fun β => [(3, (pP b2 0))]) (fun β => sF (by kernel_rfl)) (fun β _ => ex_fieldAddr rfl Tryz.underlying36 rfl Tryz.sizeOf34 rfl)) (vC (vc_held0 (G := fun β => [(26, (pP b2 0))]) (fun β => sF (by kernel_rfl)) (fun β => ex_load_agg (i := 0) (vs := intL b.num) rfl rfl Tryz.isAgg34 Tryz.sizeOf34 rfl rfl)) (vC (vc_call0 (G := fun β => [(25, (aG (intL a.num))), (27, (aG (intL b.num)))]) (fun β => sF (by kernel_rfl)) (fun β => op_call0 (args := [(aG (intL a.num)), (aG (intL b.num))]) rfl rfl Tryz.call86) (fun β w hw => iAdd_ok a.num b.num (by first | omega | (simp only [Int.natAbs_neg, mkI_natAbs, Int.natAbs_natCast]; omega)) (by first | omega | (simp only [Int.natAbs_neg, mkI_natAbs, Int.natAbs_natCast]; omega)) w)) (vC (vc_held0 (G := fun β => [(2, (pP b1 0))]) (fun β => sF (by kernel_rfl)) (fun β => ex_load_agg (i := 1) (vs := fracL a) rfl rfl Tryz.isAgg36 Tryz.sizeOf36 rfl rfl)) (vC (vc_call0 (G := fun β => [(29, (aG (fracL a)))]) (fun β => sF (by kernel_rfl)) (fun β => op_call0 (args := [(aG (fracL a))]) rfl rfl Tryz.call85) (fun β w hw => den_ok a (by omega) w)) (vC (vc_call0 (G := fun β => [(28, (aG (intL (a.num + b.num)))), (30, (aG (natL a.den)))]) (fun β => sF (by kernel_rfl)) (fun β => op_call0 (args := [(aG (intL (a.num + b.num))), (aG (natL a.den))]) rfl rfl Tryz.call83) (fun β w hw => lowest_ok (a.num + b.num) a.den (by omega) (by omega) (by first | omega | assumption) w)) (VcAll.nil))))))))) (fun β => ?_)
      refine OkLH.sub (F' := [(2, (pP b1 0)), (3, (pP b2 0)), (4, (pP b3 0)), (31, (aG (fracL (mkRat (a.num + b.num) a.den))))]) (L' := [blk b3 36 (fracL (0 : Rat)), blk b2 36 (fracL b), blk b1 36 (fracL a)]) (sF rfl) (List.Sublist.refl _) ?_
      refine OkLH.store' (i := 0) (off := 0) (vs := fracL (mkRat (a.num + b.num) a.den)) (cs' := fracL (mkRat (a.num + b.num) a.den)) (L' := [blk b3 36 (fracL (mkRat (a.num + b.num) a.den)), blk b2 36 (fracL b), blk b1 36 (fracL a)]) (List.Sublist.cons _ (List.Sublist.refl _)) (wt_none rfl) rfl rfl rfl rfl rfl Tryz.sizeOf36 rfl rfl rfl rfl ?_
      refine OkLH.nil ?_
      refine OkQ.subF (sC 2 rfl (sC 3 rfl (sC 4 rfl (sN)))) ?_
      refine OkQ.then_ ?_
      refine OkC.ret ?_
      refine OkQ.in_ret ?_
      refine OkQ.then_ret ?_
      exact ret_one rfl (rd_agg (i := 0) (cs := fracL (mkRat (a.num + b.num) a.den)) rfl rfl Tryz.isAgg36 Tryz.sizeOf36 rfl) (fun w hw => ⟨by rw [he], hw.out⟩)
    · replace hc1 := of_decide_eq_false hc1
      refine OkC.skip ?_
      refine OkQ.in_normal ?_
      refine q1 ?_
      refine dR (specs := [⟨.pure, fun _ => (pP b1 0), [], 0, []⟩, ⟨.held, fun _ => (aG (intL a.num)), [], 0, []⟩, ⟨.held, fun _ => (aG (fracL b)), [], 0, []⟩, ⟨.call, fun _ => (aG (intL ((b.den : Nat) : Int))), [], 0, []⟩, ⟨.call, fun _ => (aG (intL (a.num * ((b.den : Nat) : Int)))), [], 0, []⟩, ⟨.pure, fun _ => (pP b2 0), [], 0, []⟩, ⟨.held, fun _ => (aG (intL b.num)), [], 0, []⟩, ⟨.held, fun _ => (aG (fracL a)), [], 0, []⟩, ⟨.call, fun _ => (aG (intL ((a.den : Nat) : Int))), [], 0, []⟩, ⟨.call, fun _ => (aG (intL (b.num * ((a.den : Nat) : Int)))), [], 0, []⟩, ⟨.call, fun _ => (aG (intL ((a.num * ((b.den : Nat) : Int)) + (b.num * ((a.den : Nat) : Int))))), [], 0, []⟩, ⟨.held, fun _ => (aG (fracL a)), [], 0, []⟩, ⟨.call, fun _ => (aG (natL a.den)), [], 0, []⟩, ⟨.held, fun _ => (aG (fracL b)), [], 0, []⟩, ⟨.call, fun _ => (aG (natL b.den)), [], 0, []⟩, ⟨.call, fun _ => (aG (natL (a.den * b.den))), [], 0, []⟩, ⟨.call, fun _ => (aG (fracL (mkRat ((a.num * ((b.den : Nat) : Int)) + (b.num * ((a.den : Nat) : Int))) (a.den * b.den)))), [], 0, []⟩]) (Lro := [blk b2 36 (fracL b), blk b1 36 (fracL a)]) (List.Sublist.cons _ (List.Sublist.refl _)) (dC (dC (dC (dC (dC (dC (dC (dC (dC (dC (dC (dC (dC (dC (dC (dC (dC (dN)))))))))))))))))) (by kernel_rfl) (by kernel_rfl) (fun _ _ d _ _ h => by cases d <;> exact h) (vC (vc_pure0 (G := fun β => [(2, (pP b1 0))]) (fun β => sF (by kernel_rfl)) (fun β _ => ex_fieldAddr rfl Tryz.underlying36 rfl Tryz.sizeOf34 rfl)) (vC (vc_held0 (G := fun β => [(32, (pP b1 0))]) (fun β => sF (by kernel_rfl)) (fun β => ex_load_agg (i := 1) (vs := intL a.num) rfl rfl Tryz.isAgg34 Tryz.sizeOf34 rfl rfl)) (vC (vc_held0 (G := fun β => [(3, (pP b2 0))]) (fun β => sF (by kernel_rfl)) (fun β => ex_load_agg (i := 0) (vs := fracL b) rfl rfl Tryz.isAgg36 Tryz.sizeOf36 rfl rfl)) (vC (vc_call0 (G := fun β => [(34, (aG (fracL b)))]) (fun β => sF (by kernel_rfl)) (fun β => op_call0 (args := [(aG (fracL b))]) rfl rfl Tryz.call87) (fun β w hw => signed_ok b (by omega) w)) (vC (vc_call0 (G := fun β => [(33, (aG (intL a.num))), (35, (aG (intL ((b.den : Nat) : Int))))]) (fun β => sF (by kernel_rfl)) (fun β => op_call0 (args := [(aG (intL a.num)), (aG (intL ((b.den : Nat) : Int)))]) rfl rfl Tryz.call82) (fun β w hw => iMul_ok a.num ((b.den : Nat) : Int) (by first | omega | (simp only [Int.natAbs_neg, mkI_natAbs, Int.natAbs_natCast]; omega)) (by first | omega | (simp only [Int.natAbs_neg, mkI_natAbs, Int.natAbs_natCast]; omega)) w)) (vC (vc_pure0 (G := fun β => [(3, (pP b2 0))]) (fun β => sF (by kernel_rfl)) (fun β _ => ex_fieldAddr rfl Tryz.underlying36 rfl Tryz.sizeOf34 rfl)) (vC (vc_held0 (G := fun β => [(37, (pP b2 0))]) (fun β => sF (by kernel_rfl)) (fun β => ex_load_agg (i := 0) (vs := intL b.num) rfl rfl Tryz.isAgg34 Tryz.sizeOf34 rfl rfl)) (vC (vc_held0 (G := fun β => [(2, (pP b1 0))]) (fun β => sF (by kernel_rfl)) (fun β => ex_load_agg (i := 1) (vs := fracL a) rfl rfl Tryz.isAgg36 Tryz.sizeOf36 rfl rfl)) (vC (vc_call0 (G := fun β => [(39, (aG (fracL a)))]) (fun β => sF (by kernel_rfl)) (fun β => op_call0 (args := [(aG (fracL a))]) rfl rfl Tryz.call87) (fun β w hw => signed_ok a (by omega) w)) (vC (vc_call0 (G := fun β => [(38, (aG (intL b.num))), (40, (aG (intL ((a.den : Nat) : Int))))]) (fun β => sF (by kernel_rfl)) (fun β => op_call0 (args := [(aG (intL b.num)), (aG (intL ((a.den : Nat) : Int)))]) rfl rfl Tryz.call82) (fun β w hw => iMul_ok b.num ((a.den : Nat) : Int) (by first | omega | (simp only [Int.natAbs_neg, mkI_natAbs, Int.natAbs_natCast]; omega)) (by first | omega | (simp only [Int.natAbs_neg, mkI_natAbs, Int.natAbs_natCast]; omega)) w)) (vC (vc_call0 (G := fun β => [(36, (aG (intL (a.num * ((b.den : Nat) : Int))))), (41, (aG (intL (b.num * ((a.den : Nat) : Int)))))]) (fun β => sF (by kernel_rfl)) (fun β => op_call0 (args := [(aG (intL (a.num * ((b.den : Nat) : Int)))), (aG (intL (b.num * ((a.den : Nat) : Int))))]) rfl rfl Tryz.call86) (fun β w hw => iAdd_ok (a.num * ((b.den : Nat) : Int)) (b.num * ((a.den : Nat) : Int)) (by first | omega | (simp only [Int.natAbs_neg, mkI_natAbs, Int.natAbs_natCast]; omega)) (by first | omega | (simp only [Int.natAbs_neg, mkI_natAbs, Int.natAbs_natCast]; omega)) w)) (vC (vc_held0 (G := fun β => [(2, (pP b1 0))]) (fun β => sF (by kernel_rfl)) (fun β => ex_load_agg (i := 1) (vs := fracL a) rfl rfl Tryz.isAgg36 Tryz.sizeOf36 rfl rfl)) (vC (vc_call0 (G := fun β => [(43, (aG (fracL a)))]) (fun β => sF (by kernel_rfl)) (fun β => op_call0 (args := [(aG (fracL a))]) rfl rfl Tryz.call85) (fun β w hw => den_ok a (by omega) w)) (vC (vc_held0 (G := fun β => [(3, (pP b2 0))]) (fun β => sF (by kernel_rfl)) (fun β => ex_load_agg (i := 0) (vs := fracL b) rfl rfl Tryz.isAgg36 Tryz.sizeOf36 rfl rfl)) (vC (vc_call0 (G := fun β => [(45, (aG (fracL b)))]) (fun β => sF (by kernel_rfl)) (fun β => op_call0 (args := [(aG (fracL b))]) rfl rfl Tryz.call85) (fun β w hw => den_ok b (by omega) w)) (vC (vc_call0 (G := fun β => [(44, (aG (natL a.den))), (46, (aG (natL b.den)))]) (fun β => sF (by kernel_rfl)) (fun β => op_call0 (args := [(aG (natL a.den)), (aG (natL b.den))]) rfl rfl Tryz.call84) (fun β w hw => Mul_ok a.den b.den (by omega) (by omega) w)) (vC (vc_call0 (G := fun β => [(42, (aG (intL ((a.num * ((b.den : Nat) : Int)) + (b.num * ((a.den : Nat) : Int)))))), (47, (aG (natL (a.den * b.den))))]) (fun β => sF (by kernel_rfl)) (fun β => op_call0 (args := [(aG (intL ((a.num * ((b.den : Nat) : Int)) + (b.num * ((a.den : Nat) : Int))))), (aG (natL (a.den * b.den)))]) rfl rfl Tryz.call83) (fun β w hw => lowest_ok ((a.num * ((b.den : Nat) : Int)) + (b.num * ((a.den : Nat) : Int))) (a.den * b.den) (by omega) (by omega) (by first | omega | assumption) w)) (VcAll.nil)))))))))))))))))) (fun β => ?_)
      refine OkLH.sub (F' := [(2, (pP b1 0)), (3, (pP b2 0)), (4, (pP b3 0)), (48, (aG (fracL (mkRat ((a.num * ((b.den : Nat) : Int)) + (b.num * ((a.den : Nat) : Int))) (a.den * b.den)))))]) (L' := [blk b3 36 (fracL (0 : Rat)), blk b2 36 (fracL b), blk b1 36 (fracL a)]) (sF rfl) (List.Sublist.refl _) ?_
      refine OkLH.store' (i := 0) (off := 0) (vs := fracL (mkRat ((a.num * ((b.den : Nat) : Int)) + (b.num * ((a.den : Nat) : Int))) (a.den * b.den))) (cs' := fracL (mkRat ((a.num * ((b.den : Nat) : Int)) + (b.num * ((a.den : Nat) : Int))) (a.den * b.den))) (L' := [blk b3 36 (fracL (mkRat ((a.num * ((b.den : Nat) : Int)) + (b.num * ((a.den : Nat) : Int))) (a.den * b.den))), blk b2 36 (fracL b), blk b1 36 (fracL a)]) (List.Sublist.cons _ (List.Sublist.refl _)) (wt_none rfl) rfl rfl rfl rfl rfl Tryz.sizeOf36 rfl rfl rfl rfl ?_
      refine OkLH.nil ?_
      refine OkQ.subF (sC 2 rfl (sC 3 rfl (sC 4 rfl (sN)))) ?_
      refine OkQ.then_ ?_
      refine OkC.ret ?_
      exact ret_one rfl (rd_agg (i := 0) (cs := fracL (mkRat ((a.num * ((b.den : Nat) : Int)) + (b.num * ((a.den : Nat) : Int))) (a.den * b.den))) rfl rfl Tryz.isAgg36 Tryz.sizeOf36 rfl) (fun w hw => ⟨by rw [he], hw.out⟩)

theorem fSub_ok (a b : Rat) (hs : Sz a + Sz b ≤ 549755813888) (w : World)  : Calls Tryz.prog 39 #[(aG (fracL a)), (aG (fracL b))] w (Gives w (aG (fracL (a - b)))) := by
  refine calls_of (args := [(aG (fracL a)), (aG (fracL b))]) Tryz.func39 rfl rfl (leB rfl) ?_
  refine OkC.subF (sC 0 rfl (sC 1 rfl (sN))) ?_
  refine q4 ?_
  refine OkL.open_ (T := 36) (cs := fracL a) (wt_none rfl) (op_box (cs := fracL a) rfl rfl) rfl (leB rfl) ?_; intro b1
  refine OkL.open_ (T := 36) (cs := fracL b) (wt_none rfl) (op_box (cs := fracL b) rfl rfl) rfl (leB rfl) ?_; intro b2
  refine OkL.open_ (T := 36) (cs := fracL (0 : Rat)) (wt_none rfl) (op_alloc (cs := fracL (0 : Rat)) Tryz.zeroValue36 rfl) rfl (leB rfl) ?_; intro b3
  refine q6 (sC 2 rfl (sC 3 rfl (sC 4 rfl (sN)))) ?_
  have hz1 := Sz_add a (-b)
  refine dR (specs := [⟨.held, fun _ => (aG (fracL a)), [], 0, []⟩, ⟨.held, fun _ => (aG (fracL b)), [], 0, []⟩, ⟨.call, fun _ => (aG (fracL (-b))), [], 0, []⟩, ⟨.call, fun _ => (aG (fracL (a + (-b)))), [], 0, []⟩]) (Lro := [blk b2 36 (fracL b), blk b1 36 (fracL a)]) (List.Sublist.cons _ (List.Sublist.refl _)) (dC (dC (dC (dC (dN))))) (by kernel_rfl) (by kernel_rfl) (fun _ _ d _ _ h => by cases d <;> exact h) (vC (vc_held0 (G := fun β => [(2, (pP b1 0))]) (fun β => sF (by kernel_rfl)) (fun β => ex_load_agg (i := 1) (vs := fracL a) rfl rfl Tryz.isAgg36 Tryz.sizeOf36 rfl rfl)) (vC (vc_held0 (G := fun β => [(3, (pP b2 0))]) (fun β => sF (by kernel_rfl)) (fun β => ex_load_agg (i := 0) (vs := fracL b) rfl rfl Tryz.isAgg36 Tryz.sizeOf36 rfl rfl)) (vC (vc_call0 (G := fun β => [(6, (aG (fracL b)))]) (fun β => sF (by kernel_rfl)) (fun β => op_call0 (args := [(aG (fracL b))]) rfl rfl Tryz.call37) (fun β w hw => fNeg_ok b w)) (vC (vc_call0 (G := fun β => [(5, (aG (fracL a))), (7, (aG (fracL (-b))))]) (fun β => sF (by kernel_rfl)) (fun β => op_call0 (args := [(aG (fracL a)), (aG (fracL (-b)))]) rfl rfl Tryz.call41) (fun β w hw => fAdd_ok a (-b) (by (try simp only [Sz_neg]); omega) w)) (VcAll.nil))))) (fun β => ?_)
  refine OkLH.sub (F' := [(4, (pP b3 0)), (8, (aG (fracL (a + (-b)))))]) (L' := [blk b3 36 (fracL (0 : Rat)), blk b2 36 (fracL b), blk b1 36 (fracL a)]) (sF rfl) (List.Sublist.refl _) ?_
  refine OkLH.store' (i := 0) (off := 0) (vs := fracL (a + (-b))) (cs' := fracL (a + (-b))) (L' := [blk b3 36 (fracL (a + (-b))), blk b2 36 (fracL b), blk b1 36 (fracL a)]) (List.Sublist.cons _ (List.Sublist.refl _)) (wt_none rfl) rfl rfl rfl rfl rfl Tryz.sizeOf36 rfl rfl rfl rfl ?_
  refine OkLH.nil ?_
  refine OkQ.subF (sC 4 rfl (sN)) ?_
  refine OkQ.then_ ?_
  refine OkC.ret ?_
  exact ret_one rfl (rd_agg (i := 0) (cs := fracL (a + (-b))) rfl rfl Tryz.isAgg36 Tryz.sizeOf36 rfl) (fun w hw => ⟨by rw [Rat.sub_eq_add_neg], hw.out⟩)

theorem fMul_ok (a b : Rat) (hs : Sz a + Sz b ≤ 549755813888) (w : World)  : Calls Tryz.prog 40 #[(aG (fracL a)), (aG (fracL b))] w (Gives w (aG (fracL (a * b)))) := by
  have s1 := Sz_num a
  have s2 := Sz_den a
  have s3 := Sz_num b
  have s4 := Sz_den b
  have s5 := cross_nw a b
  have s6 := cross_nw b a
  have s7 := den_nw a b
  have s8 := num_nw a b
  have s9 := nwI_add a.num b.num
  have s10 := nwI_add (a.num * ((b.den : Nat) : Int)) (b.num * ((a.den : Nat) : Int))
  have hda := a.den_nz
  have hdb := b.den_nz
  have hdab : a.den * b.den ≠ 0 := Nat.mul_ne_zero hda hdb
  refine calls_of (args := [(aG (fracL a)), (aG (fracL b))]) Tryz.func40 rfl rfl (leB rfl) ?_
  refine OkC.subF (sC 0 rfl (sC 1 rfl (sN))) ?_
  refine q4 ?_
  refine OkL.open_ (T := 36) (cs := fracL a) (wt_none rfl) (op_box (cs := fracL a) rfl rfl) rfl (leB rfl) ?_; intro b1
  refine OkL.open_ (T := 36) (cs := fracL b) (wt_none rfl) (op_box (cs := fracL b) rfl rfl) rfl (leB rfl) ?_; intro b2
  refine OkL.open_ (T := 36) (cs := fracL (0 : Rat)) (wt_none rfl) (op_alloc (cs := fracL (0 : Rat)) Tryz.zeroValue36 rfl) rfl (leB rfl) ?_; intro b3
  refine q6 (sC 2 rfl (sC 3 rfl (sC 4 rfl (sN)))) ?_
  refine q4 ?_
  refine st (ex_load_agg (i := 2) (vs := fracL a) rfl rfl Tryz.isAgg36 Tryz.sizeOf36 rfl rfl) (leB rfl) ?_
  refine OkL.call (v := (Value.bool (decide (a.den - 1 = 0)))) (wt_none rfl) (op_call0 (args := [(aG (fracL a))]) rfl rfl Tryz.call80) (fun w hw => Whole_ok a w) rfl (leB rfl) ?_
  refine st (ex_move rfl) (leB rfl) ?_
  refine OkL.mid (FM := [(2, (pP b1 0)), (3, (pP b2 0)), (4, (pP b3 0)), (5, (aG (fracL a))), (6, (Value.bool (decide (a.den - 1 = 0)))), (7, (Value.bool (decide (a.den - 1 = 0)))), (10, (Value.bool ((decide (a.den - 1 = 0)) && (decide (b.den - 1 = 0)))))]) (LM := [blk b3 36 (fracL (0 : Rat)), blk b2 36 (fracL b), blk b1 36 (fracL a)]) 3 ?_ ?_
  · rcases Bool.eq_false_or_eq_true (decide (a.den - 1 = 0)) with hg1 | hg1
    · skip
      refine OkL.retell (k := 7) (u := Value.bool true) rfl (by rw [hg1]) ?_
      have hg1' := hg1
      replace hg1' := of_decide_eq_true hg1'
      refine OkL.step (v := (aG (fracL b))) (wt_some rfl rfl rfl) (ex_load_agg (i := 1) (vs := fracL b) rfl rfl Tryz.isAgg36 Tryz.sizeOf36 rfl rfl) rfl (leB rfl) ?_
      refine OkL.call (v := (Value.bool (decide (b.den - 1 = 0)))) (wt_some rfl rfl rfl) (op_call0 (args := [(aG (fracL b))]) rfl rfl Tryz.call80) (fun w hw => Whole_ok b w) rfl (leB rfl) ?_
      refine st (v := (Value.bool (decide (b.den - 1 = 0)))) (ex_pick_true rfl rfl) (leB rfl) ?_
      refine OkL.nil ?_
      exact OkQ.mid (sS rfl (sS rfl (sS rfl (sS rfl (sS rfl (sS (by first | rfl | (rw [hg1]; rfl) | rw [hg1]) (sS (by first | rfl | (rw [hg1]; rfl) | rw [hg1]) (sN)))))))) (List.Sublist.refl _)
    · skip
      refine OkL.retell (k := 7) (u := Value.bool false) rfl (by rw [hg1]) ?_
      have hg1' := hg1
      replace hg1' := of_decide_eq_false hg1'
      refine OkL.skip (wt_not rfl rfl rfl) rfl (leB rfl) ?_
      refine OkL.skip (wt_not rfl rfl rfl) rfl (leB rfl) ?_
      refine st (v := (Value.bool false)) (ex_pick_false rfl rfl) (leB rfl) ?_
      refine OkL.nil ?_
      exact OkQ.mid (sS rfl (sS rfl (sS rfl (sS rfl (sS rfl (sS (by first | rfl | (rw [hg1]; rfl) | rw [hg1]) (sS (by first | rfl | (rw [hg1]; rfl) | rw [hg1]) (sN)))))))) (List.Sublist.refl _)
  refine OkL.nil ?_
  refine OkQ.subF (sC 2 rfl (sC 3 rfl (sC 4 rfl (sC 10 rfl (sN))))) ?_
  refine OkQ.then_ ?_
  refine OkC.cond rfl (fun hc0 => ?_) (fun hc0 => ?_)
  · simp only [Bool.and_eq_true, Bool.or_eq_true, Bool.and_eq_false_iff, Bool.or_eq_false_iff, Bool.not_eq_true', Bool.not_eq_false', decide_eq_true_eq, decide_eq_false_iff_not] at hc0
    have he := mul_whole hc0.1 hc0.2
    refine q4 ?_
    refine st (v := (pP b1 0)) (ex_fieldAddr rfl Tryz.underlying36 rfl Tryz.sizeOf34 rfl) (leB rfl) ?_
    refine st (ex_load_agg (i := 2) (vs := intL a.num) rfl rfl Tryz.isAgg34 Tryz.sizeOf34 rfl rfl) (leB rfl) ?_
    refine st (v := (pP b2 0)) (ex_fieldAddr rfl Tryz.underlying36 rfl Tryz.sizeOf34 rfl) (leB rfl) ?_
    refine st (ex_load_agg (i := 1) (vs := intL b.num) rfl rfl Tryz.isAgg34 Tryz.sizeOf34 rfl rfl) (leB rfl) ?_
    refine OkL.call (v := (aG (intL (a.num * b.num)))) (wt_none rfl) (op_call0 (args := [(aG (intL a.num)), (aG (intL b.num))]) rfl rfl Tryz.call82) (fun w hw => iMul_ok a.num b.num (by first | omega | (simp only [Int.natAbs_neg, mkI_natAbs, Int.natAbs_natCast]; omega)) (by first | omega | (simp only [Int.natAbs_neg, mkI_natAbs, Int.natAbs_natCast]; omega)) w) rfl (leB rfl) ?_
    refine OkL.call (v := (aG (fracL ((a.num * b.num : Int) : Rat)))) (wt_none rfl) (op_call0 (args := [(aG (intL (a.num * b.num)))]) rfl rfl Tryz.call81) (fun w hw => whole_ok (a.num * b.num) w) rfl (leB rfl) ?_
    refine OkL.store' (i := 0) (off := 0) (vs := fracL ((a.num * b.num : Int) : Rat)) (cs' := fracL ((a.num * b.num : Int) : Rat)) (L' := [blk b3 36 (fracL ((a.num * b.num : Int) : Rat)), blk b2 36 (fracL b), blk b1 36 (fracL a)]) (wt_none rfl) rfl rfl rfl rfl rfl Tryz.sizeOf36 rfl rfl rfl rfl ?_
    refine OkL.nil ?_
    refine OkQ.subF (sC 2 rfl (sC 3 rfl (sC 4 rfl (sN)))) ?_
    refine OkQ.then_ ?_
    refine OkC.ret ?_
    refine OkQ.then_ret ?_
    exact ret_one rfl (rd_agg (i := 0) (cs := fracL ((a.num * b.num : Int) : Rat)) rfl rfl Tryz.isAgg36 Tryz.sizeOf36 rfl) (fun w hw => ⟨by rw [he], hw.out⟩)
  · simp only [Bool.and_eq_true, Bool.or_eq_true, Bool.and_eq_false_iff, Bool.or_eq_false_iff, Bool.not_eq_true', Bool.not_eq_false', decide_eq_true_eq, decide_eq_false_iff_not] at hc0
    have he := mul_mkRat a b
    refine OkC.skip ?_
    refine q1 ?_
    refine dR (specs := [⟨.pure, fun _ => (pP b1 0), [], 0, []⟩, ⟨.held, fun _ => (aG (intL a.num)), [], 0, []⟩, ⟨.pure, fun _ => (pP b2 0), [], 0, []⟩, ⟨.held, fun _ => (aG (intL b.num)), [], 0, []⟩, ⟨.call, fun _ => (aG (intL (a.num * b.num))), [], 0, []⟩, ⟨.held, fun _ => (aG (fracL a)), [], 0, []⟩, ⟨.call, fun _ => (aG (natL a.den)), [], 0, []⟩, ⟨.held, fun _ => (aG (fracL b)), [], 0, []⟩, ⟨.call, fun _ => (aG (natL b.den)), [], 0, []⟩, ⟨.call, fun _ => (aG (natL (a.den * b.den))), [], 0, []⟩, ⟨.call, fun _ => (aG (fracL (mkRat (a.num * b.num) (a.den * b.den)))), [], 0, []⟩]) (Lro := [blk b2 36 (fracL b), blk b1 36 (fracL a)]) (List.Sublist.cons _ (List.Sublist.refl _)) (dC (dC (dC (dC (dC (dC (dC (dC (dC (dC (dC (dN)))))))))))) (by kernel_rfl) (by kernel_rfl) (fun _ _ d _ _ h => by cases d <;> exact h) (vC (vc_pure0 (G := fun β => [(2, (pP b1 0))]) (fun β => sF (by kernel_rfl)) (fun β _ => ex_fieldAddr rfl Tryz.underlying36 rfl Tryz.sizeOf34 rfl)) (vC (vc_held0 (G := fun β => [(17, (pP b1 0))]) (fun β => sF (by kernel_rfl)) (fun β => ex_load_agg (i := 1) (vs := intL a.num) rfl rfl Tryz.isAgg34 Tryz.sizeOf34 rfl rfl)) (vC (vc_pure0 (G := fun β => [(3, (pP b2 0))]) (fun β => sF (by kernel_rfl)) (fun β _ => ex_fieldAddr rfl Tryz.underlying36 rfl Tryz.sizeOf34 rfl)) (vC (vc_held0 (G := fun β => [(19, (pP b2 0))]) (fun β => sF (by kernel_rfl)) (fun β => ex_load_agg (i := 0) (vs := intL b.num) rfl rfl Tryz.isAgg34 Tryz.sizeOf34 rfl rfl)) (vC (vc_call0 (G := fun β => [(18, (aG (intL a.num))), (20, (aG (intL b.num)))]) (fun β => sF (by kernel_rfl)) (fun β => op_call0 (args := [(aG (intL a.num)), (aG (intL b.num))]) rfl rfl Tryz.call82) (fun β w hw => iMul_ok a.num b.num (by first | omega | (simp only [Int.natAbs_neg, mkI_natAbs, Int.natAbs_natCast]; omega)) (by first | omega | (simp only [Int.natAbs_neg, mkI_natAbs, Int.natAbs_natCast]; omega)) w)) (vC (vc_held0 (G := fun β => [(2, (pP b1 0))]) (fun β => sF (by kernel_rfl)) (fun β => ex_load_agg (i := 1) (vs := fracL a) rfl rfl Tryz.isAgg36 Tryz.sizeOf36 rfl rfl)) (vC (vc_call0 (G := fun β => [(22, (aG (fracL a)))]) (fun β => sF (by kernel_rfl)) (fun β => op_call0 (args := [(aG (fracL a))]) rfl rfl Tryz.call85) (fun β w hw => den_ok a (by omega) w)) (vC (vc_held0 (G := fun β => [(3, (pP b2 0))]) (fun β => sF (by kernel_rfl)) (fun β => ex_load_agg (i := 0) (vs := fracL b) rfl rfl Tryz.isAgg36 Tryz.sizeOf36 rfl rfl)) (vC (vc_call0 (G := fun β => [(24, (aG (fracL b)))]) (fun β => sF (by kernel_rfl)) (fun β => op_call0 (args := [(aG (fracL b))]) rfl rfl Tryz.call85) (fun β w hw => den_ok b (by omega) w)) (vC (vc_call0 (G := fun β => [(23, (aG (natL a.den))), (25, (aG (natL b.den)))]) (fun β => sF (by kernel_rfl)) (fun β => op_call0 (args := [(aG (natL a.den)), (aG (natL b.den))]) rfl rfl Tryz.call84) (fun β w hw => Mul_ok a.den b.den (by omega) (by omega) w)) (vC (vc_call0 (G := fun β => [(21, (aG (intL (a.num * b.num)))), (26, (aG (natL (a.den * b.den))))]) (fun β => sF (by kernel_rfl)) (fun β => op_call0 (args := [(aG (intL (a.num * b.num))), (aG (natL (a.den * b.den)))]) rfl rfl Tryz.call83) (fun β w hw => lowest_ok (a.num * b.num) (a.den * b.den) (by omega) (by omega) (by first | omega | assumption) w)) (VcAll.nil)))))))))))) (fun β => ?_)
    refine OkLH.sub (F' := [(2, (pP b1 0)), (3, (pP b2 0)), (4, (pP b3 0)), (27, (aG (fracL (mkRat (a.num * b.num) (a.den * b.den)))))]) (L' := [blk b3 36 (fracL (0 : Rat)), blk b2 36 (fracL b), blk b1 36 (fracL a)]) (sF rfl) (List.Sublist.refl _) ?_
    refine OkLH.store' (i := 0) (off := 0) (vs := fracL (mkRat (a.num * b.num) (a.den * b.den))) (cs' := fracL (mkRat (a.num * b.num) (a.den * b.den))) (L' := [blk b3 36 (fracL (mkRat (a.num * b.num) (a.den * b.den))), blk b2 36 (fracL b), blk b1 36 (fracL a)]) (List.Sublist.cons _ (List.Sublist.refl _)) (wt_none rfl) rfl rfl rfl rfl rfl Tryz.sizeOf36 rfl rfl rfl rfl ?_
    refine OkLH.nil ?_
    refine OkQ.subF (sC 2 rfl (sC 3 rfl (sC 4 rfl (sN)))) ?_
    refine OkQ.then_ ?_
    refine OkC.ret ?_
    exact ret_one rfl (rd_agg (i := 0) (cs := fracL (mkRat (a.num * b.num) (a.den * b.den))) rfl rfl Tryz.isAgg36 Tryz.sizeOf36 rfl) (fun w hw => ⟨by rw [he], hw.out⟩)

theorem fDiv_ok (a b : Rat) (hs : Sz a + Sz b ≤ 549755813888) (hb : b ≠ 0) (w : World)  : Calls Tryz.prog 54 #[(aG (fracL a)), (aG (fracL b))] w (Gives w (Value.tuple #[(aG (fracL (a / b))), (vI 0)])) := by
  have s1 := Sz_num a
  have s2 := Sz_den a
  have s3 := Sz_num b
  have s4 := Sz_den b
  have s5 := cross_nw a b
  have s6 := cross_nw b a
  have s7 := den_nw a b
  have s8 := num_nw a b
  have s9 := nwI_add a.num b.num
  have s10 := nwI_add (a.num * ((b.den : Nat) : Int)) (b.num * ((a.den : Nat) : Int))
  have hda := a.den_nz
  have hdb := b.den_nz
  have hdab : a.den * b.den ≠ 0 := Nat.mul_ne_zero hda hdb
  have hbn : b.num ≠ 0 := fun e => hb (Rat.num_eq_zero.1 e)
  have hbs : b.num.sign ≠ 0 := fun e => hbn (Int.sign_eq_zero_iff_zero.1 e)
  have hmi : nw (mkI (decide (b.num.sign < (0 : Int))) b.den).natAbs = nw b.den := by rw [mkI_natAbs]
  have hinv := inv_mkRat hb
  have hsi := Sz_inv hb
  rw [← hinv] at hsi
  refine calls_of (args := [(aG (fracL a)), (aG (fracL b))]) Tryz.func54 rfl rfl (leB rfl) ?_
  refine OkC.subF (sC 0 rfl (sC 1 rfl (sN))) ?_
  refine q4 ?_
  refine OkL.open_ (T := 36) (cs := fracL a) (wt_none rfl) (op_box (cs := fracL a) rfl rfl) rfl (leB rfl) ?_; intro b1
  refine OkL.open_ (T := 36) (cs := fracL b) (wt_none rfl) (op_box (cs := fracL b) rfl rfl) rfl (leB rfl) ?_; intro b2
  refine OkL.open_ (T := 36) (cs := fracL (0 : Rat)) (wt_none rfl) (op_alloc (cs := fracL (0 : Rat)) Tryz.zeroValue36 rfl) rfl (leB rfl) ?_; intro b3
  refine st (ex_assign rfl) (leB rfl) ?_
  refine q6 (sC 2 rfl (sC 3 rfl (sC 4 rfl (sC 5 rfl (sN))))) ?_
  refine q4 ?_
  refine st (ex_load_agg (i := 1) (vs := fracL b) rfl rfl Tryz.isAgg36 Tryz.sizeOf36 rfl rfl) (leB rfl) ?_
  refine OkL.call (v := (vI b.num.sign)) (wt_none rfl) (op_call0 (args := [(aG (fracL b))]) rfl rfl Tryz.call20) (fun w hw => fSign_ok b w) rfl (leB rfl) ?_
  refine st (ex_eql (c := (decide (b.num.sign = (0 : Int)))) rfl rfl rfl) (leB rfl) ?_
  refine OkL.nil ?_
  refine OkQ.subF (sC 2 rfl (sC 3 rfl (sC 4 rfl (sC 5 rfl (sC 9 rfl (sN)))))) ?_
  refine OkQ.then_ ?_
  refine OkC.cond rfl (fun hc0 => ?_) (fun hc0 => ?_)
  · replace hc0 := of_decide_eq_true hc0
    exact absurd hc0 hbs
  · replace hc0 := of_decide_eq_false hc0
    refine OkC.skip ?_
    refine q1 ?_
    refine OkC.drawn' (specs := [⟨.held, fun _ => (aG (fracL b)), [], 0, []⟩, ⟨.call, fun _ => (vI b.num.sign), [], 0, []⟩, ⟨.pure, fun _ => (Value.bool (decide (b.num.sign < (0 : Int)))), [], 0, []⟩, ⟨.held, fun _ => (aG (fracL b)), [], 0, []⟩, ⟨.call, fun _ => (aG (natL b.den)), [], 0, []⟩, ⟨.call, fun _ => (aG (intL (mkI (decide (b.num.sign < (0 : Int))) b.den))), [], 0, []⟩, ⟨.pure, fun _ => (pP b2 0), [], 0, []⟩, ⟨.held, fun _ => (aG (intL b.num)), [], 0, []⟩, ⟨.call, fun _ => (aG (natL b.num.natAbs)), [], 0, []⟩, ⟨.call, fun _ => (aG (fracL (mkRat (mkI (decide (b.num.sign < (0 : Int))) b.den) b.num.natAbs))), [], 0, []⟩, ⟨.new, fun β => (pP (β 10) 0), [], 36, fracL (0 : Rat)⟩]) (by kernel_rfl) (fun hchk1 => ?_)
    refine dR (Lro := [blk b3 36 (fracL (0 : Rat)), blk b2 36 (fracL b), blk b1 36 (fracL a)]) (List.Sublist.refl _) (dC (dC (dC (dC (dC (dC (dC (dC (dC (dC (DepAll.block (V := fun b => (Value.pointer (some ⟨b, 0, none⟩))) (dN)))))))))))) hchk1 (by kernel_rfl) (fun _ _ d _ _ h => by cases d <;> exact h) (vC (vc_held0 (G := fun β => [(3, (pP b2 0))]) (fun β => sF (by kernel_rfl)) (fun β => ex_load_agg (i := 1) (vs := fracL b) rfl rfl Tryz.isAgg36 Tryz.sizeOf36 rfl rfl)) (vC (vc_call0 (G := fun β => [(11, (aG (fracL b)))]) (fun β => sF (by kernel_rfl)) (fun β => op_call0 (args := [(aG (fracL b))]) rfl rfl Tryz.call20) (fun β w hw => fSign_ok b w)) (vC (vc_pure0 (G := fun β => [(12, (vI b.num.sign))]) (fun β => sF (by kernel_rfl)) (fun β _ => ex_lss (c := (decide (b.num.sign < (0 : Int)))) rfl rfl rfl)) (vC (vc_held0 (G := fun β => [(3, (pP b2 0))]) (fun β => sF (by kernel_rfl)) (fun β => ex_load_agg (i := 1) (vs := fracL b) rfl rfl Tryz.isAgg36 Tryz.sizeOf36 rfl rfl)) (vC (vc_call0 (G := fun β => [(14, (aG (fracL b)))]) (fun β => sF (by kernel_rfl)) (fun β => op_call0 (args := [(aG (fracL b))]) rfl rfl Tryz.call85) (fun β w hw => den_ok b (by omega) w)) (vC (vc_call0 (G := fun β => [(13, (Value.bool (decide (b.num.sign < (0 : Int))))), (15, (aG (natL b.den)))]) (fun β => sF (by kernel_rfl)) (fun β => op_call0 (args := [(Value.bool (decide (b.num.sign < (0 : Int)))), (aG (natL b.den))]) rfl rfl Tryz.call91) (fun β w hw => From_ok (decide (b.num.sign < (0 : Int))) b.den w)) (vC (vc_pure0 (G := fun β => [(3, (pP b2 0))]) (fun β => sF (by kernel_rfl)) (fun β _ => ex_fieldAddr rfl Tryz.underlying36 rfl Tryz.sizeOf34 rfl)) (vC (vc_held0 (G := fun β => [(17, (pP b2 0))]) (fun β => sF (by kernel_rfl)) (fun β => ex_load_agg (i := 1) (vs := intL b.num) rfl rfl Tryz.isAgg34 Tryz.sizeOf34 rfl rfl)) (vC (vc_call0 (G := fun β => [(18, (aG (intL b.num)))]) (fun β => sF (by kernel_rfl)) (fun β => op_call0 (args := [(aG (intL b.num))]) rfl rfl Tryz.call92) (fun β w hw => iAbs_ok b.num w)) (vC (vc_call0 (G := fun β => [(16, (aG (intL (mkI (decide (b.num.sign < (0 : Int))) b.den)))), (19, (aG (natL b.num.natAbs)))]) (fun β => sF (by kernel_rfl)) (fun β => op_call0 (args := [(aG (intL (mkI (decide (b.num.sign < (0 : Int))) b.den))), (aG (natL b.num.natAbs))]) rfl rfl Tryz.call83) (fun β w hw => lowest_ok (mkI (decide (b.num.sign < (0 : Int))) b.den) b.num.natAbs (by omega) (by omega) (by first | omega | assumption) w)) (vC (vc_new0 (V := fun b => (Value.pointer (some ⟨b, 0, none⟩))) (j := 10) (one_place hchk1 rfl rfl rfl) (G := fun β => []) (fun β => sN) (fun β => op_alloc (cs := fracL (0 : Rat)) Tryz.zeroValue36 rfl)) (VcAll.nil)))))))))))) (fun β => ?_)
    clear hchk1
    refine OkLH.sub (F' := [(2, (pP b1 0)), (3, (pP b2 0)), (4, (pP b3 0)), (5, (vI 0)), (20, (aG (fracL (mkRat (mkI (decide (b.num.sign < (0 : Int))) b.den) b.num.natAbs)))), (6, (pP (β 10) 0))]) (L' := [blk (β 10) 36 (fracL (0 : Rat)), blk b3 36 (fracL (0 : Rat)), blk b2 36 (fracL b), blk b1 36 (fracL a)]) (sF rfl) (List.Sublist.refl _) ?_
    generalize β 10 = b4
    refine OkLH.store' (i := 0) (off := 0) (vs := fracL (mkRat (mkI (decide (b.num.sign < (0 : Int))) b.den) b.num.natAbs)) (cs' := fracL (mkRat (mkI (decide (b.num.sign < (0 : Int))) b.den) b.num.natAbs)) (L' := [blk b4 36 (fracL (mkRat (mkI (decide (b.num.sign < (0 : Int))) b.den) b.num.natAbs)), blk b3 36 (fracL (0 : Rat)), blk b2 36 (fracL b), blk b1 36 (fracL a)]) (List.Sublist.cons _ (List.Sublist.refl _)) (wt_none rfl) rfl rfl rfl rfl rfl Tryz.sizeOf36 rfl rfl rfl rfl ?_
    refine q5 (sC 2 rfl (sC 3 rfl (sC 4 rfl (sC 5 rfl (sC 6 rfl (sN)))))) ?_
    refine st (ex_load_agg (i := 3) (vs := fracL a) rfl rfl Tryz.isAgg36 Tryz.sizeOf36 rfl rfl) (leB rfl) ?_
    refine st (ex_load_agg (i := 0) (vs := fracL (mkRat (mkI (decide (b.num.sign < (0 : Int))) b.den) b.num.natAbs)) rfl rfl Tryz.isAgg36 Tryz.sizeOf36 rfl rfl) (leB rfl) ?_
    have hz1 := Sz_mul a (mkRat (mkI (decide (b.num.sign < (0 : Int))) b.den) b.num.natAbs)
    refine OkL.call (v := (aG (fracL (a * (mkRat (mkI (decide (b.num.sign < (0 : Int))) b.den) b.num.natAbs))))) (wt_none rfl) (op_call0 (args := [(aG (fracL a)), (aG (fracL (mkRat (mkI (decide (b.num.sign < (0 : Int))) b.den) b.num.natAbs)))]) rfl rfl Tryz.call40) (fun w hw => fMul_ok a (mkRat (mkI (decide (b.num.sign < (0 : Int))) b.den) b.num.natAbs) (by (try simp only [Sz_neg]); omega) w) rfl (leB rfl) ?_
    refine OkL.store' (i := 1) (off := 0) (vs := fracL (a * (mkRat (mkI (decide (b.num.sign < (0 : Int))) b.den) b.num.natAbs))) (cs' := fracL (a * (mkRat (mkI (decide (b.num.sign < (0 : Int))) b.den) b.num.natAbs))) (L' := [blk b4 36 (fracL (mkRat (mkI (decide (b.num.sign < (0 : Int))) b.den) b.num.natAbs)), blk b3 36 (fracL (a * (mkRat (mkI (decide (b.num.sign < (0 : Int))) b.den) b.num.natAbs))), blk b2 36 (fracL b), blk b1 36 (fracL a)]) (wt_none rfl) rfl rfl rfl rfl rfl Tryz.sizeOf36 rfl rfl rfl rfl ?_
    refine st (ex_assign rfl) (leB rfl) ?_
    refine OkL.nil ?_
    refine OkQ.subF (sC 3 rfl (sC 4 rfl (sC 5 rfl (sC 6 rfl (sN))))) ?_
    refine OkQ.then_ ?_
    refine OkC.ret ?_
    exact ret_two rfl (rd_agg (i := 1) (cs := fracL (a * (mkRat (mkI (decide (b.num.sign < (0 : Int))) b.den) b.num.natAbs))) rfl rfl Tryz.isAgg36 Tryz.sizeOf36 rfl) (rd_tmp (v := (vI 0)) rfl) (fun w hw => ⟨by rw [hinv, Rat.div_def], hw.out⟩)

theorem fill_numl_36_  : Instr.fill ([(0, 3), (3, 2)].toArray[·]?) (fracL (0 : Rat)).toArray [] = some (fracL (0 : Rat)).toArray := by kernel_rfl
theorem fDiv0_ok (a : Rat) (w : World)  : Calls Tryz.prog 54 #[(aG (fracL a)), (aG (fracL (0 : Rat)))] w (Gives w (Value.tuple #[(aG (fracL (0 : Rat))), (vI 5)])) := by
  refine calls_of (args := [(aG (fracL a)), (aG (fracL (0 : Rat)))]) Tryz.func54 rfl rfl (leB rfl) ?_
  refine OkC.subF (sC 0 rfl (sC 1 rfl (sN))) ?_
  refine q4 ?_
  refine OkL.open_ (T := 36) (cs := fracL a) (wt_none rfl) (op_box (cs := fracL a) rfl rfl) rfl (leB rfl) ?_; intro b1
  refine OkL.open_ (T := 36) (cs := fracL (0 : Rat)) (wt_none rfl) (op_box (cs := fracL (0 : Rat)) rfl rfl) rfl (leB rfl) ?_; intro b2
  refine OkL.open_ (T := 36) (cs := fracL (0 : Rat)) (wt_none rfl) (op_alloc (cs := fracL (0 : Rat)) Tryz.zeroValue36 rfl) rfl (leB rfl) ?_; intro b3
  refine st (ex_assign rfl) (leB rfl) ?_
  refine q6 (sC 2 rfl (sC 3 rfl (sC 4 rfl (sC 5 rfl (sN))))) ?_
  refine q4 ?_
  refine st (ex_load_agg (i := 1) (vs := fracL (0 : Rat)) rfl rfl Tryz.isAgg36 Tryz.sizeOf36 rfl rfl) (leB rfl) ?_
  refine OkL.call (v := (vI ((0 : Rat).num.sign))) (wt_none rfl) (op_call0 (args := [(aG (fracL (0 : Rat)))]) rfl rfl Tryz.call20) (fun w hw => fSign_ok (0 : Rat) w) rfl (leB rfl) ?_
  refine st (ex_eql (c := (decide (((0 : Rat).num.sign) = (0 : Int)))) rfl rfl rfl) (leB rfl) ?_
  refine OkL.nil ?_
  refine OkQ.subF (sC 2 rfl (sC 3 rfl (sC 4 rfl (sC 5 rfl (sC 9 rfl (sN)))))) ?_
  refine OkQ.then_ ?_
  refine OkC.cond rfl (fun hc0 => ?_) (fun hc0 => ?_)
  · replace hc0 := of_decide_eq_true hc0
    refine q4 ?_
    refine st (v := (aG (fracL (0 : Rat)))) (ex_build_struct (zs := fracL (0 : Rat)) (vs := fracL (0 : Rat)) (pv := []) (places := [(0, 3), (3, 2)]) Tryz.zeroValue36 Tryz.underlying36 (fun w => by simp [Tryz.sizeOf30, Tryz.sizeOf34]) rfl (fill_numl_36_ )) (leB rfl) ?_
    refine OkL.store' (i := 0) (off := 0) (vs := fracL (0 : Rat)) (cs' := fracL (0 : Rat)) (L' := [blk b3 36 (fracL (0 : Rat)), blk b2 36 (fracL (0 : Rat)), blk b1 36 (fracL a)]) (wt_none rfl) rfl rfl rfl rfl rfl Tryz.sizeOf36 rfl rfl rfl rfl ?_
    refine st (ex_assign rfl) (leB rfl) ?_
    refine OkL.nil ?_
    refine OkQ.subF (sC 2 rfl (sC 3 rfl (sC 4 rfl (sC 5 rfl (sN))))) ?_
    refine OkQ.then_ ?_
    refine OkC.ret ?_
    refine OkQ.then_ret ?_
    exact ret_two rfl (rd_agg (i := 0) (cs := fracL (0 : Rat)) rfl rfl Tryz.isAgg36 Tryz.sizeOf36 rfl) (rd_tmp (v := (vI 5)) rfl) (fun w hw => ⟨rfl, hw.out⟩)
  · replace hc0 := of_decide_eq_false hc0
    exact absurd rfl hc0

theorem fInt_ok (z : Int) (hz : -9223372036854775808 ≤ z) (hz2 : z < 9223372036854775808) (w : World)  : Calls Tryz.prog 44 #[(vI z)] w (Gives w (aG (fracL ((z : Int) : Rat)))) := by
  refine calls_of (args := [(vI z)]) Tryz.func44 rfl rfl (leB rfl) ?_
  refine OkC.subF (sC 0 rfl (sN)) ?_
  refine q4 ?_
  refine OkL.open_ (T := 36) (cs := fracL (0 : Rat)) (wt_none rfl) (op_alloc (cs := fracL (0 : Rat)) Tryz.zeroValue36 rfl) rfl (leB rfl) ?_; intro b1
  refine OkL.nil ?_
  refine q2 ?_
  refine st (ex_move rfl) (leB rfl) ?_
  refine OkL.call (v := (aG (intL z))) (wt_none rfl) (op_call0 (args := [(vI z)]) rfl rfl Tryz.call90) (fun w hw => iOf_ok z (by omega) (by omega) w) rfl (leB rfl) ?_
  refine OkL.call (v := (aG (fracL ((z : Int) : Rat)))) (wt_none rfl) (op_call0 (args := [(aG (intL z))]) rfl rfl Tryz.call81) (fun w hw => whole_ok z w) rfl (leB rfl) ?_
  refine OkL.store' (i := 0) (off := 0) (vs := fracL ((z : Int) : Rat)) (cs' := fracL ((z : Int) : Rat)) (L' := [blk b1 36 (fracL ((z : Int) : Rat))]) (wt_none rfl) rfl rfl rfl rfl rfl Tryz.sizeOf36 rfl rfl rfl rfl ?_
  refine OkL.nil ?_
  refine OkQ.subF (sC 2 rfl (sN)) ?_
  refine OkQ.then_ ?_
  refine OkC.ret ?_
  exact ret_one rfl (rd_agg (i := 0) (cs := fracL ((z : Int) : Rat)) rfl rfl Tryz.isAgg36 Tryz.sizeOf36 rfl) (fun w hw => ⟨rfl, hw.out⟩)


end Go.Proofs.YtpkoldfmbebmgaaGreatDoor
