import Derived.Test.YtmejjgmpkelaiaaGreatDoorPart05
import Derived.Test.YtmejjgmpkelaiaaGreatDoorPart23
import Derived.Test.YtmejjgmpkelaiaaGreatDoorPart36
namespace Go.Proofs.YtmejjgmpkelaiaaGreatDoor
open Go Go.RowKit
set_option linter.unusedVariables false
set_option linter.unusedSimpArgs false
section
set_option maxRecDepth 100000
theorem lz_int_1 (w : World) : Calls Tryz.prog 8 #[(vI 1)] w (Gives w (aG (fracL (1 : Rat)))) := by
 have h := fInt_ok (1 : Int) (by decide) (by decide) w
 rw [show ((1 : Int) : Rat) = (1 : Rat) from by decide +kernel] at h
 exact h
theorem lz_int_m1 (w : World) : Calls Tryz.prog 8 #[(vI (-1 : Int))] w (Gives w (aG (fracL (-1 : Rat)))) := by
 have h := fInt_ok (-1 : Int) (by decide) (by decide) w
 rw [show ((-1 : Int) : Rat) = (-1 : Rat) from by decide +kernel] at h
 exact h
theorem lz_of_2 (w : World) : Calls Tryz.prog 23 #[(vI 1), (vI 2)] w (Gives w (Value.tuple #[(aG (fracL (1 / 2 : Rat))), (vI 0)])) := by
 have h := fOf_ok (1 : Int) (2 : Int) (by decide) (by decide) (by decide) (by decide) (by decide) w
 rw [show ((1 : Int) : Rat) / ((2 : Int) : Rat) = (1 / 2 : Rat) from by decide +kernel] at h
 exact h
theorem lz_of_4 (w : World) : Calls Tryz.prog 23 #[(vI 1), (vI 4)] w (Gives w (Value.tuple #[(aG (fracL (1 / 4 : Rat))), (vI 0)])) := by
 have h := fOf_ok (1 : Int) (4 : Int) (by decide) (by decide) (by decide) (by decide) (by decide) w
 rw [show ((1 : Int) : Rat) / ((4 : Int) : Rat) = (1 / 4 : Rat) from by decide +kernel] at h
 exact h
theorem lz_sub (w : World) : Calls Tryz.prog 40 #[(aG (fracL (1 : Rat))), (aG (fracL (1 / 4 : Rat)))] w (Gives w (aG (fracL (3 / 4 : Rat)))) := by
 have h := fSub_ok (1 : Rat) (1 / 4 : Rat) (by decide +kernel) w
 rw [show (1 : Rat) - (1 / 4 : Rat) = (3 / 4 : Rat) from by decide +kernel] at h
 exact h
theorem lz_pt_0_0 (w : World) : Calls Tryz.prog 39 #[(vI 0), (vI 0)] w (Gives w (aG (ptL (⟨0, 0⟩ : Pt)))) := by
 have h := pInt_ok 0 0 (by decide) (by decide) (by decide) (by decide) w
 rw [show (⟨((0 : Int) : Rat), ((0 : Int) : Rat)⟩ : Pt) = (⟨0, 0⟩ : Pt) from by decide +kernel] at h
 exact h
theorem lz_pt_1_0 (w : World) : Calls Tryz.prog 39 #[(vI 1), (vI 0)] w (Gives w (aG (ptL (⟨1, 0⟩ : Pt)))) := by
 have h := pInt_ok 1 0 (by decide) (by decide) (by decide) (by decide) w
 rw [show (⟨((1 : Int) : Rat), ((0 : Int) : Rat)⟩ : Pt) = (⟨1, 0⟩ : Pt) from by decide +kernel] at h
 exact h
theorem lz_pt_1_1 (w : World) : Calls Tryz.prog 39 #[(vI 1), (vI 1)] w (Gives w (aG (ptL (⟨1, 1⟩ : Pt)))) := by
 have h := pInt_ok 1 1 (by decide) (by decide) (by decide) (by decide) w
 rw [show (⟨((1 : Int) : Rat), ((1 : Int) : Rat)⟩ : Pt) = (⟨1, 1⟩ : Pt) from by decide +kernel] at h
 exact h
theorem lz_pt_0_1 (w : World) : Calls Tryz.prog 39 #[(vI 0), (vI 1)] w (Gives w (aG (ptL (⟨0, 1⟩ : Pt)))) := by
 have h := pInt_ok 0 1 (by decide) (by decide) (by decide) (by decide) w
 rw [show (⟨((0 : Int) : Rat), ((1 : Int) : Rat)⟩ : Pt) = (⟨0, 1⟩ : Pt) from by decide +kernel] at h
 exact h
theorem lz_pt_2_2 (w : World) : Calls Tryz.prog 39 #[(vI 2), (vI 2)] w (Gives w (aG (ptL (⟨2, 2⟩ : Pt)))) := by
 have h := pInt_ok 2 2 (by decide) (by decide) (by decide) (by decide) w
 rw [show (⟨((2 : Int) : Rat), ((2 : Int) : Rat)⟩ : Pt) = (⟨2, 2⟩ : Pt) from by decide +kernel] at h
 exact h
theorem tfs_numtj_49_4 (x0 x1 x2 x3 : Pt) : Instr.fill (fun i => some (i * 10, 10)) ((Array.range (4 * 10)).map ((Value.agg (ptL (⟨0, 0⟩ : Pt)).toArray).cells[· % (Value.agg (ptL (⟨0, 0⟩ : Pt)).toArray).cells.size]!)) [(0, .agg (ptL x0).toArray), (1, .agg (ptL x1).toArray), (2, .agg (ptL x2).toArray), (3, .agg (ptL x3).toArray)] = some (ptL x0 ++ ptL x1 ++ ptL x2 ++ ptL x3).toArray := by kernel_rfl
theorem tfill_numtj_69 (x0 x1 x2 : Nat) : Instr.fill (fun i => some (i * 1, 1)) (t3L ((0, 0, 0) : Nat × Nat × Nat)).toArray [(0, vN x0), (1, vN x1), (2, vN x2)] = some (t3L (x0, x1, x2)).toArray := by kernel_rfl
theorem tfs_numtj_69_2 (x0 x1 : Nat × Nat × Nat) : Instr.fill (fun i => some (i * 3, 3)) ((Array.range (2 * 3)).map ((Value.agg (t3L ((0, 0, 0) : Nat × Nat × Nat)).toArray).cells[· % (Value.agg (t3L ((0, 0, 0) : Nat × Nat × Nat)).toArray).cells.size]!)) [(0, .agg (t3L x0).toArray), (1, .agg (t3L x1).toArray)] = some (t3L x0 ++ t3L x1).toArray := by kernel_rfl
theorem fill_numtj_49_0fracL_1fracL (x0 : Rat) (x1 : Rat) : Instr.fill ([(0, 5), (5, 5)].toArray[·]?) (ptL (⟨0, 0⟩ : Pt)).toArray [(0, .agg (fracL x0).toArray), (1, .agg (fracL x1).toArray)] = some (fracL x0 ++ fracL x1).toArray := by kernel_rfl
set_option maxHeartbeats 4000000 in
theorem lives31_ok  (w : World)  : Calls Tryz.prog 18 #[] w (Gives w (Value.bool true)) := by
 refine calls_of (args := []) Tryz.func18 rfl rfl (leB rfl) (OkC.subF (sN) (q4 (asg rfl rfl (OkL.nil (q2 ?_)))))
 refine cl Tryz.call39 (fun w hw => lz_pt_0_0 w) rfl rfl rfl (cl Tryz.call39 (fun w hw => lz_pt_1_0 w) rfl rfl rfl (cl Tryz.call39 (fun w hw => lz_pt_1_1 w) rfl rfl rfl (cl Tryz.call39 (fun w hw => lz_pt_0_1 w) rfl rfl rfl (OkL.openV (V := fun b1 => (Value.slice (some ⟨b1, 0, none⟩) 4 4)) (T := 49) (cs := ptL (⟨0, 0⟩ : Pt) ++ ptL (⟨1, 0⟩ : Pt) ++ ptL (⟨1, 1⟩ : Pt) ++ ptL (⟨0, 1⟩ : Pt)) (wt_none rfl) (op_buildSlice (z := .agg (ptL (⟨0, 0⟩ : Pt)).toArray) (cs := ptL (⟨0, 0⟩ : Pt) ++ ptL (⟨1, 0⟩ : Pt) ++ ptL (⟨1, 1⟩ : Pt) ++ ptL (⟨0, 1⟩ : Pt)) (pv := [(0, (aG (ptL (⟨0, 0⟩ : Pt)))), (1, (aG (ptL (⟨1, 0⟩ : Pt)))), (2, (aG (ptL (⟨1, 1⟩ : Pt)))), (3, (aG (ptL (⟨0, 1⟩ : Pt))))]) Tryz.underlying33 Tryz.sizeOf49 Tryz.zeroValue49 (by decide) (by decide) rfl (tfs_numtj_49_4 (⟨0, 0⟩ : Pt) (⟨1, 0⟩ : Pt) (⟨1, 1⟩ : Pt) (⟨0, 1⟩ : Pt))) rfl (leB rfl) fun b1 => st (v := (aG (t3L (0, 1, 2)))) (ex_build_array (zs := t3L ((0, 0, 0) : Nat × Nat × Nat)) (vs := t3L (0, 1, 2)) (pv := [(0, (vI 0)), (1, (vI 1)), (2, (vI 2))]) Tryz.zeroValue69 Tryz.underlying69 Tryz.sizeOf3 rfl (tfill_numtj_69 0 1 2)) (leB rfl) ?_))))
 refine st (v := (aG (t3L (0, 2, 3)))) (ex_build_array (zs := t3L ((0, 0, 0) : Nat × Nat × Nat)) (vs := t3L (0, 2, 3)) (pv := [(0, (vI 0)), (1, (vI 2)), (2, (vI 3))]) Tryz.zeroValue69 Tryz.underlying69 Tryz.sizeOf3 rfl (tfill_numtj_69 0 2 3)) (leB rfl) (OkL.openV (V := fun b2 => (Value.slice (some ⟨b2, 0, none⟩) 2 2)) (T := 69) (cs := t3L (0, 1, 2) ++ t3L (0, 2, 3)) (wt_none rfl) (op_buildSlice (z := .agg (t3L ((0, 0, 0) : Nat × Nat × Nat)).toArray) (cs := t3L (0, 1, 2) ++ t3L (0, 2, 3)) (pv := [(0, (aG (t3L (0, 1, 2)))), (1, (aG (t3L (0, 2, 3))))]) Tryz.underlying34 Tryz.sizeOf69 Tryz.zeroValue69 (by decide) (by decide) rfl (tfs_numtj_69_2 (0, 1, 2) (0, 2, 3))) rfl (leB rfl) fun b2 => st (v := (aG ([(Value.slice (some ⟨b1, 0, none⟩) 4 4), (Value.slice (some ⟨b2, 0, none⟩) 2 2), (Value.slice none 0 0)]))) (ex_build_struct (zs := [(Value.slice none 0 0), (Value.slice none 0 0), (Value.slice none 0 0)]) (vs := [(Value.slice (some ⟨b1, 0, none⟩) 4 4), (Value.slice (some ⟨b2, 0, none⟩) 2 2), (Value.slice none 0 0)]) (pv := [(0, (Value.slice (some ⟨b1, 0, none⟩) 4 4)), (1, (Value.slice (some ⟨b2, 0, none⟩) 2 2))]) (places := [(0, 1), (1, 1), (2, 1)]) Tryz.zeroValue37 Tryz.underlying37 (fun w => by simp [Tryz.sizeOf33, Tryz.sizeOf34, Tryz.sizeOf35]) rfl rfl) (leB rfl) (al tZ37 rfl fun b3 => stW0 rfl rfl rfl Tryz.sizeOf37 rfl rfl (q3 (sC 0 rfl (sC 1 rfl (sN))) ?_)))
 refine OkL.mesh4 rfl rfl rfl rfl fun hA hB => cl Tryz.call23 (fun w hw => lz_of_4 w) rfl rfl rfl (mv rfl rfl (st (ex_extract (v := (aG (fracL (1 / 4 : Rat)))) rfl rfl) (leB rfl) (st (ex_extract (v := (vI 0)) rfl rfl) (leB rfl) (al tZ47 rfl fun b4 => ?_))))
 refine stW0 rfl rfl rfl Tryz.sizeOf47 rfl rfl (asg rfl rfl (q3 (sC 0 rfl (sC 1 rfl (sC 2 rfl (sN)))) (cl Tryz.call23 (fun w hw => lz_of_2 w) rfl rfl rfl (mv rfl rfl (st (ex_extract (v := (aG (fracL (1 / 2 : Rat)))) rfl rfl) (leB rfl) ?_)))))
 refine st (ex_extract (v := (vI 0)) rfl rfl) (leB rfl) (al tZ47 rfl fun b5 => stW0 rfl rfl rfl Tryz.sizeOf47 rfl rfl (asg rfl rfl (q6 (sC 0 rfl (sC 1 rfl (sC 2 rfl (sC 4 rfl (sN))))) (rG [(0, true), (2, true), (4, true), (1, false), (3, false), (5, true), (6, false), (7, true), (8, true), (9, true), (10, true), (11, true)] sr (by kernel_rfl) (fun _ _ d _ _ h => by cases d <;> exact h) ?_))))
 refine pW 2 tA37 rfl rfl rfl rfl rfl (pW 1 tA47 rfl rfl rfl rfl rfl (pW 1 tA47 rfl rfl rfl rfl rfl (OkE.imp rfl (cl Tryz.call8 (fun w hw => lz_int_1 w) rfl rfl rfl (OkE.back sr ?_)))))
 refine OkE.imp rfl (cl Tryz.call40 (fun w hw => lz_sub w) rfl rfl rfl (OkE.back sr (pE (v := (aG (fracL (3 / 4 : Rat) ++ fracL (1 / 4 : Rat)))) rfl (ex_build_struct (zs := ptL (⟨0, 0⟩ : Pt)) (vs := fracL (3 / 4 : Rat) ++ fracL (1 / 4 : Rat)) (pv := [(0, (aG (fracL (3 / 4 : Rat)))), (1, (aG (fracL (1 / 4 : Rat))))]) (places := [(0, 5), (5, 5)]) Tryz.zeroValue49 Tryz.underlying49 (fun w => by simp [Tryz.sizeOf47]) rfl (fill_numtj_49_0fracL_1fracL (3 / 4 : Rat) (1 / 4 : Rat))) rfl (OkE.imp rfl (cl (args := [(aG (mxL (mx4 b1 b2))), (aG (fracL (3 / 4 : Rat) ++ fracL (1 / 4 : Rat)))]) (v := (Value.tuple #[(vI 0), (vI 1)])) Tryz.call14 (fun w hw => (by have h9 := Find_ok (mx4 b1 b2) (by decide) (⟨3 / 4, 1 / 4⟩ : Pt) ps4_sz (by decide +kernel) w (inS hw 3 rfl (mx4_at (S := fun _ => False) hA hB)); rw [show findB PS4 TS4 (⟨3 / 4, 1 / 4⟩ : Pt) = (0, 1) from by decide +kernel] at h9; exact h9)) rfl rfl rfl ?_)))))
 refine OkE.back sr (pM rfl rfl rfl (pE rfl (ex_extract (v := (vI 0)) rfl rfl) rfl (pE rfl (ex_extract (v := (vI 1)) rfl rfl) rfl (pS rfl rfl rfl (pS rfl rfl rfl ?_)))))
 refine OkE.nil (OkQ.subF (sC 0 rfl (sC 1 rfl (sC 2 rfl (sC 4 rfl (sC 6 rfl (sC 7 rfl (sN))))))) (q2 (ldW 2 tA37 rfl rfl rfl rfl (ldW 0 tA47 rfl rfl rfl rfl (ldW 0 tA47 rfl rfl rfl rfl ?_)))))
 refine st (v := (aG (fracL (1 / 2 : Rat) ++ fracL (1 / 2 : Rat)))) (ex_build_struct (zs := ptL (⟨0, 0⟩ : Pt)) (vs := fracL (1 / 2 : Rat) ++ fracL (1 / 2 : Rat)) (pv := [(0, (aG (fracL (1 / 2 : Rat)))), (1, (aG (fracL (1 / 2 : Rat))))]) (places := [(0, 5), (5, 5)]) Tryz.zeroValue49 Tryz.underlying49 (fun w => by simp [Tryz.sizeOf47]) rfl (fill_numtj_49_0fracL_1fracL (1 / 2 : Rat) (1 / 2 : Rat))) (leB rfl) (cl (args := [(aG (mxL (mx4 b1 b2))), (aG (fracL (1 / 2 : Rat) ++ fracL (1 / 2 : Rat)))]) (v := (Value.tuple #[(vI 0), (vI 2)])) Tryz.call14 (fun w hw => (by have h9 := Find_ok (mx4 b1 b2) (by decide) (⟨1 / 2, 1 / 2⟩ : Pt) ps4_sz (by decide +kernel) w (inS hw 3 rfl (mx4_at (S := fun _ => False) hA hB)); rw [show findB PS4 TS4 (⟨1 / 2, 1 / 2⟩ : Pt) = (0, 2) from by decide +kernel] at h9; exact h9)) rfl rfl rfl (mv rfl rfl (st (ex_extract (v := (vI 0)) rfl rfl) (leB rfl) (st (ex_extract (v := (vI 2)) rfl rfl) (leB rfl) (asg rfl rfl ?_)))))
 refine asg rfl rfl (q6 (sC 0 rfl (sC 1 rfl (sC 2 rfl (sC 4 rfl (sC 6 rfl (sC 7 rfl (sC 8 rfl (sC 9 rfl (sN))))))))) (rG [(0, true), (1, false), (2, false), (3, true), (4, true), (5, true), (6, true), (7, true)] sr (by kernel_rfl) (fun _ _ d _ _ h => by cases d <;> exact h) (pW 2 tA37 rfl rfl rfl rfl rfl (OkE.imp rfl (cl Tryz.call39 (fun w hw => lz_pt_0_1 w) rfl rfl rfl ?_)))))
 refine OkE.back sr (OkE.imp rfl (cl (args := [(aG (mxL (mx4 b1 b2))), (aG (ptL (⟨0, 1⟩ : Pt)))]) (v := (Value.tuple #[(vI 1), (vI 3)])) Tryz.call14 (fun w hw => (by have h9 := Find_ok (mx4 b1 b2) (by decide) (⟨0, 1⟩ : Pt) ps4_sz (by decide +kernel) w (inS hw 3 rfl (mx4_at (S := fun _ => False) hA hB)); rw [show findB PS4 TS4 (⟨0, 1⟩ : Pt) = (1, 3) from by decide +kernel] at h9; exact h9)) rfl rfl rfl (OkE.back sr (pM rfl rfl rfl (pE rfl (ex_extract (v := (vI 1)) rfl rfl) rfl ?_)))))
 refine pE rfl (ex_extract (v := (vI 3)) rfl rfl) rfl (pS rfl rfl rfl (pS rfl rfl rfl (OkE.nil (OkQ.subF (sC 0 rfl (sC 1 rfl (sC 2 rfl (sC 4 rfl (sC 6 rfl (sC 7 rfl (sC 8 rfl (sC 9 rfl (sC 10 rfl (sC 11 rfl (sN))))))))))) (q1 ?_)))))
 refine rG [(0, true), (1, false), (2, false), (3, true), (4, true), (5, true), (6, true), (7, true)] sr (by kernel_rfl) (fun _ _ d _ _ h => by cases d <;> exact h) (pW 2 tA37 rfl rfl rfl rfl rfl (OkE.imp rfl (cl Tryz.call39 (fun w hw => lz_pt_2_2 w) rfl rfl rfl (OkE.back sr (OkE.imp rfl ?_)))))
 refine cl (args := [(aG (mxL (mx4 b1 b2))), (aG (ptL (⟨2, 2⟩ : Pt)))]) (v := (Value.tuple #[(vI (-1 : Int)), (vI 0)])) Tryz.call14 (fun w hw => (by have h9 := Find_ok (mx4 b1 b2) (by decide) (⟨2, 2⟩ : Pt) ps4_sz (by decide +kernel) w (inS hw 3 rfl (mx4_at (S := fun _ => False) hA hB)); rw [show findB PS4 TS4 (⟨2, 2⟩ : Pt) = (-1, 0) from by decide +kernel] at h9; exact h9)) rfl rfl rfl (OkE.back sr (pM rfl rfl rfl (pE rfl (ex_extract (v := (vI (-1 : Int))) rfl rfl) rfl (pE rfl (ex_extract (v := (vI 0)) rfl rfl) rfl (pS rfl rfl rfl ?_)))))
 refine pS rfl rfl rfl (OkE.nil (OkQ.subF (sC 0 rfl (sC 1 rfl (sC 2 rfl (sC 4 rfl (sC 6 rfl (sC 7 rfl (sC 8 rfl (sC 9 rfl (sC 10 rfl (sC 11 rfl (sC 12 rfl (sC 13 rfl (sN))))))))))))) (q1 (rG [(0, true), (2, true), (5, true), (1, false), (3, true), (4, false), (6, true), (7, false), (8, true)] sr (by kernel_rfl) (fun _ _ d _ _ h => by cases d <;> exact h) (pW 2 tA37 rfl rfl rfl rfl rfl ?_)))))
 refine pW 1 tA47 rfl rfl rfl rfl rfl (pW 1 tA47 rfl rfl rfl rfl rfl (OkE.imp rfl (cl Tryz.call8 (fun w hw => lz_int_m1 w) rfl rfl rfl (OkE.back sr (pE (v := (aG (fracL (-1 : Rat) ++ fracL (1 / 4 : Rat)))) rfl (ex_build_struct (zs := ptL (⟨0, 0⟩ : Pt)) (vs := fracL (-1 : Rat) ++ fracL (1 / 4 : Rat)) (pv := [(0, (aG (fracL (-1 : Rat)))), (1, (aG (fracL (1 / 4 : Rat))))]) (places := [(0, 5), (5, 5)]) Tryz.zeroValue49 Tryz.underlying49 (fun w => by simp [Tryz.sizeOf47]) rfl (fill_numtj_49_0fracL_1fracL (-1 : Rat) (1 / 4 : Rat))) rfl ?_)))))
 refine OkE.imp rfl (cl Tryz.call8 (fun w hw => lz_int_1 w) rfl rfl rfl (OkE.back sr (pE (v := (aG (fracL (1 : Rat) ++ fracL (1 / 4 : Rat)))) rfl (ex_build_struct (zs := ptL (⟨0, 0⟩ : Pt)) (vs := fracL (1 : Rat) ++ fracL (1 / 4 : Rat)) (pv := [(0, (aG (fracL (1 : Rat)))), (1, (aG (fracL (1 / 4 : Rat))))]) (places := [(0, 5), (5, 5)]) Tryz.zeroValue49 Tryz.underlying49 (fun w => by simp [Tryz.sizeOf47]) rfl (fill_numtj_49_0fracL_1fracL (1 : Rat) (1 / 4 : Rat))) rfl (OkE.imp rfl (OkL.callR (S := fun _ => False) (α := RX (rowsL pcL [(⟨1, 1 / 2, 5 / 8⟩ : Pc), (⟨0, 5 / 8, 1⟩ : Pc)]) 2) (args := [(aG (mxL (mx4 b1 b2))), (aG (fracL (-1 : Rat) ++ fracL (1 / 4 : Rat))), (aG (fracL (1 : Rat) ++ fracL (1 / 4 : Rat)))]) Tryz.call41 (fun w hw => (by have h9 := Ray2_ok (mx4 b1 b2) (by decide) (⟨-1, 1 / 4⟩ : Pt) (⟨1, 1 / 4⟩ : Pt) ps4_sz (by decide +kernel) (by decide +kernel) (by decide +kernel) ts4_ne (⟨0, 5 / 8, 1⟩ : Pc) (⟨1, 1 / 2, 5 / 8⟩ : Pc) (by decide +kernel) (by decide +kernel) w (inS hw 3 rfl (mx4_at (S := fun _ => False) hA hB)); rw [show srt2 (⟨0, 5 / 8, 1⟩ : Pc) (⟨1, 1 / 2, 5 / 8⟩ : Pc) = [(⟨1, 1 / 2, 5 / 8⟩ : Pc), (⟨0, 5 / 8, 1⟩ : Pc)] from by decide +kernel] at h9; exact h9)) rfl rfl rfl fun rw2 lrw => ?_)))))
 refine OkE.back (sl sr) (pS rfl rfl rfl (OkE.nil (OkQ.subF (sC 0 rfl (sC 1 rfl (sC 2 rfl (sC 4 rfl (sC 6 rfl (sC 7 rfl (sC 8 rfl (sC 9 rfl (sC 10 rfl (sC 11 rfl (sC 12 rfl (sC 13 rfl (sC 14 rfl (sN)))))))))))))) (q2 (mv rfl rfl ?_)))))
 refine st (ex_eql (c := true) rfl rfl (by decide +kernel)) (leB rfl) (mv rfl rfl (OkL.step (v := (vI 1)) (wt_some rfl rfl rfl) (ex_move rfl) rfl (leB rfl) (OkL.step (v := (Value.bool true)) (wt_some rfl rfl rfl) (ex_eql (c := true) rfl rfl (by decide +kernel)) rfl (leB rfl) (st (v := (Value.bool true)) (ex_pick_true rfl rfl) (leB rfl) (mv rfl rfl ?_)))))
 refine OkL.step (v := (vI 0)) (wt_some rfl rfl rfl) (ex_move rfl) rfl (leB rfl) (OkL.step (v := (Value.bool true)) (wt_some rfl rfl rfl) (ex_eql (c := true) rfl rfl (by decide +kernel)) rfl (leB rfl) (st (v := (Value.bool true)) (ex_pick_true rfl rfl) (leB rfl) (mv rfl rfl (OkL.step (v := (vI 2)) (wt_some rfl rfl rfl) (ex_move rfl) rfl (leB rfl) (OkL.step (v := (Value.bool true)) (wt_some rfl rfl rfl) (ex_eql (c := true) rfl rfl (by decide +kernel)) rfl (leB rfl) ?_)))))
 refine st (v := (Value.bool true)) (ex_pick_true rfl rfl) (leB rfl) (mv rfl rfl (OkL.step (v := (vI 1)) (wt_some rfl rfl rfl) (ex_move rfl) rfl (leB rfl) (OkL.step (v := (Value.bool true)) (wt_some rfl rfl rfl) (ex_eql (c := true) rfl rfl (by decide +kernel)) rfl (leB rfl) (st (v := (Value.bool true)) (ex_pick_true rfl rfl) (leB rfl) (mv rfl rfl ?_)))))
 refine OkL.step (v := (vI 3)) (wt_some rfl rfl rfl) (ex_move rfl) rfl (leB rfl) (OkL.step (v := (Value.bool true)) (wt_some rfl rfl rfl) (ex_eql (c := true) rfl rfl (by decide +kernel)) rfl (leB rfl) (st (v := (Value.bool true)) (ex_pick_true rfl rfl) (leB rfl) (mv rfl rfl (OkL.step (v := (vI (-1 : Int))) (wt_some rfl rfl rfl) (ex_move rfl) rfl (leB rfl) (OkL.step (v := (Value.bool true)) (wt_some rfl rfl rfl) (ex_eql (c := true) rfl rfl (by decide +kernel)) rfl (leB rfl) ?_)))))
 refine st (v := (Value.bool true)) (ex_pick_true rfl rfl) (leB rfl) (mv rfl rfl (OkL.step (v := (vI 0)) (wt_some rfl rfl rfl) (ex_move rfl) rfl (leB rfl) (OkL.step (v := (Value.bool true)) (wt_some rfl rfl rfl) (ex_eql (c := true) rfl rfl (by decide +kernel)) rfl (leB rfl) (st (v := (Value.bool true)) (ex_pick_true rfl rfl) (leB rfl) (asg rfl rfl ?_)))))
 refine q6 (sC 0 rfl (sC 1 rfl (sC 2 rfl (sC 4 rfl (sC 14 rfl (sC 15 rfl (sN))))))) (rG [(0, true), (1, true), (2, true), (3, true), (4, true), (5, true), (6, true), (7, true), (8, true), (9, true), (10, true), (11, true), (12, true), (13, true), (14, true), (15, true), (16, true), (17, true), (18, true), (19, true), (20, true), (21, true), (22, true), (23, true), (24, true), (25, true), (26, false), (27, true), (28, true), (29, true), (30, true), (31, true), (32, true), (33, true), (34, true), (35, true), (36, true), (37, true), (38, true), (39, true), (40, true), (41, false), (42, true), (43, true), (44, true), (45, true), (46, false), (47, false), (48, false), (49, true), (50, true), (51, true), (52, true)] sr (by kernel_rfl) (fun _ _ d _ _ h => by cases d <;> exact h) (pM rfl rfl rfl (pM rfl rfl rfl (OkE.pas (v := (Value.slice rw2.p 2 rw2.c)) rfl (wt_some rfl rfl rfl) (ex_move rfl) rfl rfl (OkE.pas (v := (vI 2)) rfl (wt_some rfl rfl rfl) (ex_len_slice rfl Tryz.underlying107) rfl rfl ?_)))))
 refine OkE.pas (v := (Value.bool true)) rfl (wt_some rfl rfl rfl) (ex_eql (c := true) rfl rfl (by decide +kernel)) rfl rfl (pE (v := (Value.bool true)) rfl (ex_pick_true rfl rfl) rfl (pM rfl rfl rfl (OkE.pas (v := (Value.slice rw2.p 2 rw2.c)) rfl (wt_some rfl rfl rfl) (ex_move rfl) rfl rfl (OkE.pas (v := (pP (pB rw2.p) (pO rw2.p + 0 * 11))) rfl (wt_some rfl rfl rfl) (ex_index_row (j := 0) rfl rfl rw2.ok Tryz.underlying107 Tryz.sizeOf110 rfl (by decide)) rfl rfl (OkE.pas (v := (pP (pB rw2.p) (pO rw2.p + (0 * 11 + 0)))) rfl (wt_some rfl rfl rfl) (ex_fieldAddr rfl Tryz.underlying110 rfl Tryz.sizeOf3 (Nat.add_assoc _ _ _)) rfl rfl ?_)))))
 refine OkE.pas (v := (vN ((([(⟨1, 1 / 2, 5 / 8⟩ : Pc), (⟨0, 5 / 8, 1⟩ : Pc)]).getD 0 (⟨0, 0, 0⟩ : Pc)).tri))) rfl (wt_some rfl rfl rfl) (ex_load_rowR_one (v := (vN ((([(⟨1, 1 / 2, 5 / 8⟩ : Pc), (⟨0, 5 / 8, 1⟩ : Pc)]).getD 0 (⟨0, 0, 0⟩ : Pc)).tri))) (i := 0) rfl rfl (RowOk.ne rw2.ok (by decide)) tO3 (rowsL_at pcL_len (⟨0, 0, 0⟩ : Pc) _ _ 0 (by decide) (by decide) rfl)) rfl rfl (OkE.pas (v := (Value.bool true)) rfl (wt_some rfl rfl rfl) (ex_eql (c := true) rfl rfl (by decide +kernel)) rfl rfl (pE (v := (Value.bool true)) rfl (ex_pick_true rfl rfl) rfl (pM rfl rfl rfl (OkE.pas (v := (Value.slice rw2.p 2 rw2.c)) rfl (wt_some rfl rfl rfl) (ex_move rfl) rfl rfl (OkE.pas (v := (pP (pB rw2.p) (pO rw2.p + 0 * 11))) rfl (wt_some rfl rfl rfl) (ex_index_row (j := 0) rfl rfl rw2.ok Tryz.underlying107 Tryz.sizeOf110 rfl (by decide)) rfl rfl ?_)))))
 refine OkE.pas (v := (pP (pB rw2.p) (pO rw2.p + (0 * 11 + 1)))) rfl (wt_some rfl rfl rfl) (ex_fieldAddr rfl Tryz.underlying110 rfl Tryz.sizeOf47 (Nat.add_assoc _ _ _)) rfl rfl (OkE.pas (v := (aG (fracL ((([(⟨1, 1 / 2, 5 / 8⟩ : Pc), (⟨0, 5 / 8, 1⟩ : Pc)]).getD 0 (⟨0, 0, 0⟩ : Pc)).lo)))) rfl (wt_some rfl rfl rfl) (ex_load_rowR_agg (vs := fracL ((([(⟨1, 1 / 2, 5 / 8⟩ : Pc), (⟨0, 5 / 8, 1⟩ : Pc)]).getD 0 (⟨0, 0, 0⟩ : Pc)).lo)) (i := 0) rfl rfl (RowOk.ne rw2.ok (by decide)) tA47 (rowsL_part pcL_len (⟨0, 0, 0⟩ : Pc) _ _ 1 5 (by decide) (by decide) rfl) rfl) rfl rfl (OkE.pas (v := (aG (fracL (1 / 2 : Rat)))) rfl (wt_some rfl rfl rfl) (ex_load_agg (i := 1) (vs := fracL (1 / 2 : Rat)) rfl rfl tA47.a tA47.s rfl rfl) rfl rfl (OkE.pas (v := (Value.bool true)) rfl (wt_some rfl rfl rfl) (ex_eql_agg (c := true) rfl rfl Tryz.eqGuardType47 (eqB_frac_t 9995 rfl)) rfl rfl (pE (v := (Value.bool true)) rfl (ex_pick_true rfl rfl) rfl (pM rfl rfl rfl ?_)))))
 refine OkE.pas (v := (Value.slice rw2.p 2 rw2.c)) rfl (wt_some rfl rfl rfl) (ex_move rfl) rfl rfl (OkE.pas (v := (pP (pB rw2.p) (pO rw2.p + 0 * 11))) rfl (wt_some rfl rfl rfl) (ex_index_row (j := 0) rfl rfl rw2.ok Tryz.underlying107 Tryz.sizeOf110 rfl (by decide)) rfl rfl (OkE.pas (v := (pP (pB rw2.p) (pO rw2.p + (0 * 11 + 6)))) rfl (wt_some rfl rfl rfl) (ex_fieldAddr rfl Tryz.underlying110 rfl Tryz.sizeOf47 (Nat.add_assoc _ _ _)) rfl rfl (OkE.pas (v := (aG (fracL ((([(⟨1, 1 / 2, 5 / 8⟩ : Pc), (⟨0, 5 / 8, 1⟩ : Pc)]).getD 0 (⟨0, 0, 0⟩ : Pc)).hi)))) rfl (wt_some rfl rfl rfl) (ex_load_rowR_agg (vs := fracL ((([(⟨1, 1 / 2, 5 / 8⟩ : Pc), (⟨0, 5 / 8, 1⟩ : Pc)]).getD 0 (⟨0, 0, 0⟩ : Pc)).hi)) (i := 0) rfl rfl (RowOk.ne rw2.ok (by decide)) tA47 (rowsL_part pcL_len (⟨0, 0, 0⟩ : Pc) _ _ 6 5 (by decide) (by decide) rfl) rfl) rfl rfl (OkE.imp rfl (OkL.call (v := (Value.string (textQ ((([(⟨1, 1 / 2, 5 / 8⟩ : Pc), (⟨0, 5 / 8, 1⟩ : Pc)]).getD 0 (⟨0, 0, 0⟩ : Pc)).hi)))) (wt_some rfl rfl rfl) (op_call0 (args := [(aG (fracL ((([(⟨1, 1 / 2, 5 / 8⟩ : Pc), (⟨0, 5 / 8, 1⟩ : Pc)]).getD 0 (⟨0, 0, 0⟩ : Pc)).hi)))]) rfl rfl Tryz.call42) (fun w hw => fText_ok ((([(⟨1, 1 / 2, 5 / 8⟩ : Pc), (⟨0, 5 / 8, 1⟩ : Pc)]).getD 0 (⟨0, 0, 0⟩ : Pc)).hi) (by decide +kernel) (by decide +kernel) w) rfl (leB rfl) ?_)))))
 refine OkE.back sr (OkE.pas (v := (Value.bool true)) rfl (wt_some rfl rfl rfl) (ex_eql_string (c := true) rfl rfl (by decide +kernel)) rfl rfl (pE (v := (Value.bool true)) rfl (ex_pick_true rfl rfl) rfl (pM rfl rfl rfl (OkE.pas (v := (Value.slice rw2.p 2 rw2.c)) rfl (wt_some rfl rfl rfl) (ex_move rfl) rfl rfl (OkE.pas (v := (pP (pB rw2.p) (pO rw2.p + 1 * 11))) rfl (wt_some rfl rfl rfl) (ex_index_row (j := 1) rfl rfl rw2.ok Tryz.underlying107 Tryz.sizeOf110 rfl (by decide)) rfl rfl ?_)))))
 refine OkE.pas (v := (pP (pB rw2.p) (pO rw2.p + (1 * 11 + 0)))) rfl (wt_some rfl rfl rfl) (ex_fieldAddr rfl Tryz.underlying110 rfl Tryz.sizeOf3 (Nat.add_assoc _ _ _)) rfl rfl (OkE.pas (v := (vN ((([(⟨1, 1 / 2, 5 / 8⟩ : Pc), (⟨0, 5 / 8, 1⟩ : Pc)]).getD 1 (⟨0, 0, 0⟩ : Pc)).tri))) rfl (wt_some rfl rfl rfl) (ex_load_rowR_one (v := (vN ((([(⟨1, 1 / 2, 5 / 8⟩ : Pc), (⟨0, 5 / 8, 1⟩ : Pc)]).getD 1 (⟨0, 0, 0⟩ : Pc)).tri))) (i := 0) rfl rfl (RowOk.ne rw2.ok (by decide)) tO3 (rowsL_at pcL_len (⟨0, 0, 0⟩ : Pc) _ _ 0 (by decide) (by decide) rfl)) rfl rfl (OkE.pas (v := (Value.bool true)) rfl (wt_some rfl rfl rfl) (ex_eql (c := true) rfl rfl (by decide +kernel)) rfl rfl (pE (v := (Value.bool true)) rfl (ex_pick_true rfl rfl) rfl (pM rfl rfl rfl (OkE.pas (v := (Value.slice rw2.p 2 rw2.c)) rfl (wt_some rfl rfl rfl) (ex_move rfl) rfl rfl ?_)))))
 refine OkE.pas (v := (pP (pB rw2.p) (pO rw2.p + 1 * 11))) rfl (wt_some rfl rfl rfl) (ex_index_row (j := 1) rfl rfl rw2.ok Tryz.underlying107 Tryz.sizeOf110 rfl (by decide)) rfl rfl (OkE.pas (v := (pP (pB rw2.p) (pO rw2.p + (1 * 11 + 6)))) rfl (wt_some rfl rfl rfl) (ex_fieldAddr rfl Tryz.underlying110 rfl Tryz.sizeOf47 (Nat.add_assoc _ _ _)) rfl rfl (OkE.pas (v := (aG (fracL ((([(⟨1, 1 / 2, 5 / 8⟩ : Pc), (⟨0, 5 / 8, 1⟩ : Pc)]).getD 1 (⟨0, 0, 0⟩ : Pc)).hi)))) rfl (wt_some rfl rfl rfl) (ex_load_rowR_agg (vs := fracL ((([(⟨1, 1 / 2, 5 / 8⟩ : Pc), (⟨0, 5 / 8, 1⟩ : Pc)]).getD 1 (⟨0, 0, 0⟩ : Pc)).hi)) (i := 0) rfl rfl (RowOk.ne rw2.ok (by decide)) tA47 (rowsL_part pcL_len (⟨0, 0, 0⟩ : Pc) _ _ 6 5 (by decide) (by decide) rfl) rfl) rfl rfl (OkE.imp rfl (OkL.call (v := (aG (fracL (1 : Rat)))) (wt_some rfl rfl rfl) (op_call0 (args := [(vI 1)]) rfl rfl Tryz.call8) (fun w hw => lz_int_1 w) rfl (leB rfl) (OkE.back sr ?_)))))
 refine OkE.pas (v := (Value.bool true)) rfl (wt_some rfl rfl rfl) (ex_eql_agg (c := true) rfl rfl Tryz.eqGuardType47 (eqB_frac_t 9995 rfl)) rfl rfl (pE (v := (Value.bool true)) rfl (ex_pick_true rfl rfl) rfl (pM rfl rfl rfl (OkE.pas (v := (aG (mxL (mx4 b1 b2)))) rfl (wt_some rfl rfl rfl) (ex_load_agg (i := 3) (vs := mxL (mx4 b1 b2)) rfl rfl tA37.a tA37.s rfl rfl) rfl rfl (OkE.imp rfl (OkL.call (v := (aG (ptL (⟨0, 0⟩ : Pt)))) (wt_some rfl rfl rfl) (op_call0 (args := [(vI 0), (vI 0)]) rfl rfl Tryz.call39) (fun w hw => lz_pt_0_0 w) rfl (leB rfl) ?_)))))
 refine OkE.back sr (OkE.imp rfl (OkL.call (v := (aG (ptL (⟨1, 1⟩ : Pt)))) (wt_some rfl rfl rfl) (op_call0 (args := [(vI 1), (vI 1)]) rfl rfl Tryz.call39) (fun w hw => lz_pt_1_1 w) rfl (leB rfl) (OkE.back sr (OkE.imp rfl (OkL.call (v := (Value.slice none 0 0)) (wt_some rfl rfl rfl) (op_call0 (args := [(aG (mxL (mx4 b1 b2))), (aG (ptL (⟨0, 0⟩ : Pt))), (aG (ptL (⟨1, 1⟩ : Pt)))]) rfl rfl Tryz.call41) (fun w hw => Ray0_ok (mx4 b1 b2) (by decide) (⟨0, 0⟩ : Pt) (⟨1, 1⟩ : Pt) ps4_sz (by decide +kernel) (by decide +kernel) (by decide +kernel) ts4_ne (by decide +kernel) w (inS hw 4 rfl (mx4_at (S := fun _ => False) hA hB))) rfl (leB rfl) ?_)))))
 refine OkE.back sr (OkE.pas (v := (vI 0)) rfl (wt_some rfl rfl rfl) (ex_len_slice rfl Tryz.underlying107) rfl rfl (OkE.pas (v := (Value.bool true)) rfl (wt_some rfl rfl rfl) (ex_eql (c := true) rfl rfl (by decide +kernel)) rfl rfl (pE (v := (Value.bool true)) rfl (ex_pick_true rfl rfl) rfl (pS rfl rfl rfl (OkE.nil ?_)))))
 exact OkQ.subF (sC 0 rfl (sC 1 rfl (sC 2 rfl (sC 4 rfl (sN))))) (OkQ.then_ (OkC.ret (ret_one rfl (rd_tmp (v := (Value.bool true)) rfl) (fun w hw => ⟨rfl, hw.out⟩))))
end
theorem pos_ne {q : Rat} (h : 0 < q) : q ≠ 0 := by grind
theorem sgn_ge {q : Rat} (h : 0 ≤ q) : ¬ q.num.sign = -1 := by
  rw [sgn_eq, sgnQ, if_neg (by grind)]
  split <;> decide
theorem sgn_nn {z : Int} (h : ¬ z.sign = -1) : ¬ z.sign < 0 := by
  rcases sgn_three z with e | e | e <;> omega
theorem whereV_in {a b c : Pt} (h : turnP a b c ≠ 0) {x y z : Rat} (hx : 0 ≤ x) (hy : 0 ≤ y) (hz : 0 ≤ z) (e : z = 1 - x - y) : whereV a b c (scaleP a x + scaleP b y + scaleP c z) ≠ 0 := by
  have hz' := sgn_ge hz
  have hx' := sgn_ge hx
  have hy' := sgn_ge hy
  subst e
  unfold whereV
  rw [if_neg h, (back_bary h x y).1, (back_bary h x y).2.1, (back_bary h x y).2.2, whereN, if_neg (by simp only [not_or]; exact ⟨hx', hy', hz'⟩)]
  omega
theorem where_signs {a b c p : Pt} (h : whereV a b c p ≠ 0) : ¬ (turnP p b c / turnP a b c).num.sign < 0 ∧ ¬ (turnP a p c / turnP a b c).num.sign < 0 ∧ ¬ (turnP a b p / turnP a b c).num.sign < 0 := by
  unfold whereV at h
  split at h
  · exact absurd rfl h
  · unfold whereN at h
    split at h
    · exact absurd rfl h
    · rename_i h2
      simp only [not_or] at h2
      exact ⟨sgn_nn h2.1, sgn_nn h2.2.1, sgn_nn h2.2.2⟩
theorem findAt_cases (ps : List Pt) (q : Pt) : ∀ (ts : List (Nat × Nat × Nat)) (i : Nat), (findAt ps q ts i = (-1, 0) ∧ ∀ j, j < ts.length → whereT ps q (ts.getD j (0, 0, 0)) = 0) ∨
    ∃ j k, j < ts.length ∧ findAt ps q ts i = (((i + j : Nat) : Int), k) ∧ k ≠ 0 ∧ whereT ps q (ts.getD j (0, 0, 0)) ≠ 0 ∧ ∀ l, l < j → whereT ps q (ts.getD l (0, 0, 0)) = 0
  | [], i => .inl ⟨rfl, fun j h => absurd h (Nat.not_lt_zero _)⟩
  | t :: r, i => by
    unfold findAt
    by_cases h : whereT ps q t = 0
    · rw [if_pos h]
      rcases findAt_cases ps q r (i + 1) with ⟨h1, h2⟩ | ⟨j, k, h1, h2, h3, h4, h5⟩
      · exact .inl ⟨h1, fun j hj => by cases j with | zero => exact h | succ j => exact h2 j (by simpa using hj)⟩
      · refine .inr ⟨j + 1, k, by simpa using h1, by rw [h2]; congr 2; omega, h3, h4, fun l hl => ?_⟩
        cases l with
        | zero => exact h
        | succ l => exact h5 l (by omega)
    · rw [if_neg h]
      exact .inr ⟨0, _, by simp, rfl, h, h, fun l hl => absurd hl (Nat.not_lt_zero _)⟩
theorem find_in {ps : List Pt} {ts : List (Nat × Nat × Nat)} {q : Pt} (hn : numB ps.length ts = true) (h : ¬ findB ps ts q = (-1, 0)) : ∃ j k, j < ts.length ∧ findB ps ts q = ((j : Int), k) ∧ k ≠ 0 ∧ whereT ps q (ts.getD j (0, 0, 0)) ≠ 0 ∧ ∀ l, l < j → whereT ps q (ts.getD l (0, 0, 0)) = 0 := by
  unfold findB at h ⊢
  rw [if_pos hn] at h ⊢
  rcases findAt_cases ps q ts 0 with ⟨h1, _⟩ | ⟨j, k, h1, h2, h3⟩
  · exact absurd h1 h
  · exact ⟨j, k, h1, by rw [h2]; congr 2; omega, h3⟩
theorem find_ne {ps : List Pt} {ts : List (Nat × Nat × Nat)} {q : Pt} (hn : numB ps.length ts = true) {j : Nat} (hj : j < ts.length) (h : whereT ps q (ts.getD j (0, 0, 0)) ≠ 0) : ¬ findB ps ts q = (-1, 0) := by
  unfold findB
  rw [if_pos hn]
  rcases findAt_cases ps q ts 0 with ⟨_, h2⟩ | ⟨j, k, h1, h2, h3⟩
  · exact absurd (h2 j hj) h
  · rw [h2]
    intro e
    have e1 := congrArg Prod.fst e
    simp only at e1
    omega
theorem abs_nn (a : Rat) : 0 ≤ absQ a := by rcases abs_cases a with ⟨h, e⟩ | ⟨h, e⟩ <;> rw [e] <;> grind
theorem weights {u v t z : Rat} (hu : 0 ≤ u) (hv : 0 ≤ v) (ht : t = 1 + u + v) (hz : z = 1 / t) : t ≠ 0 ∧ 0 ≤ u * z ∧ 0 ≤ v * z ∧ 0 ≤ z ∧ z = 1 - u * z - v * z := by
  have h1 : 0 < t := by grind
  have h2 : 0 < z := by rw [hz]; exact divQ_pos (by grind) h1
  refine ⟨by grind, Rat.mul_nonneg hu (by grind), Rat.mul_nonneg hv (by grind), by grind, ?_⟩
  have h3 : z * t = 1 := by rw [hz]; grind
  rw [ht] at h3
  grind
def mxb (b : Nat) : MX [] [(0, 1, 2)] [] := ⟨⟨none, 0, rowOkN⟩, ⟨some ⟨b, 0, none⟩, 1, rowOk0⟩, ⟨none, 0, rowOkN⟩⟩
theorem mxb_ro {S : Nat → Prop} {w : World} {w0 : Base} {L : List As} (hw : Own w0 w L) (i : Nat) {b : Nat} (hi : L[i]? = some (rowR (some ⟨b, 0, none⟩) (rowsL t3L [(0, 1, 2)]))) (hb : w0.w.heap.size ≤ b) : Ro (SL w0 S L) w (mxb b) := fun y hy => by
  have hy : y ∈ [(mxb b).a.row, (mxb b).b.row, (mxb b).c.row] := hy
  simp only [List.mem_cons, List.not_mem_nil, or_false] at hy
  rcases hy with rfl | rfl | rfl
  · exact ⟨(fun c e => by cases e), (fun c e => by cases e)⟩
  · exact ⟨hw.holds hi, fun c e => ⟨⟨_, List.mem_of_getElem? hi, rfl, e⟩, .inl (by injection e with e; rw [← e]; exact hb)⟩⟩
  · exact ⟨(fun c e => by cases e), (fun c e => by cases e)⟩
theorem cor_nil (i : Nat) : SzP (cor [] i) ≤ 4 := by show SzP ⟨0, 0⟩ ≤ 4; decide +kernel
end Go.Proofs.YtmejjgmpkelaiaaGreatDoor
