import Derived.Test.YtpkoldfmbebmgaaGreatDoorPart07
import Derived.Test.YtpkoldfmbebmgaaGreatDoorPart28
import Derived.Test.YtpkoldfmbebmgaaGreatDoorPart37
import Derived.Test.YtpkoldfmbebmgaaGreatDoorPart39
namespace Go.Proofs.YtpkoldfmbebmgaaGreatDoor
open Go Go.RowKit
set_option linter.unusedVariables false
set_option linter.unusedSimpArgs false
section
set_option maxRecDepth 100000
theorem lv_bary (w : World) : Calls Tryz.prog 26 #[(aG (ptL (⟨0, 0⟩ : Pt))), (aG (ptL (⟨4, 0⟩ : Pt))), (aG (ptL (⟨0, 2⟩ : Pt))), (aG (ptL (⟨1, 1⟩ : Pt)))] w (Gives w (Value.tuple #[(aG (fracL (1 / 4 : Rat) ++ fracL (1 / 4 : Rat) ++ fracL (1 / 2 : Rat))), (vI 0)])) := by
 have h := Bary_ok (⟨0, 0⟩ : Pt) (⟨4, 0⟩ : Pt) (⟨0, 2⟩ : Pt) (⟨1, 1⟩ : Pt) (by decide +kernel) (by decide +kernel) w
 rw [show turnP (⟨1, 1⟩ : Pt) (⟨4, 0⟩ : Pt) (⟨0, 2⟩ : Pt) / turnP (⟨0, 0⟩ : Pt) (⟨4, 0⟩ : Pt) (⟨0, 2⟩ : Pt) = (1 / 4 : Rat) from by decide +kernel] at h
 rw [show turnP (⟨0, 0⟩ : Pt) (⟨1, 1⟩ : Pt) (⟨0, 2⟩ : Pt) / turnP (⟨0, 0⟩ : Pt) (⟨4, 0⟩ : Pt) (⟨0, 2⟩ : Pt) = (1 / 4 : Rat) from by decide +kernel] at h
 rw [show turnP (⟨0, 0⟩ : Pt) (⟨4, 0⟩ : Pt) (⟨1, 1⟩ : Pt) / turnP (⟨0, 0⟩ : Pt) (⟨4, 0⟩ : Pt) (⟨0, 2⟩ : Pt) = (1 / 2 : Rat) from by decide +kernel] at h
 exact h
theorem lv_grads (w : World) : Calls Tryz.prog 12 #[(aG (ptL (⟨0, 0⟩ : Pt))), (aG (ptL (⟨4, 0⟩ : Pt))), (aG (ptL (⟨0, 2⟩ : Pt)))] w (Gives w (Value.tuple #[(aG (fracL (-1 / 4 : Rat) ++ fracL (-1 / 2 : Rat) ++ fracL (1 / 4 : Rat) ++ fracL (0 : Rat) ++ fracL (0 : Rat) ++ fracL (1 / 2 : Rat))), (vI 0)])) := by
 have h := Grads_ok (⟨0, 0⟩ : Pt) (⟨4, 0⟩ : Pt) (⟨0, 2⟩ : Pt) (by decide +kernel) (by decide +kernel) w
 rw [show -((⟨0, 2⟩ : Pt) - (⟨4, 0⟩ : Pt)).y / turnP (⟨0, 0⟩ : Pt) (⟨4, 0⟩ : Pt) (⟨0, 2⟩ : Pt) = (-1 / 4 : Rat) from by decide +kernel, show ((⟨0, 2⟩ : Pt) - (⟨4, 0⟩ : Pt)).x / turnP (⟨0, 0⟩ : Pt) (⟨4, 0⟩ : Pt) (⟨0, 2⟩ : Pt) = (-1 / 2 : Rat) from by decide +kernel] at h
 rw [show -((⟨0, 0⟩ : Pt) - (⟨0, 2⟩ : Pt)).y / turnP (⟨0, 0⟩ : Pt) (⟨4, 0⟩ : Pt) (⟨0, 2⟩ : Pt) = (1 / 4 : Rat) from by decide +kernel, show ((⟨0, 0⟩ : Pt) - (⟨0, 2⟩ : Pt)).x / turnP (⟨0, 0⟩ : Pt) (⟨4, 0⟩ : Pt) (⟨0, 2⟩ : Pt) = (0 : Rat) from by decide +kernel] at h
 rw [show -((⟨4, 0⟩ : Pt) - (⟨0, 0⟩ : Pt)).y / turnP (⟨0, 0⟩ : Pt) (⟨4, 0⟩ : Pt) (⟨0, 2⟩ : Pt) = (0 : Rat) from by decide +kernel, show ((⟨4, 0⟩ : Pt) - (⟨0, 0⟩ : Pt)).x / turnP (⟨0, 0⟩ : Pt) (⟨4, 0⟩ : Pt) (⟨0, 2⟩ : Pt) = (1 / 2 : Rat) from by decide +kernel] at h
 exact h
theorem lv_cots (w : World) : Calls Tryz.prog 14 #[(aG (ptL (⟨0, 0⟩ : Pt))), (aG (ptL (⟨4, 0⟩ : Pt))), (aG (ptL (⟨0, 2⟩ : Pt)))] w (Gives w (Value.tuple #[(aG (fracL (0 : Rat) ++ fracL (2 : Rat) ++ fracL (1 / 2 : Rat))), (vI 0)])) := by
 have h := Cots_ok (⟨0, 0⟩ : Pt) (⟨4, 0⟩ : Pt) (⟨0, 2⟩ : Pt) (by decide +kernel) (by decide +kernel) w
 rw [show dotP ((⟨4, 0⟩ : Pt) - (⟨0, 0⟩ : Pt)) ((⟨0, 2⟩ : Pt) - (⟨0, 0⟩ : Pt)) / absQ (turnP (⟨0, 0⟩ : Pt) (⟨4, 0⟩ : Pt) (⟨0, 2⟩ : Pt)) = (0 : Rat) from by decide +kernel] at h
 rw [show dotP ((⟨0, 2⟩ : Pt) - (⟨4, 0⟩ : Pt)) ((⟨0, 0⟩ : Pt) - (⟨4, 0⟩ : Pt)) / absQ (turnP (⟨0, 0⟩ : Pt) (⟨4, 0⟩ : Pt) (⟨0, 2⟩ : Pt)) = (2 : Rat) from by decide +kernel] at h
 rw [show dotP ((⟨0, 0⟩ : Pt) - (⟨0, 2⟩ : Pt)) ((⟨4, 0⟩ : Pt) - (⟨0, 2⟩ : Pt)) / absQ (turnP (⟨0, 0⟩ : Pt) (⟨4, 0⟩ : Pt) (⟨0, 2⟩ : Pt)) = (1 / 2 : Rat) from by decide +kernel] at h
 exact h
theorem lv_shape (w : World) : Calls Tryz.prog 16 #[(aG (ptL (⟨0, 0⟩ : Pt))), (aG (ptL (⟨4, 0⟩ : Pt))), (aG (ptL (⟨0, 2⟩ : Pt)))] w (Gives w (Value.tuple #[(aG (fracL (1 / 5 : Rat) ++ fracL (4 / 5 : Rat))), (vI 0)])) := by
 have h := Shape_ok (⟨0, 0⟩ : Pt) (⟨4, 0⟩ : Pt) (⟨0, 2⟩ : Pt) (by decide +kernel) (by decide +kernel) (by decide +kernel) w
 rw [show (sort3 (dotP ((⟨4, 0⟩ : Pt) - (⟨0, 0⟩ : Pt)) ((⟨4, 0⟩ : Pt) - (⟨0, 0⟩ : Pt))) (dotP ((⟨0, 2⟩ : Pt) - (⟨4, 0⟩ : Pt)) ((⟨0, 2⟩ : Pt) - (⟨4, 0⟩ : Pt))) (dotP ((⟨0, 0⟩ : Pt) - (⟨0, 2⟩ : Pt)) ((⟨0, 0⟩ : Pt) - (⟨0, 2⟩ : Pt)))).1 / (sort3 (dotP ((⟨4, 0⟩ : Pt) - (⟨0, 0⟩ : Pt)) ((⟨4, 0⟩ : Pt) - (⟨0, 0⟩ : Pt))) (dotP ((⟨0, 2⟩ : Pt) - (⟨4, 0⟩ : Pt)) ((⟨0, 2⟩ : Pt) - (⟨4, 0⟩ : Pt))) (dotP ((⟨0, 0⟩ : Pt) - (⟨0, 2⟩ : Pt)) ((⟨0, 0⟩ : Pt) - (⟨0, 2⟩ : Pt)))).2.2 = (1 / 5 : Rat) from by decide +kernel] at h
 rw [show (sort3 (dotP ((⟨4, 0⟩ : Pt) - (⟨0, 0⟩ : Pt)) ((⟨4, 0⟩ : Pt) - (⟨0, 0⟩ : Pt))) (dotP ((⟨0, 2⟩ : Pt) - (⟨4, 0⟩ : Pt)) ((⟨0, 2⟩ : Pt) - (⟨4, 0⟩ : Pt))) (dotP ((⟨0, 0⟩ : Pt) - (⟨0, 2⟩ : Pt)) ((⟨0, 0⟩ : Pt) - (⟨0, 2⟩ : Pt)))).2.1 / (sort3 (dotP ((⟨4, 0⟩ : Pt) - (⟨0, 0⟩ : Pt)) ((⟨4, 0⟩ : Pt) - (⟨0, 0⟩ : Pt))) (dotP ((⟨0, 2⟩ : Pt) - (⟨4, 0⟩ : Pt)) ((⟨0, 2⟩ : Pt) - (⟨4, 0⟩ : Pt))) (dotP ((⟨0, 0⟩ : Pt) - (⟨0, 2⟩ : Pt)) ((⟨0, 0⟩ : Pt) - (⟨0, 2⟩ : Pt)))).2.2 = (4 / 5 : Rat) from by decide +kernel] at h
 exact h
theorem lv_middle (w : World) : Calls Tryz.prog 18 #[(aG (ptL (⟨0, 0⟩ : Pt))), (aG (ptL (⟨4, 0⟩ : Pt))), (aG (ptL (⟨0, 2⟩ : Pt)))] w (Gives w (Value.tuple #[(aG (ptL (⟨2, 1⟩ : Pt))), (aG (fracL (5 : Rat))), (vI 0)])) := by
 have h := Middle_ok (⟨0, 0⟩ : Pt) (⟨4, 0⟩ : Pt) (⟨0, 2⟩ : Pt) (by decide +kernel) (by decide +kernel) w
 rw [show (⟨0, 0⟩ : Pt) + scaleP (scaleP ⟨((⟨0, 2⟩ : Pt) - (⟨0, 0⟩ : Pt)).y, -((⟨0, 2⟩ : Pt) - (⟨0, 0⟩ : Pt)).x⟩ (dotP ((⟨4, 0⟩ : Pt) - (⟨0, 0⟩ : Pt)) ((⟨4, 0⟩ : Pt) - (⟨0, 0⟩ : Pt))) - scaleP ⟨((⟨4, 0⟩ : Pt) - (⟨0, 0⟩ : Pt)).y, -((⟨4, 0⟩ : Pt) - (⟨0, 0⟩ : Pt)).x⟩ (dotP ((⟨0, 2⟩ : Pt) - (⟨0, 0⟩ : Pt)) ((⟨0, 2⟩ : Pt) - (⟨0, 0⟩ : Pt)))) (((1 : Int) : Rat) / (((2 : Int) : Rat) * crossP ((⟨4, 0⟩ : Pt) - (⟨0, 0⟩ : Pt)) ((⟨0, 2⟩ : Pt) - (⟨0, 0⟩ : Pt)))) = (⟨2, 1⟩ : Pt) from by decide +kernel] at h
 rw [show dotP ((⟨0, 0⟩ : Pt) - (⟨2, 1⟩ : Pt)) ((⟨0, 0⟩ : Pt) - (⟨2, 1⟩ : Pt)) = (5 : Rat) from by decide +kernel] at h
 exact h
theorem lv_flat (w : World) : Calls Tryz.prog 12 #[(aG (ptL (⟨0, 0⟩ : Pt))), (aG (ptL (⟨4, 0⟩ : Pt))), (aG (ptL (⟨8, 0⟩ : Pt)))] w (Gives w (Value.tuple #[(aG (ptL (⟨0, 0⟩ : Pt) ++ ptL (⟨0, 0⟩ : Pt) ++ ptL (⟨0, 0⟩ : Pt))), (vI 1)])) := by
 have h := Grads0_ok (⟨0, 0⟩ : Pt) (⟨4, 0⟩ : Pt) (⟨8, 0⟩ : Pt) (by decide +kernel) (by decide +kernel) w
 exact h
theorem lv_area (w : World) : Calls Tryz.prog 32 #[(aG (ptL (⟨0, 0⟩ : Pt))), (aG (ptL (⟨4, 0⟩ : Pt))), (aG (ptL (⟨0, 2⟩ : Pt)))] w (Gives w (aG (fracL (4 : Rat)))) := by
 have h := Area_ok (⟨0, 0⟩ : Pt) (⟨4, 0⟩ : Pt) (⟨0, 2⟩ : Pt) (by decide +kernel) w
 rw [show turnP (⟨0, 0⟩ : Pt) (⟨4, 0⟩ : Pt) (⟨0, 2⟩ : Pt) * (1 / 2) = (4 : Rat) from by decide +kernel] at h
 exact h
theorem lv_where (w : World) : Calls Tryz.prog 34 #[(aG (ptL (⟨0, 0⟩ : Pt))), (aG (ptL (⟨4, 0⟩ : Pt))), (aG (ptL (⟨0, 2⟩ : Pt))), (aG (ptL (⟨2, 1⟩ : Pt)))] w (Gives w (vI 2)) := by
 have h := Where_ok (⟨0, 0⟩ : Pt) (⟨4, 0⟩ : Pt) (⟨0, 2⟩ : Pt) (⟨2, 1⟩ : Pt) (by decide +kernel) (by decide +kernel) w
 rw [show whereN (turnP (⟨2, 1⟩ : Pt) (⟨4, 0⟩ : Pt) (⟨0, 2⟩ : Pt) / turnP (⟨0, 0⟩ : Pt) (⟨4, 0⟩ : Pt) (⟨0, 2⟩ : Pt)) (turnP (⟨0, 0⟩ : Pt) (⟨2, 1⟩ : Pt) (⟨0, 2⟩ : Pt) / turnP (⟨0, 0⟩ : Pt) (⟨4, 0⟩ : Pt) (⟨0, 2⟩ : Pt)) (turnP (⟨0, 0⟩ : Pt) (⟨4, 0⟩ : Pt) (⟨2, 1⟩ : Pt) / turnP (⟨0, 0⟩ : Pt) (⟨4, 0⟩ : Pt) (⟨0, 2⟩ : Pt)) = 2 from by decide +kernel] at h
 exact h
theorem lv_int_0_0 (w : World) : Calls Tryz.prog 36 #[(vI 0), (vI 0)] w (Gives w (aG (ptL (⟨0, 0⟩ : Pt)))) := by
 have h := pInt_ok 0 0 (by decide) (by decide) (by decide) (by decide) w
 rw [show (⟨((0 : Int) : Rat), ((0 : Int) : Rat)⟩ : Pt) = (⟨0, 0⟩ : Pt) from by decide +kernel] at h
 exact h
theorem lv_int_4_0 (w : World) : Calls Tryz.prog 36 #[(vI 4), (vI 0)] w (Gives w (aG (ptL (⟨4, 0⟩ : Pt)))) := by
 have h := pInt_ok 4 0 (by decide) (by decide) (by decide) (by decide) w
 rw [show (⟨((4 : Int) : Rat), ((0 : Int) : Rat)⟩ : Pt) = (⟨4, 0⟩ : Pt) from by decide +kernel] at h
 exact h
theorem lv_int_0_2 (w : World) : Calls Tryz.prog 36 #[(vI 0), (vI 2)] w (Gives w (aG (ptL (⟨0, 2⟩ : Pt)))) := by
 have h := pInt_ok 0 2 (by decide) (by decide) (by decide) (by decide) w
 rw [show (⟨((0 : Int) : Rat), ((2 : Int) : Rat)⟩ : Pt) = (⟨0, 2⟩ : Pt) from by decide +kernel] at h
 exact h
theorem lv_int_1_1 (w : World) : Calls Tryz.prog 36 #[(vI 1), (vI 1)] w (Gives w (aG (ptL (⟨1, 1⟩ : Pt)))) := by
 have h := pInt_ok 1 1 (by decide) (by decide) (by decide) (by decide) w
 rw [show (⟨((1 : Int) : Rat), ((1 : Int) : Rat)⟩ : Pt) = (⟨1, 1⟩ : Pt) from by decide +kernel] at h
 exact h
theorem lv_int_2_1 (w : World) : Calls Tryz.prog 36 #[(vI 2), (vI 1)] w (Gives w (aG (ptL (⟨2, 1⟩ : Pt)))) := by
 have h := pInt_ok 2 1 (by decide) (by decide) (by decide) (by decide) w
 rw [show (⟨((2 : Int) : Rat), ((1 : Int) : Rat)⟩ : Pt) = (⟨2, 1⟩ : Pt) from by decide +kernel] at h
 exact h
theorem lv_int_8_0 (w : World) : Calls Tryz.prog 36 #[(vI 8), (vI 0)] w (Gives w (aG (ptL (⟨8, 0⟩ : Pt)))) := by
 have h := pInt_ok 8 0 (by decide) (by decide) (by decide) (by decide) w
 rw [show (⟨((8 : Int) : Rat), ((0 : Int) : Rat)⟩ : Pt) = (⟨8, 0⟩ : Pt) from by decide +kernel] at h
 exact h
set_option maxHeartbeats 2000000 in
theorem lives_ok  (w : World)  : Calls Tryz.prog 21 #[] w (Gives w (Value.bool true)) := by
 refine calls_of (args := []) Tryz.func21 rfl rfl (leB rfl) (OkC.subF (sN) (q4 (asg rfl rfl (OkL.nil (q2 ?_)))))
 refine cl Tryz.call36 (fun w hw => lv_int_0_0 w) rfl rfl rfl (al tZ38 rfl fun b1 => stW0 rfl rfl rfl Tryz.sizeOf38 rfl rfl (q3 (sC 0 rfl (sC 1 rfl (sN))) (cl Tryz.call36 (fun w hw => lv_int_4_0 w) rfl rfl rfl (al tZ38 rfl fun b2 => ?_))))
 refine stW0 rfl rfl rfl Tryz.sizeOf38 rfl rfl (q3 (sC 0 rfl (sC 1 rfl (sC 2 rfl (sN)))) (cl Tryz.call36 (fun w hw => lv_int_0_2 w) rfl rfl rfl (al tZ38 rfl fun b3 => stW0 rfl rfl rfl Tryz.sizeOf38 rfl rfl (q6 (sC 0 rfl (sC 1 rfl (sC 2 rfl (sC 3 rfl (sN))))) ?_))))
 refine rN [(0, true), (1, true), (2, true), (3, false), (4, false), (5, true), (6, true), (7, true)] [⟨8, 4, 56, fracL (0 : Rat) ++ fracL (0 : Rat) ++ fracL (0 : Rat)⟩] [(9, false), (10, true)] sr (by kernel_rfl) (fun _ _ d _ _ h => by cases d <;> exact h) (newC rfl rfl tZ56 rfl (newN)) rfl (uW 2 tA38 rfl rfl rfl rfl rfl rfl (uW 1 tA38 rfl rfl rfl rfl rfl rfl (uW 0 tA38 rfl rfl rfl rfl rfl rfl (OkN.imp rfl fun EF EL => cl Tryz.call36 (fun w hw => lv_int_1_1 w) rfl rfl rfl ?_))))
 refine OkN.back0 sr rfl (OkN.imp rfl fun EF EL => cl Tryz.call26 (fun w hw => lv_bary w) rfl rfl rfl (OkN.back0 sr rfl (uM rfl rfl rfl rfl (uE rfl (ex_extract (v := (aG (fracL (1 / 4 : Rat) ++ fracL (1 / 4 : Rat) ++ fracL (1 / 2 : Rat)))) rfl rfl) rfl rfl ?_))))
 refine uE rfl (ex_extract (v := (vI 0)) rfl rfl) rfl rfl (OkN.news1 fun b4 => OkE.imp rfl (stW0 rfl rfl rfl Tryz.sizeOf56 rfl rfl (OkE.back (sl sr) (pS rfl rfl rfl ?_))))
 refine OkE.nil (OkQ.subF (sC 0 rfl (sC 1 rfl (sC 2 rfl (sC 3 rfl (sC 4 rfl (sC 5 rfl (sN))))))) (q2 (ldW 3 tA38 rfl rfl rfl rfl (ldW 2 tA38 rfl rfl rfl rfl (ldW 1 tA38 rfl rfl rfl rfl ?_)))))
 refine cl Tryz.call12 (fun w hw => lv_grads w) rfl rfl rfl (mv rfl rfl (st (ex_extract (v := (aG (fracL (-1 / 4 : Rat) ++ fracL (-1 / 2 : Rat) ++ fracL (1 / 4 : Rat) ++ fracL (0 : Rat) ++ fracL (0 : Rat) ++ fracL (1 / 2 : Rat)))) rfl rfl) (leB rfl) (st (ex_extract (v := (vI 0)) rfl rfl) (leB rfl) (al tZ49 rfl fun b5 => stW0 rfl rfl rfl Tryz.sizeOf49 rfl rfl ?_))))
 refine asg rfl rfl (q3 (sC 0 rfl (sC 1 rfl (sC 2 rfl (sC 3 rfl (sC 4 rfl (sC 5 rfl (sC 6 rfl (sN)))))))) (ldW 4 tA38 rfl rfl rfl rfl (ldW 3 tA38 rfl rfl rfl rfl (ldW 2 tA38 rfl rfl rfl rfl (cl Tryz.call14 (fun w hw => lv_cots w) rfl rfl rfl ?_)))))
 refine mv rfl rfl (st (ex_extract (v := (aG (fracL (0 : Rat) ++ fracL (2 : Rat) ++ fracL (1 / 2 : Rat)))) rfl rfl) (leB rfl) (st (ex_extract (v := (vI 0)) rfl rfl) (leB rfl) (al tZ56 rfl fun b6 => stW0 rfl rfl rfl Tryz.sizeOf56 rfl rfl (asg rfl rfl ?_))))
 refine q3 (sC 0 rfl (sC 1 rfl (sC 2 rfl (sC 3 rfl (sC 4 rfl (sC 5 rfl (sC 6 rfl (sC 8 rfl (sN))))))))) (ldW 5 tA38 rfl rfl rfl rfl (ldW 4 tA38 rfl rfl rfl rfl (ldW 3 tA38 rfl rfl rfl rfl (cl Tryz.call16 (fun w hw => lv_shape w) rfl rfl rfl (mv rfl rfl ?_)))))
 refine st (ex_extract (v := (aG (fracL (1 / 5 : Rat) ++ fracL (4 / 5 : Rat)))) rfl rfl) (leB rfl) (st (ex_extract (v := (vI 0)) rfl rfl) (leB rfl) (al tZ62 rfl fun b7 => stW0 rfl rfl rfl Tryz.sizeOf62 rfl rfl (asg rfl rfl (q3 (sC 0 rfl (sC 1 rfl (sC 2 rfl (sC 3 rfl (sC 4 rfl (sC 5 rfl (sC 6 rfl (sC 8 rfl (sC 10 rfl (sN)))))))))) ?_))))
 refine ldW 6 tA38 rfl rfl rfl rfl (ldW 5 tA38 rfl rfl rfl rfl (ldW 4 tA38 rfl rfl rfl rfl (cl Tryz.call18 (fun w hw => lv_middle w) rfl rfl rfl (mv rfl rfl (st (ex_extract (v := (aG (ptL (⟨2, 1⟩ : Pt)))) rfl rfl) (leB rfl) ?_)))))
 refine st (ex_extract (v := (aG (fracL (5 : Rat)))) rfl rfl) (leB rfl) (st (ex_extract (v := (vI 0)) rfl rfl) (leB rfl) (al tZ38 rfl fun b8 => al tZ36 rfl fun b9 => stW1 rfl rfl rfl Tryz.sizeOf38 rfl rfl (stW0 rfl rfl rfl Tryz.sizeOf36 rfl rfl ?_)))
 refine asg rfl rfl (q6 (sC 0 rfl (sC 1 rfl (sC 2 rfl (sC 3 rfl (sC 4 rfl (sC 5 rfl (sC 6 rfl (sC 8 rfl (sC 10 rfl (sC 12 rfl (sC 13 rfl (sN)))))))))))) (rN [(0, true), (1, true), (2, false), (3, false), (4, true), (5, true), (6, true)] [⟨7, 15, 49, ptL (⟨0, 0⟩ : Pt) ++ ptL (⟨0, 0⟩ : Pt) ++ ptL (⟨0, 0⟩ : Pt)⟩] [(8, false), (9, true)] sr (by kernel_rfl) (fun _ _ d _ _ h => by cases d <;> exact h) (newC rfl rfl tZ49 rfl (newN)) rfl (uW 8 tA38 rfl rfl rfl rfl rfl rfl (uW 7 tA38 rfl rfl rfl rfl rfl rfl (OkN.imp rfl fun EF EL => ?_)))))
 refine cl Tryz.call36 (fun w hw => lv_int_8_0 w) rfl rfl rfl (OkN.back0 sr rfl (OkN.imp rfl fun EF EL => cl Tryz.call12 (fun w hw => lv_flat w) rfl rfl rfl (OkN.back0 sr rfl (uM rfl rfl rfl rfl ?_))))
 refine uE rfl (ex_extract (v := (aG (ptL (⟨0, 0⟩ : Pt) ++ ptL (⟨0, 0⟩ : Pt) ++ ptL (⟨0, 0⟩ : Pt)))) rfl rfl) rfl rfl (uE rfl (ex_extract (v := (vI 1)) rfl rfl) rfl rfl (OkN.news1 fun b10 => OkE.imp rfl (stW0 rfl rfl rfl Tryz.sizeOf49 rfl rfl (OkE.back (sl sr) ?_))))
 refine pS rfl rfl rfl (OkE.nil (OkQ.subF (sC 0 rfl (sC 1 rfl (sC 2 rfl (sC 3 rfl (sC 4 rfl (sC 5 rfl (sC 6 rfl (sC 8 rfl (sC 10 rfl (sC 12 rfl (sC 13 rfl (sC 16 rfl (sN))))))))))))) (q1 (rG [(0, true), (1, true), (2, true), (3, false), (4, false), (5, true), (6, true), (7, true), (8, true), (9, true), (10, true), (11, true), (12, true), (13, false), (14, true), (15, true), (16, true), (17, true), (18, true), (19, false), (20, true), (21, true), (22, true), (23, true), (24, true), (25, true), (26, false), (27, false), (28, true), (29, true), (30, true)] sr (by kernel_rfl) (fun _ _ d _ _ h => by cases d <;> exact h) (pW 9 tA38 rfl rfl rfl rfl rfl ?_)))))
 refine pW 8 tA38 rfl rfl rfl rfl rfl (pW 7 tA38 rfl rfl rfl rfl rfl (OkE.imp rfl (cl Tryz.call32 (fun w hw => lv_area w) rfl rfl rfl (OkE.back sr (OkE.imp rfl ?_)))))
 refine cl Tryz.call66 (fun w hw => fText_ok (4 : Rat) (by decide +kernel) (by decide +kernel) w) rfl rfl rfl (OkE.back sr (pE rfl (ex_eql_string (c := true) rfl rfl (by decide +kernel)) rfl (pM rfl rfl rfl (OkE.pas (v := (vI 0)) rfl (wt_some rfl rfl rfl) (ex_move rfl) rfl rfl (OkE.pas (v := (Value.bool true)) rfl (wt_some rfl rfl rfl) (ex_eql (c := true) rfl rfl (by decide)) rfl rfl ?_)))))
 refine pE (v := (Value.bool true)) rfl (ex_pick_true rfl rfl) rfl (pM rfl rfl rfl (OkE.pas (v := (pP b4 0)) rfl (wt_some rfl rfl rfl) (ex_indexAddr_array (j := 0) rfl rfl Tryz.underlying56 Tryz.sizeOf36 rfl (by decide) rfl) rfl rfl (OkE.pas (v := (aG (fracL (1 / 4 : Rat)))) rfl (wt_some rfl rfl rfl) (ex_load_agg (i := 6) (vs := fracL (1 / 4 : Rat)) rfl rfl tA36.a tA36.s rfl rfl) rfl rfl (OkE.imp rfl (OkL.call (v := (Value.string (textQ (1 / 4 : Rat)))) (wt_some rfl rfl rfl) (op_call0 (args := [(aG (fracL (1 / 4 : Rat)))]) rfl rfl Tryz.call66) (fun w hw => fText_ok (1 / 4 : Rat) (by decide +kernel) (by decide +kernel) w) rfl (leB rfl) ?_)))))
 refine OkE.back sr (OkE.pas (v := (Value.bool true)) rfl (wt_some rfl rfl rfl) (ex_eql_string (c := true) rfl rfl (by decide +kernel)) rfl rfl (pE (v := (Value.bool true)) rfl (ex_pick_true rfl rfl) rfl (pM rfl rfl rfl (OkE.pas (v := (pP b4 10)) rfl (wt_some rfl rfl rfl) (ex_indexAddr_array (j := 2) rfl rfl Tryz.underlying56 Tryz.sizeOf36 rfl (by decide) rfl) rfl rfl (OkE.pas (v := (aG (fracL (1 / 2 : Rat)))) rfl (wt_some rfl rfl rfl) (ex_load_agg (i := 6) (vs := fracL (1 / 2 : Rat)) rfl rfl tA36.a tA36.s rfl rfl) rfl rfl ?_)))))
 refine OkE.imp rfl (OkL.call (v := (Value.string (textQ (1 / 2 : Rat)))) (wt_some rfl rfl rfl) (op_call0 (args := [(aG (fracL (1 / 2 : Rat)))]) rfl rfl Tryz.call66) (fun w hw => fText_ok (1 / 2 : Rat) (by decide +kernel) (by decide +kernel) w) rfl (leB rfl) (OkE.back sr (OkE.pas (v := (Value.bool true)) rfl (wt_some rfl rfl rfl) (ex_eql_string (c := true) rfl rfl (by decide +kernel)) rfl rfl (pE (v := (Value.bool true)) rfl (ex_pick_true rfl rfl) rfl (pM rfl rfl rfl ?_)))))
 refine OkE.pas (v := (aG (ptL (⟨0, 0⟩ : Pt)))) rfl (wt_some rfl rfl rfl) (ex_load_agg (i := 9) (vs := ptL (⟨0, 0⟩ : Pt)) rfl rfl tA38.a tA38.s rfl rfl) rfl rfl (OkE.pas (v := (aG (ptL (⟨4, 0⟩ : Pt)))) rfl (wt_some rfl rfl rfl) (ex_load_agg (i := 8) (vs := ptL (⟨4, 0⟩ : Pt)) rfl rfl tA38.a tA38.s rfl rfl) rfl rfl (OkE.pas (v := (aG (ptL (⟨0, 2⟩ : Pt)))) rfl (wt_some rfl rfl rfl) (ex_load_agg (i := 7) (vs := ptL (⟨0, 2⟩ : Pt)) rfl rfl tA38.a tA38.s rfl rfl) rfl rfl (OkE.imp rfl (OkL.call (v := (aG (ptL (⟨2, 1⟩ : Pt)))) (wt_some rfl rfl rfl) (op_call0 (args := [(vI 2), (vI 1)]) rfl rfl Tryz.call36) (fun w hw => lv_int_2_1 w) rfl (leB rfl) (OkE.back sr ?_)))))
 refine OkE.imp rfl (OkL.call (v := (vI 2)) (wt_some rfl rfl rfl) (op_call0 (args := [(aG (ptL (⟨0, 0⟩ : Pt))), (aG (ptL (⟨4, 0⟩ : Pt))), (aG (ptL (⟨0, 2⟩ : Pt))), (aG (ptL (⟨2, 1⟩ : Pt)))]) rfl rfl Tryz.call34) (fun w hw => lv_where w) rfl (leB rfl) (OkE.back sr (OkE.pas (v := (Value.bool true)) rfl (wt_some rfl rfl rfl) (ex_eql (c := true) rfl rfl (by decide)) rfl rfl (pE (v := (Value.bool true)) rfl (ex_pick_true rfl rfl) rfl (pS rfl rfl rfl ?_)))))
 refine OkE.nil (OkQ.subF (sC 0 rfl (sC 1 rfl (sC 2 rfl (sC 3 rfl (sC 4 rfl (sC 6 rfl (sC 8 rfl (sC 10 rfl (sC 12 rfl (sC 13 rfl (sC 16 rfl (sC 17 rfl (sN))))))))))))) (q2 (st (v := (pP b5 0)) (ex_indexAddr_array (j := 0) rfl rfl Tryz.underlying49 Tryz.sizeOf38 rfl (by decide) rfl) (leB rfl) (st (v := (pP b5 0)) (ex_fieldAddr rfl Tryz.underlying38 rfl Tryz.sizeOf36 rfl) (leB rfl) (ldA 5 (fracL (-1 / 4 : Rat)) tA36 rfl rfl rfl rfl rfl ?_)))))
 refine cl Tryz.call66 (fun w hw => fText_ok (-1 / 4 : Rat) (by decide +kernel) (by decide +kernel) w) rfl rfl rfl (st (ex_eql_string (c := true) rfl rfl (by decide +kernel)) (leB rfl) (mv rfl rfl (OkL.step (v := (pP b5 0)) (wt_some rfl rfl rfl) (ex_indexAddr_array (j := 0) rfl rfl Tryz.underlying49 Tryz.sizeOf38 rfl (by decide) rfl) rfl (leB rfl) (OkL.step (v := (pP b5 5)) (wt_some rfl rfl rfl) (ex_fieldAddr rfl Tryz.underlying38 rfl Tryz.sizeOf36 rfl) rfl (leB rfl) (OkL.step (v := (aG (fracL (-1 / 2 : Rat)))) (wt_some rfl rfl rfl) (ex_load_agg (i := 5) (vs := fracL (-1 / 2 : Rat)) rfl rfl tA36.a tA36.s rfl rfl) rfl (leB rfl) ?_)))))
 refine OkL.call (v := (Value.string (textQ (-1 / 2 : Rat)))) (wt_some rfl rfl rfl) (op_call0 (args := [(aG (fracL (-1 / 2 : Rat)))]) rfl rfl Tryz.call66) (fun w hw => fText_ok (-1 / 2 : Rat) (by decide +kernel) (by decide +kernel) w) rfl (leB rfl) (OkL.step (v := (Value.bool true)) (wt_some rfl rfl rfl) (ex_eql_string (c := true) rfl rfl (by decide +kernel)) rfl (leB rfl) (st (v := (Value.bool true)) (ex_pick_true rfl rfl) (leB rfl) (mv rfl rfl (OkL.step (v := (pP b6 5)) (wt_some rfl rfl rfl) (ex_indexAddr_array (j := 1) rfl rfl Tryz.underlying56 Tryz.sizeOf36 rfl (by decide) rfl) rfl (leB rfl) (OkL.step (v := (aG (fracL (2 : Rat)))) (wt_some rfl rfl rfl) (ex_load_agg (i := 4) (vs := fracL (2 : Rat)) rfl rfl tA36.a tA36.s rfl rfl) rfl (leB rfl) ?_)))))
 refine OkL.call (v := (Value.string (textQ (2 : Rat)))) (wt_some rfl rfl rfl) (op_call0 (args := [(aG (fracL (2 : Rat)))]) rfl rfl Tryz.call66) (fun w hw => fText_ok (2 : Rat) (by decide +kernel) (by decide +kernel) w) rfl (leB rfl) (OkL.step (v := (Value.bool true)) (wt_some rfl rfl rfl) (ex_eql_string (c := true) rfl rfl (by decide +kernel)) rfl (leB rfl) (st (v := (Value.bool true)) (ex_pick_true rfl rfl) (leB rfl) (mv rfl rfl (OkL.step (v := (pP b6 0)) (wt_some rfl rfl rfl) (ex_indexAddr_array (j := 0) rfl rfl Tryz.underlying56 Tryz.sizeOf36 rfl (by decide) rfl) rfl (leB rfl) (OkL.step (v := (aG (fracL (0 : Rat)))) (wt_some rfl rfl rfl) (ex_load_agg (i := 4) (vs := fracL (0 : Rat)) rfl rfl tA36.a tA36.s rfl rfl) rfl (leB rfl) ?_)))))
 refine OkL.call (v := (vI 0)) (wt_some rfl rfl rfl) (op_call0 (args := [(aG (fracL (0 : Rat)))]) rfl rfl Tryz.call20) (fun w hw => fSign_ok (0 : Rat) w) rfl (leB rfl) (OkL.step (v := (Value.bool true)) (wt_some rfl rfl rfl) (ex_eql (c := true) rfl rfl (by decide)) rfl (leB rfl) (st (v := (Value.bool true)) (ex_pick_true rfl rfl) (leB rfl) (asg rfl rfl (q6 (sC 0 rfl (sC 1 rfl (sC 2 rfl (sC 3 rfl (sC 4 rfl (sC 6 rfl (sC 8 rfl (sC 10 rfl (sC 12 rfl (sC 13 rfl (sC 16 rfl (sC 17 rfl (sC 18 rfl (sN)))))))))))))) (rG [(0, true), (1, true), (2, true), (3, true), (4, true), (5, true), (6, true), (7, false), (8, true), (9, true), (10, true), (11, true), (12, true), (13, false), (14, true), (15, true), (16, true), (17, true), (18, false), (19, true), (20, true), (21, true), (22, true), (23, false), (24, true), (25, true), (26, true), (27, true), (28, true), (29, true), (30, true)] sr (by kernel_rfl) (fun _ _ d _ _ h => by cases d <;> exact h) ?_)))))
 refine pM rfl rfl rfl (pM rfl rfl rfl (OkE.pas (v := (Value.bool true)) rfl (wt_some rfl rfl rfl) (ex_move rfl) rfl rfl (pE (v := (Value.bool true)) rfl (ex_pick_true rfl rfl) rfl (pM rfl rfl rfl (OkE.pas (v := (pP b7 0)) rfl (wt_some rfl rfl rfl) (ex_indexAddr_array (j := 0) rfl rfl Tryz.underlying62 Tryz.sizeOf36 rfl (by decide) rfl) rfl rfl ?_)))))
 refine OkE.pas (v := (aG (fracL (1 / 5 : Rat)))) rfl (wt_some rfl rfl rfl) (ex_load_agg (i := 3) (vs := fracL (1 / 5 : Rat)) rfl rfl tA36.a tA36.s rfl rfl) rfl rfl (OkE.imp rfl (OkL.call (v := (Value.string (textQ (1 / 5 : Rat)))) (wt_some rfl rfl rfl) (op_call0 (args := [(aG (fracL (1 / 5 : Rat)))]) rfl rfl Tryz.call66) (fun w hw => fText_ok (1 / 5 : Rat) (by decide +kernel) (by decide +kernel) w) rfl (leB rfl) (OkE.back sr (OkE.pas (v := (Value.bool true)) rfl (wt_some rfl rfl rfl) (ex_eql_string (c := true) rfl rfl (by decide +kernel)) rfl rfl (pE (v := (Value.bool true)) rfl (ex_pick_true rfl rfl) rfl ?_)))))
 refine pM rfl rfl rfl (OkE.pas (v := (pP b7 5)) rfl (wt_some rfl rfl rfl) (ex_indexAddr_array (j := 1) rfl rfl Tryz.underlying62 Tryz.sizeOf36 rfl (by decide) rfl) rfl rfl (OkE.pas (v := (aG (fracL (4 / 5 : Rat)))) rfl (wt_some rfl rfl rfl) (ex_load_agg (i := 3) (vs := fracL (4 / 5 : Rat)) rfl rfl tA36.a tA36.s rfl rfl) rfl rfl (OkE.imp rfl (OkL.call (v := (Value.string (textQ (4 / 5 : Rat)))) (wt_some rfl rfl rfl) (op_call0 (args := [(aG (fracL (4 / 5 : Rat)))]) rfl rfl Tryz.call66) (fun w hw => fText_ok (4 / 5 : Rat) (by decide +kernel) (by decide +kernel) w) rfl (leB rfl) (OkE.back sr ?_)))))
 refine OkE.pas (v := (Value.bool true)) rfl (wt_some rfl rfl rfl) (ex_eql_string (c := true) rfl rfl (by decide +kernel)) rfl rfl (pE (v := (Value.bool true)) rfl (ex_pick_true rfl rfl) rfl (pM rfl rfl rfl (OkE.pas (v := (aG (ptL (⟨2, 1⟩ : Pt)))) rfl (wt_some rfl rfl rfl) (ex_load_agg (i := 2) (vs := ptL (⟨2, 1⟩ : Pt)) rfl rfl tA38.a tA38.s rfl rfl) rfl rfl (OkE.imp rfl (OkL.call (v := (aG (ptL (⟨2, 1⟩ : Pt)))) (wt_some rfl rfl rfl) (op_call0 (args := [(vI 2), (vI 1)]) rfl rfl Tryz.call36) (fun w hw => lv_int_2_1 w) rfl (leB rfl) ?_)))))
 refine OkE.back sr (OkE.pas (v := (Value.bool true)) rfl (wt_some rfl rfl rfl) (ex_eql_agg (c := true) rfl rfl Tryz.eqGuardType38 (eqB_pt_t 9994 rfl)) rfl rfl (pE (v := (Value.bool true)) rfl (ex_pick_true rfl rfl) rfl (pM rfl rfl rfl (OkE.pas (v := (aG (fracL (5 : Rat)))) rfl (wt_some rfl rfl rfl) (ex_load_agg (i := 1) (vs := fracL (5 : Rat)) rfl rfl tA36.a tA36.s rfl rfl) rfl rfl (OkE.imp rfl ?_)))))
 refine OkL.call (v := (Value.string (textQ (5 : Rat)))) (wt_some rfl rfl rfl) (op_call0 (args := [(aG (fracL (5 : Rat)))]) rfl rfl Tryz.call66) (fun w hw => fText_ok (5 : Rat) (by decide +kernel) (by decide +kernel) w) rfl (leB rfl) (OkE.back sr (OkE.pas (v := (Value.bool true)) rfl (wt_some rfl rfl rfl) (ex_eql_string (c := true) rfl rfl (by decide +kernel)) rfl rfl (pE (v := (Value.bool true)) rfl (ex_pick_true rfl rfl) rfl (pM rfl rfl rfl (OkE.pas (v := (vI 1)) rfl (wt_some rfl rfl rfl) (ex_move rfl) rfl rfl ?_)))))
 refine OkE.pas (v := (Value.bool true)) rfl (wt_some rfl rfl rfl) (ex_eql (c := true) rfl rfl (by decide)) rfl rfl (pE (v := (Value.bool true)) rfl (ex_pick_true rfl rfl) rfl (pS rfl rfl rfl (OkE.nil (OkQ.subF (sC 0 rfl (sC 1 rfl (sC 2 rfl (sC 3 rfl (sC 4 rfl (sC 6 rfl (sC 8 rfl (sC 10 rfl (sC 12 rfl (sC 13 rfl (sN))))))))))) (OkQ.then_ ?_)))))
 exact OkC.ret (ret_one rfl (rd_tmp (v := (Value.bool true)) rfl) (fun w hw => ⟨rfl, hw.out⟩))
end
theorem add_x (a b : Pt) : (a + b).x = a.x + b.x := rfl
theorem add_y (a b : Pt) : (a + b).y = a.y + b.y := rfl
theorem sub_x (a b : Pt) : (a - b).x = a.x - b.x := rfl
theorem sub_y (a b : Pt) : (a - b).y = a.y - b.y := rfl
theorem scale_x (a : Pt) (k : Rat) : (scaleP a k).x = a.x * k := rfl
theorem scale_y (a : Pt) (k : Rat) : (scaleP a k).y = a.y * k := rfl
theorem turn_def (a b c : Pt) : turnP a b c = (b.x - a.x) * (c.y - a.y) - (b.y - a.y) * (c.x - a.x) := rfl
theorem dot_def (a b : Pt) : dotP a b = a.x * b.x + a.y * b.y := rfl
def midP (a b c : Pt) : Pt := a + scaleP (scaleP ⟨(c - a).y, -(c - a).x⟩ (dotP (b - a) (b - a)) - scaleP ⟨(b - a).y, -(b - a).x⟩ (dotP (c - a) (c - a))) (((1 : Int) : Rat) / (((2 : Int) : Rat) * crossP (b - a) (c - a)))
theorem triQ (a b : Rat) : a < b ∨ a = b ∨ b < a := by grind
theorem sort3_le (x y z : Rat) : (sort3 x y z).1 ≤ (sort3 x y z).2.1 ∧ (sort3 x y z).2.1 ≤ (sort3 x y z).2.2 := by
  unfold sort3
  grind
theorem sort3_pos {x y z : Rat} (hx : 0 < x) (hy : 0 < y) (hz : 0 < z) : 0 < (sort3 x y z).1 := by
  unfold sort3
  grind
theorem sq_nonneg (x : Rat) : 0 ≤ x * x := by
  rcases triQ x 0 with h | h | h
  · have := Rat.mul_pos (a := -x) (b := -x) (by grind) (by grind); grind
  · subst h; grind
  · have := Rat.mul_pos h h; grind
theorem dot_pos {p : Pt} (h : p.x ≠ 0 ∨ p.y ≠ 0) : 0 < dotP p p := by
  have h1 := sq_nonneg p.x
  have h2 := sq_nonneg p.y
  rw [dot_def]
  rcases h with h | h
  · have h3 : p.x * p.x ≠ 0 := fun e => by rcases Rat.mul_eq_zero.1 e with e | e <;> exact h e
    grind
  · have h3 : p.y * p.y ≠ 0 := fun e => by rcases Rat.mul_eq_zero.1 e with e | e <;> exact h e
    grind
theorem side_pos {a b c : Pt} (h : turnP a b c ≠ 0) : 0 < dotP (b - a) (b - a) := by
  refine dot_pos ?_
  apply Classical.byContradiction
  intro e
  refine h ?_
  have h1 : (b - a).x = 0 := Classical.byContradiction fun k => e (.inl k)
  have h2 : (b - a).y = 0 := Classical.byContradiction fun k => e (.inr k)
  show (b - a).x * (c - a).y - (b - a).y * (c - a).x = 0
  rw [h1, h2]; grind
theorem turn_cyc (a b c : Pt) : turnP b c a = turnP a b c := by simp only [turn_def]; grind
theorem sides_pos {a b c : Pt} (h : turnP a b c ≠ 0) : 0 < dotP (b - a) (b - a) ∧ 0 < dotP (c - b) (c - b) ∧ 0 < dotP (a - c) (a - c) :=
  ⟨side_pos h, side_pos (c := a) (by rw [turn_cyc]; exact h), side_pos (c := b) (by rw [turn_cyc, turn_cyc]; exact h)⟩
def shapeS (a b c : Pt) : Rat × Rat × Rat := sort3 (dotP (b - a) (b - a)) (dotP (c - b) (c - b)) (dotP (a - c) (a - c))
theorem shape_pos {a b c : Pt} (h : turnP a b c ≠ 0) : 0 < (shapeS a b c).1 ∧ (shapeS a b c).1 ≤ (shapeS a b c).2.1 ∧ (shapeS a b c).2.1 ≤ (shapeS a b c).2.2 := by
  obtain ⟨h1, h2, h3⟩ := sides_pos h
  exact ⟨sort3_pos h1 h2 h3, sort3_le _ _ _⟩
theorem SzP_mid {a b c : Pt} (h : turnP a b c ≠ 0) (ha : SzP a ≤ 4) (hb : SzP b ≤ 4) (hc : SzP c ≤ 4) : SzP (midP a b c) ≤ 200 := by
  have h2 := two_ne h
  have e : crossP (b - a) (c - a) = turnP a b c := rfl
  unfold midP
  rw [e]
  have u := SzP_sub b a
  have v := SzP_sub c a
  have uu := Sz_dot (b - a) (b - a)
  have vv := Sz_dot (c - a) (c - a)
  have r1 := SzP_right (c - a)
  have r2 := SzP_right (b - a)
  have k1 := SzP_scale ⟨(c - a).y, -(c - a).x⟩ (dotP (b - a) (b - a))
  have k2 := SzP_scale ⟨(b - a).y, -(b - a).x⟩ (dotP (c - a) (c - a))
  have w := SzP_sub (scaleP ⟨(c - a).y, -(c - a).x⟩ (dotP (b - a) (b - a))) (scaleP ⟨(b - a).y, -(b - a).x⟩ (dotP (c - a) (c - a)))
  have t := Sz_turn a b c
  have s1 := Sz_int (z := 1) (by omega) (by omega)
  have s2 := Sz_int (z := 2) (by omega) (by omega)
  have m := Sz_mul ((2 : Int) : Rat) (turnP a b c)
  have d := Sz_div (a := ((1 : Int) : Rat)) h2
  have k := SzP_scale (scaleP ⟨(c - a).y, -(c - a).x⟩ (dotP (b - a) (b - a)) - scaleP ⟨(b - a).y, -(b - a).x⟩ (dotP (c - a) (c - a))) (((1 : Int) : Rat) / (((2 : Int) : Rat) * turnP a b c))
  have z := SzP_add a (scaleP (scaleP ⟨(c - a).y, -(c - a).x⟩ (dotP (b - a) (b - a)) - scaleP ⟨(b - a).y, -(b - a).x⟩ (dotP (c - a) (c - a))) (((1 : Int) : Rat) / (((2 : Int) : Rat) * turnP a b c)))
  omega
theorem SzP_grad {T : Rat} (h : T ≠ 0) (d : Pt) : SzP ⟨-d.y / T, d.x / T⟩ ≤ SzP d + Sz T := by
  have h1 := SzP_x d
  have h2 := SzP_y d
  have h3 := Sz_div (a := -d.y) h
  have h4 := Sz_div (a := d.x) h
  rw [Sz_neg] at h3
  exact SzP_le (by show Sz (-d.y / T) ≤ _; omega) (by show Sz (d.x / T) ≤ _; omega)
section
theorem bary_ref {a b c : Pt} (t : Pt × Pt × Pt) (h : turnP a b c ≠ 0) : areaR t.1 t.2.1 t.2.2 / areaR a b c = turnP t.1 t.2.1 t.2.2 / turnP a b c := by
  unfold areaR
  have h2 : ((2 : Int) : Rat) ≠ 0 := by decide +kernel
  generalize turnP a b c = T at *
  generalize ((2 : Int) : Rat) = k at *
  grind
section
variable {P : Program} {ops : Array Oper} {rest : List Oper} {Q : Exit → Act → World → Prop} {n d : Nat} {F : List (Nat × Value)} {w0 : Base} {L : List As} {t : TypeId} {p : String} {af : Array Edge} {y : Operand} {f : FuncId} {xs : List Operand} {args : List Value} {ts : Array TypeId}
end
end
end Go.Proofs.YtpkoldfmbebmgaaGreatDoor
