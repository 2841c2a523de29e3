import Derived.Test.YtpkoldfmbebmgaaGreatDoorPart07
import Derived.Test.YtpkoldfmbebmgaaGreatDoorPart27
import Derived.Test.YtpkoldfmbebmgaaGreatDoorPart37
import Derived.Test.YtpkoldfmbebmgaaGreatDoorPart39
namespace Go.Proofs.YtpkoldfmbebmgaaGreatDoor
open Go Go.RowKit
set_option linter.unusedVariables false
set_option linter.unusedSimpArgs false
section
set_option maxRecDepth 100000
theorem lv_bary (w : World) : Calls Tryz.prog 26 #[(aG (ptL (⟨0, 0⟩ : Pt))), (aG (ptL (⟨4, 0⟩ : Pt))), (aG (ptL (⟨0, 2⟩ : Pt))), (aG (ptL (⟨1, 1⟩ : Pt)))] w (Gives w (Value.tuple #[(aG (fracL (1 / 4 : Rat) ++ fracL (1 / 4 : Rat) ++ fracL (1 / 2 : Rat))), (vI 0)])) := by
 have h := Bary_ok (⟨0, 0⟩ : Pt) (⟨4, 0⟩ : Pt) (⟨0, 2⟩ : Pt) (⟨1, 1⟩ : Pt) (by decide +kernel) (by decide +kernel) w
 rw [show turnP (⟨1, 1⟩ : Pt) (⟨4, 0⟩ : Pt) (⟨0, 2⟩ : Pt) / turnP (⟨0, 0⟩ : Pt) (⟨4, 0⟩ : Pt) (⟨0, 2⟩ : Pt) = (1 / 4 : Rat) from by decide +kernel] at h
 rw [show turnP (⟨0, 0⟩ : Pt) (⟨1, 1⟩ : Pt) (⟨0, 2⟩ : Pt) / turnP (⟨0, 0⟩ : Pt) (⟨4, 0⟩ : Pt) (⟨0, 2⟩ : Pt) = (1 / 4 : Rat) from by decide +kernel] at h
 rw [show turnP (⟨0, 0⟩ : Pt) (⟨4, 0⟩ : Pt) (⟨1, 1⟩ : Pt) / turnP (⟨0, 0⟩ : Pt) (⟨4, 0⟩ : Pt) (⟨0, 2⟩ : Pt) = (1 / 2 : Rat) from by decide +kernel] at h
 exact h
theorem lv_grads (w : World) : Calls Tryz.prog 12 #[(aG (ptL (⟨0, 0⟩ : Pt))), (aG (ptL (⟨4, 0⟩ : Pt))), (aG (ptL (⟨0, 2⟩ : Pt)))] w (Gives w (Value.tuple #[(aG (fracL (-1 / 4 : Rat) ++ fracL (-1 / 2 : Rat) ++ fracL (1 / 4 : Rat) ++ fracL (0 : Rat) ++ fracL (0 : Rat) ++ fracL (1 / 2 : Rat))), (vI 0)])) := by
 have h := Grads_ok (⟨0, 0⟩ : Pt) (⟨4, 0⟩ : Pt) (⟨0, 2⟩ : Pt) (by decide +kernel) (by decide +kernel) w
 rw [show -((⟨0, 2⟩ : Pt) - (⟨4, 0⟩ : Pt)).y / turnP (⟨0, 0⟩ : Pt) (⟨4, 0⟩ : Pt) (⟨0, 2⟩ : Pt) = (-1 / 4 : Rat) from by decide +kernel, show ((⟨0, 2⟩ : Pt) - (⟨4, 0⟩ : Pt)).x / turnP (⟨0, 0⟩ : Pt) (⟨4, 0⟩ : Pt) (⟨0, 2⟩ : Pt) = (-1 / 2 : Rat) from by decide +kernel] at h
 rw [show -((⟨0, 0⟩ : Pt) - (⟨0, 2⟩ : Pt)).y / turnP (⟨0, 0⟩ : Pt) (⟨4, 0⟩ : Pt) (⟨0, 2⟩ : Pt) = (1 / 4 : Rat) from by decide +kernel, show ((⟨0, 0⟩ : Pt) - (⟨0, 2⟩ : Pt)).x / turnP (⟨0, 0⟩ : Pt) (⟨4, 0⟩ : Pt) (⟨0, 2⟩ : Pt) = (0 : Rat) from by decide +kernel] at h
 rw [show -((⟨4, 0⟩ : Pt) - (⟨0, 0⟩ : Pt)).y / turnP (⟨0, 0⟩ : Pt) (⟨4, 0⟩ : Pt) (⟨0, 2⟩ : Pt) = (0 : Rat) from by decide +kernel, show ((⟨4, 0⟩ : Pt) - (⟨0, 0⟩ : Pt)).x / turnP (⟨0, 0⟩ : Pt) (⟨4, 0⟩ : Pt) (⟨0, 2⟩ : Pt) = (1 / 2 : Rat) from by decide +kernel] at h
 exact h
theorem lv_cots (w : World) : Calls Tryz.prog 14 #[(aG (ptL (⟨0, 0⟩ : Pt))), (aG (ptL (⟨4, 0⟩ : Pt))), (aG (ptL (⟨0, 2⟩ : Pt)))] w (Gives w (Value.tuple #[(aG (fracL (0 : Rat) ++ fracL (2 : Rat) ++ fracL (1 / 2 : Rat))), (vI 0)])) := by
 have h := Cots_ok (⟨0, 0⟩ : Pt) (⟨4, 0⟩ : Pt) (⟨0, 2⟩ : Pt) (by decide +kernel) (by decide +kernel) w
 rw [show dotP ((⟨4, 0⟩ : Pt) - (⟨0, 0⟩ : Pt)) ((⟨0, 2⟩ : Pt) - (⟨0, 0⟩ : Pt)) / absQ (turnP (⟨0, 0⟩ : Pt) (⟨4, 0⟩ : Pt) (⟨0, 2⟩ : Pt)) = (0 : Rat) from by decide +kernel] at h
 rw [show dotP ((⟨0, 2⟩ : Pt) - (⟨4, 0⟩ : Pt)) ((⟨0, 0⟩ : Pt) - (⟨4, 0⟩ : Pt)) / absQ (turnP (⟨0, 0⟩ : Pt) (⟨4, 0⟩ : Pt) (⟨0, 2⟩ : Pt)) = (2 : Rat) from by decide +kernel] at h
 rw [show dotP ((⟨0, 0⟩ : Pt) - (⟨0, 2⟩ : Pt)) ((⟨4, 0⟩ : Pt) - (⟨0, 2⟩ : Pt)) / absQ (turnP (⟨0, 0⟩ : Pt) (⟨4, 0⟩ : Pt) (⟨0, 2⟩ : Pt)) = (1 / 2 : Rat) from by decide +kernel] at h
 exact h
theorem lv_shape (w : World) : Calls Tryz.prog 16 #[(aG (ptL (⟨0, 0⟩ : Pt))), (aG (ptL (⟨4, 0⟩ : Pt))), (aG (ptL (⟨0, 2⟩ : Pt)))] w (Gives w (Value.tuple #[(aG (fracL (1 / 5 : Rat) ++ fracL (4 / 5 : Rat))), (vI 0)])) := by
 have h := Shape_ok (⟨0, 0⟩ : Pt) (⟨4, 0⟩ : Pt) (⟨0, 2⟩ : Pt) (by decide +kernel) (by decide +kernel) (by decide +kernel) w
 rw [show (sort3 (dotP ((⟨4, 0⟩ : Pt) - (⟨0, 0⟩ : Pt)) ((⟨4, 0⟩ : Pt) - (⟨0, 0⟩ : Pt))) (dotP ((⟨0, 2⟩ : Pt) - (⟨4, 0⟩ : Pt)) ((⟨0, 2⟩ : Pt) - (⟨4, 0⟩ : Pt))) (dotP ((⟨0, 0⟩ : Pt) - (⟨0, 2⟩ : Pt)) ((⟨0, 0⟩ : Pt) - (⟨0, 2⟩ : Pt)))).1 / (sort3 (dotP ((⟨4, 0⟩ : Pt) - (⟨0, 0⟩ : Pt)) ((⟨4, 0⟩ : Pt) - (⟨0, 0⟩ : Pt))) (dotP ((⟨0, 2⟩ : Pt) - (⟨4, 0⟩ : Pt)) ((⟨0, 2⟩ : Pt) - (⟨4, 0⟩ : Pt))) (dotP ((⟨0, 0⟩ : Pt) - (⟨0, 2⟩ : Pt)) ((⟨0, 0⟩ : Pt) - (⟨0, 2⟩ : Pt)))).2.2 = (1 / 5 : Rat) from by decide +kernel] at h
 rw [show (sort3 (dotP ((⟨4, 0⟩ : Pt) - (⟨0, 0⟩ : Pt)) ((⟨4, 0⟩ : Pt) - (⟨0, 0⟩ : Pt))) (dotP ((⟨0, 2⟩ : Pt) - (⟨4, 0⟩ : Pt)) ((⟨0, 2⟩ : Pt) - (⟨4, 0⟩ : Pt))) (dotP ((⟨0, 0⟩ : Pt) - (⟨0, 2⟩ : Pt)) ((⟨0, 0⟩ : Pt) - (⟨0, 2⟩ : Pt)))).2.1 / (sort3 (dotP ((⟨4, 0⟩ : Pt) - (⟨0, 0⟩ : Pt)) ((⟨4, 0⟩ : Pt) - (⟨0, 0⟩ : Pt))) (dotP ((⟨0, 2⟩ : Pt) - (⟨4, 0⟩ : Pt)) ((⟨0, 2⟩ : Pt) - (⟨4, 0⟩ : Pt))) (dotP ((⟨0, 0⟩ : Pt) - (⟨0, 2⟩ : Pt)) ((⟨0, 0⟩ : Pt) - (⟨0, 2⟩ : Pt)))).2.2 = (4 / 5 : Rat) from by decide +kernel] at h
 exact h
theorem lv_middle (w : World) : Calls Tryz.prog 18 #[(aG (ptL (⟨0, 0⟩ : Pt))), (aG (ptL (⟨4, 0⟩ : Pt))), (aG (ptL (⟨0, 2⟩ : Pt)))] w (Gives w (Value.tuple #[(aG (ptL (⟨2, 1⟩ : Pt))), (aG (fracL (5 : Rat))), (vI 0)])) := by
 have h := Middle_ok (⟨0, 0⟩ : Pt) (⟨4, 0⟩ : Pt) (⟨0, 2⟩ : Pt) (by decide +kernel) (by decide +kernel) w
 rw [show (⟨0, 0⟩ : Pt) + scaleP (scaleP ⟨((⟨0, 2⟩ : Pt) - (⟨0, 0⟩ : Pt)).y, -((⟨0, 2⟩ : Pt) - (⟨0, 0⟩ : Pt)).x⟩ (dotP ((⟨4, 0⟩ : Pt) - (⟨0, 0⟩ : Pt)) ((⟨4, 0⟩ : Pt) - (⟨0, 0⟩ : Pt))) - scaleP ⟨((⟨4, 0⟩ : Pt) - (⟨0, 0⟩ : Pt)).y, -((⟨4, 0⟩ : Pt) - (⟨0, 0⟩ : Pt)).x⟩ (dotP ((⟨0, 2⟩ : Pt) - (⟨0, 0⟩ : Pt)) ((⟨0, 2⟩ : Pt) - (⟨0, 0⟩ : Pt)))) (((1 : Int) : Rat) / (((2 : Int) : Rat) * crossP ((⟨4, 0⟩ : Pt) - (⟨0, 0⟩ : Pt)) ((⟨0, 2⟩ : Pt) - (⟨0, 0⟩ : Pt)))) = (⟨2, 1⟩ : Pt) from by decide +kernel] at h
 rw [show dotP ((⟨0, 0⟩ : Pt) - (⟨2, 1⟩ : Pt)) ((⟨0, 0⟩ : Pt) - (⟨2, 1⟩ : Pt)) = (5 : Rat) from by decide +kernel] at h
 exact h
theorem lv_flat (w : World) : Calls Tryz.prog 12 #[(aG (ptL (⟨0, 0⟩ : Pt))), (aG (ptL (⟨4, 0⟩ : Pt))), (aG (ptL (⟨8, 0⟩ : Pt)))] w (Gives w (Value.tuple #[(aG (ptL (⟨0, 0⟩ : Pt) ++ ptL (⟨0, 0⟩ : Pt) ++ ptL (⟨0, 0⟩ : Pt))), (vI 1)])) := by
 have h := Grads0_ok (⟨0, 0⟩ : Pt) (⟨4, 0⟩ : Pt) (⟨8, 0⟩ : Pt) (by decide +kernel) (by decide +kernel) w
 exact h
theorem lv_area (w : World) : Calls Tryz.prog 32 #[(aG (ptL (⟨0, 0⟩ : Pt))), (aG (ptL (⟨4, 0⟩ : Pt))), (aG (ptL (⟨0, 2⟩ : Pt)))] w (Gives w (aG (fracL (4 : Rat)))) := by
 have h := Area_ok (⟨0, 0⟩ : Pt) (⟨4, 0⟩ : Pt) (⟨0, 2⟩ : Pt) (by decide +kernel) w
 rw [show turnP (⟨0, 0⟩ : Pt) (⟨4, 0⟩ : Pt) (⟨0, 2⟩ : Pt) * (1 / 2) = (4 : Rat) from by decide +kernel] at h
 exact h
theorem lv_where (w : World) : Calls Tryz.prog 34 #[(aG (ptL (⟨0, 0⟩ : Pt))), (aG (ptL (⟨4, 0⟩ : Pt))), (aG (ptL (⟨0, 2⟩ : Pt))), (aG (ptL (⟨2, 1⟩ : Pt)))] w (Gives w (vI 2)) := by
 have h := Where_ok (⟨0, 0⟩ : Pt) (⟨4, 0⟩ : Pt) (⟨0, 2⟩ : Pt) (⟨2, 1⟩ : Pt) (by decide +kernel) (by decide +kernel) w
 rw [show whereN (turnP (⟨2, 1⟩ : Pt) (⟨4, 0⟩ : Pt) (⟨0, 2⟩ : Pt) / turnP (⟨0, 0⟩ : Pt) (⟨4, 0⟩ : Pt) (⟨0, 2⟩ : Pt)) (turnP (⟨0, 0⟩ : Pt) (⟨2, 1⟩ : Pt) (⟨0, 2⟩ : Pt) / turnP (⟨0, 0⟩ : Pt) (⟨4, 0⟩ : Pt) (⟨0, 2⟩ : Pt)) (turnP (⟨0, 0⟩ : Pt) (⟨4, 0⟩ : Pt) (⟨2, 1⟩ : Pt) / turnP (⟨0, 0⟩ : Pt) (⟨4, 0⟩ : Pt) (⟨0, 2⟩ : Pt)) = 2 from by decide +kernel] at h
 exact h
theorem lv_int_0_0 (w : World) : Calls Tryz.prog 36 #[(vI 0), (vI 0)] w (Gives w (aG (ptL (⟨0, 0⟩ : Pt)))) := by
 have h := pInt_ok 0 0 (by decide) (by decide) (by decide) (by decide) w
 rw [show (⟨((0 : Int) : Rat), ((0 : Int) : Rat)⟩ : Pt) = (⟨0, 0⟩ : Pt) from by decide +kernel] at h
 exact h
theorem lv_int_4_0 (w : World) : Calls Tryz.prog 36 #[(vI 4), (vI 0)] w (Gives w (aG (ptL (⟨4, 0⟩ : Pt)))) := by
 have h := pInt_ok 4 0 (by decide) (by decide) (by decide) (by decide) w
 rw [show (⟨((4 : Int) : Rat), ((0 : Int) : Rat)⟩ : Pt) = (⟨4, 0⟩ : Pt) from by decide +kernel] at h
 exact h
theorem lv_int_0_2 (w : World) : Calls Tryz.prog 36 #[(vI 0), (vI 2)] w (Gives w (aG (ptL (⟨0, 2⟩ : Pt)))) := by
 have h := pInt_ok 0 2 (by decide) (by decide) (by decide) (by decide) w
 rw [show (⟨((0 : Int) : Rat), ((2 : Int) : Rat)⟩ : Pt) = (⟨0, 2⟩ : Pt) from by decide +kernel] at h
 exact h
theorem lv_int_1_1 (w : World) : Calls Tryz.prog 36 #[(vI 1), (vI 1)] w (Gives w (aG (ptL (⟨1, 1⟩ : Pt)))) := by
 have h := pInt_ok 1 1 (by decide) (by decide) (by decide) (by decide) w
 rw [show (⟨((1 : Int) : Rat), ((1 : Int) : Rat)⟩ : Pt) = (⟨1, 1⟩ : Pt) from by decide +kernel] at h
 exact h
theorem lv_int_2_1 (w : World) : Calls Tryz.prog 36 #[(vI 2), (vI 1)] w (Gives w (aG (ptL (⟨2, 1⟩ : Pt)))) := by
 have h := pInt_ok 2 1 (by decide) (by decide) (by decide) (by decide) w
 rw [show (⟨((2 : Int) : Rat), ((1 : Int) : Rat)⟩ : Pt) = (⟨2, 1⟩ : Pt) from by decide +kernel] at h
 exact h
theorem lv_int_8_0 (w : World) : Calls Tryz.prog 36 #[(vI 8), (vI 0)] w (Gives w (aG (ptL (⟨8, 0⟩ : Pt)))) := by
 have h := pInt_ok 8 0 (by decide) (by decide) (by decide) (by decide) w
 rw [show (⟨((8 : Int) : Rat), ((0 : Int) : Rat)⟩ : Pt) = (⟨8, 0⟩ : Pt) from by decide +kernel] at h
 exact h
set_option maxHeartbeats 2000000 in
theorem lives_ok  (w : World)  : Calls Tryz.prog 21 #[] w (Gives w (Value.bool true)) := by
 refine calls_of (args := []) Tryz.func21 rfl rfl (leB rfl) (OkC.subF (sN) (q4 (asg rfl rfl (OkL.nil (q2 ?_)))))
 refine cl Tryz.call36 (fun w hw => lv_int_0_0 w) rfl rfl rfl (al tZ38 rfl fun b1 => stW0 rfl rfl rfl Tryz.sizeOf38 rfl rfl (q3 (sC 0 rfl (sC 1 rfl (sN))) (cl Tryz.call36 (fun w hw => lv_int_4_0 w) rfl rfl rfl (al tZ38 rfl fun b2 => ?_))))
 refine stW0 rfl rfl rfl Tryz.sizeOf38 rfl rfl (q3 (sC 0 rfl (sC 1 rfl (sC 2 rfl (sN)))) (cl Tryz.call36 (fun w hw => lv_int_0_2 w) rfl rfl rfl (al tZ38 rfl fun b3 => stW0 rfl rfl rfl Tryz.sizeOf38 rfl rfl (q6 (sC 0 rfl (sC 1 rfl (sC 2 rfl (sC 3 rfl (sN))))) ?_))))
 refine rN [(0, true), (1, true), (2, true), (3, false), (4, false), (5, true), (6, true), (7, true)] [⟨8, 4, 56, fracL (0 : Rat) ++ fracL (0 : Rat) ++ fracL (0 : Rat)⟩] [(9, false), (10, true)] sr (by kernel_rfl) (fun _ _ d _ _ h => by cases d <;> exact h) (newC rfl rfl tZ56 rfl (newN)) rfl (uW 2 tA38 rfl rfl rfl rfl rfl rfl (uW 1 tA38 rfl rfl rfl rfl rfl rfl (uW 0 tA38 rfl rfl rfl rfl rfl rfl (OkN.imp rfl fun EF EL => cl Tryz.call36 (fun w hw => lv_int_1_1 w) rfl rfl rfl ?_))))
 refine OkN.back0 sr rfl (OkN.imp rfl fun EF EL => cl Tryz.call26 (fun w hw => lv_bary w) rfl rfl rfl (OkN.back0 sr rfl (uM rfl rfl rfl rfl (uE rfl (ex_extract (v := (aG (fracL (1 / 4 : Rat) ++ fracL (1 / 4 : Rat) ++ fracL (1 / 2 : Rat)))) rfl rfl) rfl rfl ?_))))
 refine uE rfl (ex_extract (v := (vI 0)) rfl rfl) rfl rfl (OkN.news1 fun b4 => OkE.imp rfl (stW0 rfl rfl rfl Tryz.sizeOf56 rfl rfl (OkE.back (sl sr) (pS rfl rfl rfl ?_))))
 refine OkE.nil (OkQ.subF (sC 0 rfl (sC 1 rfl (sC 2 rfl (sC 3 rfl (sC 4 rfl (sC 5 rfl (sN))))))) (q2 (ldW 3 tA38 rfl rfl rfl rfl (ldW 2 tA38 rfl rfl rfl rfl (ldW 1 tA38 rfl rfl rfl rfl ?_)))))
 refine cl Tryz.call12 (fun w hw => lv_grads w) rfl rfl rfl (mv rfl rfl (st (ex_extract (v := (aG (fracL (-1 / 4 : Rat) ++ fracL (-1 / 2 : Rat) ++ fracL (1 / 4 : Rat) ++ fracL (0 : Rat) ++ fracL (0 : Rat) ++ fracL (1 / 2 : Rat)))) rfl rfl) (leB rfl) (st (ex_extract (v := (vI 0)) rfl rfl) (leB rfl) (al tZ49 rfl fun b5 => stW0 rfl rfl rfl Tryz.sizeOf49 rfl rfl ?_))))
 refine asg rfl rfl (q3 (sC 0 rfl (sC 1 rfl (sC 2 rfl (sC 3 rfl (sC 4 rfl (sC 5 rfl (sC 6 rfl (sN)))))))) (ldW 4 tA38 rfl rfl rfl rfl (ldW 3 tA38 rfl rfl rfl rfl (ldW 2 tA38 rfl rfl rfl rfl (cl Tryz.call14 (fun w hw => lv_cots w) rfl rfl rfl ?_)))))
 refine mv rfl rfl (st (ex_extract (v := (aG (fracL (0 : Rat) ++ fracL (2 : Rat) ++ fracL (1 / 2 : Rat)))) rfl rfl) (leB rfl) (st (ex_extract (v := (vI 0)) rfl rfl) (leB rfl) (al tZ56 rfl fun b6 => stW0 rfl rfl rfl Tryz.sizeOf56 rfl rfl (asg rfl rfl ?_))))
 refine q3 (sC 0 rfl (sC 1 rfl (sC 2 rfl (sC 3 rfl (sC 4 rfl (sC 5 rfl (sC 6 rfl (sC 8 rfl (sN))))))))) (ldW 5 tA38 rfl rfl rfl rfl (ldW 4 tA38 rfl rfl rfl rfl (ldW 3 tA38 rfl rfl rfl rfl (cl Tryz.call16 (fun w hw => lv_shape w) rfl rfl rfl (mv rfl rfl ?_)))))
 refine st (ex_extract (v := (aG (fracL (1 / 5 : Rat) ++ fracL (4 / 5 : Rat)))) rfl rfl) (leB rfl) (st (ex_extract (v := (vI 0)) rfl rfl) (leB rfl) (al tZ62 rfl fun b7 => stW0 rfl rfl rfl Tryz.sizeOf62 rfl rfl (asg rfl rfl (q3 (sC 0 rfl (sC 1 rfl (sC 2 rfl (sC 3 rfl (sC 4 rfl (sC 5 rfl (sC 6 rfl (sC 8 rfl (sC 10 rfl (sN)))))))))) ?_))))
 refine ldW 6 tA38 rfl rfl rfl rfl (ldW 5 tA38 rfl rfl rfl rfl (ldW 4 tA38 rfl rfl rfl rfl (cl Tryz.call18 (fun w hw => lv_middle w) rfl rfl rfl (mv rfl rfl (st (ex_extract (v := (aG (ptL (⟨2, 1⟩ : Pt)))) rfl rfl) (leB rfl) ?_)))))
 refine st (ex_extract (v := (aG (fracL (5 : Rat)))) rfl rfl) (leB rfl) (st (ex_extract (v := (vI 0)) rfl rfl) (leB rfl) (al tZ38 rfl fun b8 => al tZ36 rfl fun b9 => stW1 rfl rfl rfl Tryz.sizeOf38 rfl rfl (stW0 rfl rfl rfl Tryz.sizeOf36 rfl rfl ?_)))
 refine asg rfl rfl (q6 (sC 0 rfl (sC 1 rfl (sC 2 rfl (sC 3 rfl (sC 4 rfl (sC 5 rfl (sC 6 rfl (sC 8 rfl (sC 10 rfl (sC 12 rfl (sC 13 rfl (sN)))))))))))) (rN [(0, true), (1, true), (2, false), (3, false), (4, true), (5, true), (6, true)] [⟨7, 15, 49, ptL (⟨0, 0⟩ : Pt) ++ ptL (⟨0, 0⟩ : Pt) ++ ptL (⟨0, 0⟩ : Pt)⟩] [(8, false), (9, true)] sr (by kernel_rfl) (fun _ _ d _ _ h => by cases d <;> exact h) (newC rfl rfl tZ49 rfl (newN)) rfl (uW 8 tA38 rfl rfl rfl rfl rfl rfl (uW 7 tA38 rfl rfl rfl rfl rfl rfl (OkN.imp rfl fun EF EL => ?_)))))
 refine cl Tryz.call36 (fun w hw => lv_int_8_0 w) rfl rfl rfl (OkN.back0 sr rfl (OkN.imp rfl fun EF EL => cl Tryz.call12 (fun w hw => lv_flat w) rfl rfl rfl (OkN.back0 sr rfl (uM rfl rfl rfl rfl ?_))))
 refine uE rfl (ex_extract (v := (aG (ptL (⟨0, 0⟩ : Pt) ++ ptL (⟨0, 0⟩ : Pt) ++ ptL (⟨0, 0⟩ : Pt)))) rfl rfl) rfl rfl (uE rfl (ex_extract (v := (vI 1)) rfl rfl) rfl rfl (OkN.news1 fun b10 => OkE.imp rfl (stW0 rfl rfl rfl Tryz.sizeOf49 rfl rfl (OkE.back (sl sr) ?_))))
 refine pS rfl rfl rfl (OkE.nil (OkQ.subF (sC 0 rfl (sC 1 rfl (sC 2 rfl (sC 3 rfl (sC 4 rfl (sC 5 rfl (sC 6 rfl (sC 8 rfl (sC 10 rfl (sC 12 rfl (sC 13 rfl (sC 16 rfl (sN))))))))))))) (q1 (rG [(0, true), (1, true), (2, true), (3, false), (4, false), (5, true), (6, true), (7, true), (8, true), (9, true), (10, true), (11, true), (12, true), (13, false), (14, true), (15, true), (16, true), (17, true), (18, true), (19, false), (20, true), (21, true), (22, true), (23, true), (24, true), (25, true), (26, false), (27, false), (28, true), (29, true), (30, true)] sr (by kernel_rfl) (fun _ _ d _ _ h => by cases d <;> exact h) (pW 9 tA38 rfl rfl rfl rfl rfl ?_)))))
 refine pW 8 tA38 rfl rfl rfl rfl rfl (pW 7 tA38 rfl rfl rfl rfl rfl (OkE.imp rfl (cl Tryz.call32 (fun w hw => lv_area w) rfl rfl rfl (OkE.back sr (OkE.imp rfl ?_)))))
 refine cl Tryz.call66 (fun w hw => fText_ok (4 : Rat) (by decide +kernel) (by decide +kernel) w) rfl rfl rfl (OkE.back sr (pE rfl (ex_eql_string (c := true) rfl rfl (by decide +kernel)) rfl (pM rfl rfl rfl (OkE.pas (v := (vI 0)) rfl (wt_some rfl rfl rfl) (ex_move rfl) rfl rfl (OkE.pas (v := (Value.bool true)) rfl (wt_some rfl rfl rfl) (ex_eql (c := true) rfl rfl (by decide)) rfl rfl ?_)))))
 refine pE (v := (Value.bool true)) rfl (ex_pick_true rfl rfl) rfl (pM rfl rfl rfl (OkE.pas (v := (pP b4 0)) rfl (wt_some rfl rfl rfl) (ex_indexAddr_array (j := 0) rfl rfl Tryz.underlying56 Tryz.sizeOf36 rfl (by decide) rfl) rfl rfl (OkE.pas (v := (aG (fracL (1 / 4 : Rat)))) rfl (wt_some rfl rfl rfl) (ex_load_agg (i := 6) (vs := fracL (1 / 4 : Rat)) rfl rfl tA36.a tA36.s rfl rfl) rfl rfl (OkE.imp rfl (OkL.call (v := (Value.string (textQ (1 / 4 : Rat)))) (wt_some rfl rfl rfl) (op_call0 (args := [(aG (fracL (1 / 4 : Rat)))]) rfl rfl Tryz.call66) (fun w hw => fText_ok (1 / 4 : Rat) (by decide +kernel) (by decide +kernel) w) rfl (leB rfl) ?_)))))
 refine OkE.back sr (OkE.pas (v := (Value.bool true)) rfl (wt_some rfl rfl rfl) (ex_eql_string (c := true) rfl rfl (by decide +kernel)) rfl rfl (pE (v := (Value.bool true)) rfl (ex_pick_true rfl rfl) rfl (pM rfl rfl rfl (OkE.pas (v := (pP b4 10)) rfl (wt_some rfl rfl rfl) (ex_indexAddr_array (j := 2) rfl rfl Tryz.underlying56 Tryz.sizeOf36 rfl (by decide) rfl) rfl rfl (OkE.pas (v := (aG (fracL (1 / 2 : Rat)))) rfl (wt_some rfl rfl rfl) (ex_load_agg (i := 6) (vs := fracL (1 / 2 : Rat)) rfl rfl tA36.a tA36.s rfl rfl) rfl rfl ?_)))))
 refine OkE.imp rfl (OkL.call (v := (Value.string (textQ (1 / 2 : Rat)))) (wt_some rfl rfl rfl) (op_call0 (args := [(aG (fracL (1 / 2 : Rat)))]) rfl rfl Tryz.call66) (fun w hw => fText_ok (1 / 2 : Rat) (by decide +kernel) (by decide +kernel) w) rfl (leB rfl) (OkE.back sr (OkE.pas (v := (Value.bool true)) rfl (wt_some rfl rfl rfl) (ex_eql_string (c := true) rfl rfl (by decide +kernel)) rfl rfl (pE (v := (Value.bool true)) rfl (ex_pick_true rfl rfl) rfl (pM rfl rfl rfl ?_)))))
 refine OkE.pas (v := (aG (ptL (⟨0, 0⟩ : Pt)))) rfl (wt_some rfl rfl rfl) (ex_load_agg (i := 9) (vs := ptL (⟨0, 0⟩ : Pt)) rfl rfl tA38.a tA38.s rfl rfl) rfl rfl (OkE.pas (v := (aG (ptL (⟨4, 0⟩ : Pt)))) rfl (wt_some rfl rfl rfl) (ex_load_agg (i := 8) (vs := ptL (⟨4, 0⟩ : Pt)) rfl rfl tA38.a tA38.s rfl rfl) rfl rfl (OkE.pas (v := (aG (ptL (⟨0, 2⟩ : Pt)))) rfl (wt_some rfl rfl rfl) (ex_load_agg (i := 7) (vs := ptL (⟨0, 2⟩ : Pt)) rfl rfl tA38.a tA38.s rfl rfl) rfl rfl (OkE.imp rfl (OkL.call (v := (aG (ptL (⟨2, 1⟩ : Pt)))) (wt_some rfl rfl rfl) (op_call0 (args := [(vI 2), (vI 1)]) rfl rfl Tryz.call36) (fun w hw => lv_int_2_1 w) rfl (leB rfl) (OkE.back sr ?_)))))
 refine OkE.imp rfl (OkL.call (v := (vI 2)) (wt_some rfl rfl rfl) (op_call0 (args := [(aG (ptL (⟨0, 0⟩ : Pt))), (aG (ptL (⟨4, 0⟩ : Pt))), (aG (ptL (⟨0, 2⟩ : Pt))), (aG (ptL (⟨2, 1⟩ : Pt)))]) rfl rfl Tryz.call34) (fun w hw => lv_where w) rfl (leB rfl) (OkE.back sr (OkE.pas (v := (Value.bool true)) rfl (wt_some rfl rfl rfl) (ex_eql (c := true) rfl rfl (by decide)) rfl rfl (pE (v := (Value.bool true)) rfl (ex_pick_true rfl rfl) rfl (pS rfl rfl rfl ?_)))))
 refine OkE.nil (OkQ.subF (sC 0 rfl (sC 1 rfl (sC 2 rfl (sC 3 rfl (sC 4 rfl (sC 6 rfl (sC 8 rfl (sC 10 rfl (sC 12 rfl (sC 13 rfl (sC 16 rfl (sC 17 rfl (sN))))))))))))) (q2 (st (v := (pP b5 0)) (ex_indexAddr_array (j := 0) rfl rfl Tryz.underlying49 Tryz.sizeOf38 rfl (by decide) rfl) (leB rfl) (st (v := (pP b5 0)) (ex_fieldAddr rfl Tryz.underlying38 rfl Tryz.sizeOf36 rfl) (leB rfl) (ldA 5 (fracL (-1 / 4 : Rat)) tA36 rfl rfl rfl rfl rfl ?_)))))
 refine cl Tryz.call66 (fun w hw => fText_ok (-1 / 4 : Rat) (by decide +kernel) (by decide +kernel) w) rfl rfl rfl (st (ex_eql_string (c := true) rfl rfl (by decide +kernel)) (leB rfl) (mv rfl rfl (OkL.step (v := (pP b5 0)) (wt_some rfl rfl rfl) (ex_indexAddr_array (j := 0) rfl rfl Tryz.underlying49 Tryz.sizeOf38 rfl (by decide) rfl) rfl (leB rfl) (OkL.step (v := (pP b5 5)) (wt_some rfl rfl rfl) (ex_fieldAddr rfl Tryz.underlying38 rfl Tryz.sizeOf36 rfl) rfl (leB rfl) (OkL.step (v := (aG (fracL (-1 / 2 : Rat)))) (wt_some rfl rfl rfl) (ex_load_agg (i := 5) (vs := fracL (-1 / 2 : Rat)) rfl rfl tA36.a tA36.s rfl rfl) rfl (leB rfl) ?_)))))
 refine OkL.call (v := (Value.string (textQ (-1 / 2 : Rat)))) (wt_some rfl rfl rfl) (op_call0 (args := [(aG (fracL (-1 / 2 : Rat)))]) rfl rfl Tryz.call66) (fun w hw => fText_ok (-1 / 2 : Rat) (by decide +kernel) (by decide +kernel) w) rfl (leB rfl) (OkL.step (v := (Value.bool true)) (wt_some rfl rfl rfl) (ex_eql_string (c := true) rfl rfl (by decide +kernel)) rfl (leB rfl) (st (v := (Value.bool true)) (ex_pick_true rfl rfl) (leB rfl) (mv rfl rfl (OkL.step (v := (pP b6 5)) (wt_some rfl rfl rfl) (ex_indexAddr_array (j := 1) rfl rfl Tryz.underlying56 Tryz.sizeOf36 rfl (by decide) rfl) rfl (leB rfl) (OkL.step (v := (aG (fracL (2 : Rat)))) (wt_some rfl rfl rfl) (ex_load_agg (i := 4) (vs := fracL (2 : Rat)) rfl rfl tA36.a tA36.s rfl rfl) rfl (leB rfl) ?_)))))
 refine OkL.call (v := (Value.string (textQ (2 : Rat)))) (wt_some rfl rfl rfl) (op_call0 (args := [(aG (fracL (2 : Rat)))]) rfl rfl Tryz.call66) (fun w hw => fText_ok (2 : Rat) (by decide +kernel) (by decide +kernel) w) rfl (leB rfl) (OkL.step (v := (Value.bool true)) (wt_some rfl rfl rfl) (ex_eql_string (c := true) rfl rfl (by decide +kernel)) rfl (leB rfl) (st (v := (Value.bool true)) (ex_pick_true rfl rfl) (leB rfl) (mv rfl rfl (OkL.step (v := (pP b6 0)) (wt_some rfl rfl rfl) (ex_indexAddr_array (j := 0) rfl rfl Tryz.underlying56 Tryz.sizeOf36 rfl (by decide) rfl) rfl (leB rfl) (OkL.step (v := (aG (fracL (0 : Rat)))) (wt_some rfl rfl rfl) (ex_load_agg (i := 4) (vs := fracL (0 : Rat)) rfl rfl tA36.a tA36.s rfl rfl) rfl (leB rfl) ?_)))))
 refine OkL.call (v := (vI 0)) (wt_some rfl rfl rfl) (op_call0 (args := [(aG (fracL (0 : Rat)))]) rfl rfl Tryz.call20) (fun w hw => fSign_ok (0 : Rat) w) rfl (leB rfl) (OkL.step (v := (Value.bool true)) (wt_some rfl rfl rfl) (ex_eql (c := true) rfl rfl (by decide)) rfl (leB rfl) (st (v := (Value.bool true)) (ex_pick_true rfl rfl) (leB rfl) (asg rfl rfl (q6 (sC 0 rfl (sC 1 rfl (sC 2 rfl (sC 3 rfl (sC 4 rfl (sC 6 rfl (sC 8 rfl (sC 10 rfl (sC 12 rfl (sC 13 rfl (sC 16 rfl (sC 17 rfl (sC 18 rfl (sN)))))))))))))) (rG [(0, true), (1, true), (2, true), (3, true), (4, true), (5, true), (6, true), (7, false), (8, true), (9, true), (10, true), (11, true), (12, true), (13, false), (14, true), (15, true), (16, true), (17, true), (18, false), (19, true), (20, true), (21, true), (22, true), (23, false), (24, true), (25, true), (26, true), (27, true), (28, true), (29, true), (30, true)] sr (by kernel_rfl) (fun _ _ d _ _ h => by cases d <;> exact h) ?_)))))
 refine pM rfl rfl rfl (pM rfl rfl rfl (OkE.pas (v := (Value.bool true)) rfl (wt_some rfl rfl rfl) (ex_move rfl) rfl rfl (pE (v := (Value.bool true)) rfl (ex_pick_true rfl rfl) rfl (pM rfl rfl rfl (OkE.pas (v := (pP b7 0)) rfl (wt_some rfl rfl rfl) (ex_indexAddr_array (j := 0) rfl rfl Tryz.underlying62 Tryz.sizeOf36 rfl (by decide) rfl) rfl rfl ?_)))))
 refine OkE.pas (v := (aG (fracL (1 / 5 : Rat)))) rfl (wt_some rfl rfl rfl) (ex_load_agg (i := 3) (vs := fracL (1 / 5 : Rat)) rfl rfl tA36.a tA36.s rfl rfl) rfl rfl (OkE.imp rfl (OkL.call (v := (Value.string (textQ (1 / 5 : Rat)))) (wt_some rfl rfl rfl) (op_call0 (args := [(aG (fracL (1 / 5 : Rat)))]) rfl rfl Tryz.call66) (fun w hw => fText_ok (1 / 5 : Rat) (by decide +kernel) (by decide +kernel) w) rfl (leB rfl) (OkE.back sr (OkE.pas (v := (Value.bool true)) rfl (wt_some rfl rfl rfl) (ex_eql_string (c := true) rfl rfl (by decide +kernel)) rfl rfl (pE (v := (Value.bool true)) rfl (ex_pick_true rfl rfl) rfl ?_)))))
 refine pM rfl rfl rfl (OkE.pas (v := (pP b7 5)) rfl (wt_some rfl rfl rfl) (ex_indexAddr_array (j := 1) rfl rfl Tryz.underlying62 Tryz.sizeOf36 rfl (by decide) rfl) rfl rfl (OkE.pas (v := (aG (fracL (4 / 5 : Rat)))) rfl (wt_some rfl rfl rfl) (ex_load_agg (i := 3) (vs := fracL (4 / 5 : Rat)) rfl rfl tA36.a tA36.s rfl rfl) rfl rfl (OkE.imp rfl (OkL.call (v := (Value.string (textQ (4 / 5 : Rat)))) (wt_some rfl rfl rfl) (op_call0 (args := [(aG (fracL (4 / 5 : Rat)))]) rfl rfl Tryz.call66) (fun w hw => fText_ok (4 / 5 : Rat) (by decide +kernel) (by decide +kernel) w) rfl (leB rfl) (OkE.back sr ?_)))))
 refine OkE.pas (v := (Value.bool true)) rfl (wt_some rfl rfl rfl) (ex_eql_string (c := true) rfl rfl (by decide +kernel)) rfl rfl (pE (v := (Value.bool true)) rfl (ex_pick_true rfl rfl) rfl (pM rfl rfl rfl (OkE.pas (v := (aG (ptL (⟨2, 1⟩ : Pt)))) rfl (wt_some rfl rfl rfl) (ex_load_agg (i := 2) (vs := ptL (⟨2, 1⟩ : Pt)) rfl rfl tA38.a tA38.s rfl rfl) rfl rfl (OkE.imp rfl (OkL.call (v := (aG (ptL (⟨2, 1⟩ : Pt)))) (wt_some rfl rfl rfl) (op_call0 (args := [(vI 2), (vI 1)]) rfl rfl Tryz.call36) (fun w hw => lv_int_2_1 w) rfl (leB rfl) ?_)))))
 refine OkE.back sr (OkE.pas (v := (Value.bool true)) rfl (wt_some rfl rfl rfl) (ex_eql_agg (c := true) rfl rfl Tryz.eqGuardType38 (eqB_pt_t 9994 rfl)) rfl rfl (pE (v := (Value.bool true)) rfl (ex_pick_true rfl rfl) rfl (pM rfl rfl rfl (OkE.pas (v := (aG (fracL (5 : Rat)))) rfl (wt_some rfl rfl rfl) (ex_load_agg (i := 1) (vs := fracL (5 : Rat)) rfl rfl tA36.a tA36.s rfl rfl) rfl rfl (OkE.imp rfl ?_)))))
 refine OkL.call (v := (Value.string (textQ (5 : Rat)))) (wt_some rfl rfl rfl) (op_call0 (args := [(aG (fracL (5 : Rat)))]) rfl rfl Tryz.call66) (fun w hw => fText_ok (5 : Rat) (by decide +kernel) (by decide +kernel) w) rfl (leB rfl) (OkE.back sr (OkE.pas (v := (Value.bool true)) rfl (wt_some rfl rfl rfl) (ex_eql_string (c := true) rfl rfl (by decide +kernel)) rfl rfl (pE (v := (Value.bool true)) rfl (ex_pick_true rfl rfl) rfl (pM rfl rfl rfl (OkE.pas (v := (vI 1)) rfl (wt_some rfl rfl rfl) (ex_move rfl) rfl rfl ?_)))))
 refine OkE.pas (v := (Value.bool true)) rfl (wt_some rfl rfl rfl) (ex_eql (c := true) rfl rfl (by decide)) rfl rfl (pE (v := (Value.bool true)) rfl (ex_pick_true rfl rfl) rfl (pS rfl rfl rfl (OkE.nil (OkQ.subF (sC 0 rfl (sC 1 rfl (sC 2 rfl (sC 3 rfl (sC 4 rfl (sC 6 rfl (sC 8 rfl (sC 10 rfl (sC 12 rfl (sC 13 rfl (sN))))))))))) (OkQ.then_ ?_)))))
 exact OkC.ret (ret_one rfl (rd_tmp (v := (Value.bool true)) rfl) (fun w hw => ⟨rfl, hw.out⟩))
end
theorem add_x (a b : Pt) : (a + b).x = a.x + b.x := rfl
theorem add_y (a b : Pt) : (a + b).y = a.y + b.y := rfl
theorem sub_x (a b : Pt) : (a - b).x = a.x - b.x := rfl
theorem sub_y (a b : Pt) : (a - b).y = a.y - b.y := rfl
theorem scale_x (a : Pt) (k : Rat) : (scaleP a k).x = a.x * k := rfl
theorem scale_y (a : Pt) (k : Rat) : (scaleP a k).y = a.y * k := rfl
theorem turn_def (a b c : Pt) : turnP a b c = (b.x - a.x) * (c.y - a.y) - (b.y - a.y) * (c.x - a.x) := rfl
theorem dot_def (a b : Pt) : dotP a b = a.x * b.x + a.y * b.y := rfl
theorem back_at {a b c p : Pt} (h : turnP a b c ≠ 0) : scaleP a (turnP p b c / turnP a b c) + scaleP b (turnP a p c / turnP a b c) + scaleP c (turnP a b p / turnP a b c) = p := by
  have kx : a.x * turnP p b c + b.x * turnP a p c + c.x * turnP a b p = p.x * turnP a b c := by simp only [turn_def]; grind
  have ky : a.y * turnP p b c + b.y * turnP a p c + c.y * turnP a b p = p.y * turnP a b c := by simp only [turn_def]; grind
  generalize turnP a b c = T at *
  refine Pt.ext ?_ ?_
  · simp only [add_x, scale_x]; grind
  · simp only [add_y, scale_y]; grind
theorem back_sum {a b c p : Pt} (h : turnP a b c ≠ 0) : turnP p b c / turnP a b c + turnP a p c / turnP a b c + turnP a b p / turnP a b c = 1 := by
  have k : turnP p b c + turnP a p c + turnP a b p = turnP a b c := by simp only [turn_def]; grind
  generalize turnP a b c = T at *
  grind
theorem triQ (a b : Rat) : a < b ∨ a = b ∨ b < a := by grind
theorem sgn_neg {q : Rat} (h : q < 0) : q.num.sign = -1 := by
  have h1 : ¬ 0 ≤ q.num := fun e => by have := Rat.num_nonneg.1 e; grind
  exact Int.sign_eq_neg_one_of_neg (by omega)
theorem sgn_pos {q : Rat} (h : 0 < q) : q.num.sign = 1 := by
  have h1 : 0 ≤ q.num := Rat.num_nonneg.2 (by grind)
  have h2 : q.num ≠ 0 := fun e => by have := Rat.num_eq_zero.1 e; grind
  exact Int.sign_eq_one_of_pos (by omega)
section
theorem sgn_iff0 (q : Rat) : q.num.sign = 0 ↔ q = 0 := by rw [Int.sign_eq_zero_iff_zero, Rat.num_eq_zero]
theorem sgn_le0 (q : Rat) : q.num.sign ≤ 0 ↔ q ≤ 0 := by
  rcases triQ q 0 with h | h | h
  · rw [sgn_neg h]; exact ⟨fun _ => by grind, fun _ => by omega⟩
  · subst h; simp
  · rw [sgn_pos h]; exact ⟨fun e => by omega, fun e => by grind⟩
theorem mulQ_pos {a b : Rat} (ha : 0 < a) (hb : 0 < b) : 0 < a * b := Rat.mul_pos ha hb
theorem sgn_same {t T : Rat} (h : T ≠ 0) : t.num.sign = T.num.sign ↔ 0 < t / T := by
  have e : t = (t / T) * T := (Rat.div_mul_cancel h).symm
  generalize t / T = q at *
  subst e
  rcases triQ q 0 with h1 | h1 | h1 <;> rcases triQ T 0 with h2 | h2 | h2
  · have h3 := mulQ_pos (a := -q) (b := -T) (by grind) (by grind)
    rw [sgn_pos (q := q * T) (by grind), sgn_neg h2]; exact ⟨fun e => by omega, fun e => by grind⟩
  · exact absurd h2 h
  · have h3 := mulQ_pos (a := -q) (b := T) (by grind) (by grind)
    rw [sgn_neg (q := q * T) (by grind), sgn_pos h2]; exact ⟨fun e => by omega, fun e => by grind⟩
  · subst h1; rw [Rat.zero_mul, sgn_neg h2]; exact ⟨fun e => by simp at e, fun e => by grind⟩
  · exact absurd h2 h
  · subst h1; rw [Rat.zero_mul, sgn_pos h2]; exact ⟨fun e => by simp at e, fun e => by grind⟩
  · have h3 := mulQ_pos (a := q) (b := -T) (by grind) (by grind)
    rw [sgn_neg (q := q * T) (by grind), sgn_neg h2]; exact ⟨fun _ => h1, fun _ => rfl⟩
  · exact absurd h2 h
  · have h3 := mulQ_pos h1 h2
    rw [sgn_pos h3, sgn_pos h2]; exact ⟨fun _ => h1, fun _ => rfl⟩
theorem sqQ (a : Rat) : 0 ≤ a * a := by
  rcases triQ a 0 with h | h | h
  · have := mulQ_pos (a := -a) (b := -a) (by grind) (by grind); grind
  · subst h; grind
  · have := mulQ_pos h h; grind
theorem dot_line {a b : Pt} {u v : Rat} (hn : a.x ≠ b.x ∨ a.y ≠ b.y) (h1 : u + v = 1) {p : Pt} (hx : p.x = a.x * u + b.x * v) (hy : p.y = a.y * u + b.y * v) : dotP (a - p) (b - p) ≤ 0 ↔ 0 ≤ u ∧ 0 ≤ v := by
  have e : dotP (a - p) (b - p) = -((u * v) * ((a.x - b.x) * (a.x - b.x) + (a.y - b.y) * (a.y - b.y))) := by
    have hv : v = 1 - u := by grind
    subst hv
    simp only [dot_def, sub_x, sub_y, hx, hy]; grind
  have hp : 0 < (a.x - b.x) * (a.x - b.x) + (a.y - b.y) * (a.y - b.y) := by
    have k1 := sqQ (a.x - b.x); have k2 := sqQ (a.y - b.y)
    rcases hn with h | h
    · have : 0 < (a.x - b.x) * (a.x - b.x) := by
        rcases triQ (a.x - b.x) 0 with h3 | h3 | h3
        · have := mulQ_pos (a := -(a.x - b.x)) (b := -(a.x - b.x)) (by grind) (by grind); grind
        · exact absurd (show a.x = b.x by grind) h
        · exact mulQ_pos h3 h3
      grind
    · have : 0 < (a.y - b.y) * (a.y - b.y) := by
        rcases triQ (a.y - b.y) 0 with h3 | h3 | h3
        · have := mulQ_pos (a := -(a.y - b.y)) (b := -(a.y - b.y)) (by grind) (by grind); grind
        · exact absurd (show a.y = b.y by grind) h
        · exact mulQ_pos h3 h3
      grind
  rw [e]
  generalize (a.x - b.x) * (a.x - b.x) + (a.y - b.y) * (a.y - b.y) = D at *
  constructor
  · intro h
    refine ⟨?_, ?_⟩
    · refine Classical.byContradiction fun hu => ?_
      have h3 := mulQ_pos (mulQ_pos (a := -u) (b := v) (by grind) (by grind)) hp
      grind
    · refine Classical.byContradiction fun hv => ?_
      have h3 := mulQ_pos (mulQ_pos (a := u) (b := -v) (by grind) (by grind)) hp
      grind
  · rintro ⟨hu, hv⟩
    have h3 : 0 ≤ u * v := Rat.mul_nonneg hu hv
    have h4 : 0 ≤ (u * v) * D := Rat.mul_nonneg h3 (by grind)
    grind
theorem turn_rot (a b c : Pt) : turnP b c a = turnP a b c := by simp only [turn_def]; grind
theorem on_eq {a b c p : Pt} (h : turnP a b c ≠ 0) : onR a b p = decide (turnP a b p / turnP a b c = 0 ∧ 0 ≤ turnP p b c / turnP a b c ∧ 0 ≤ turnP a p c / turnP a b c) := by
  have h1 := back_at (p := p) h
  have h2 := back_sum (p := p) h
  have hn : a.x ≠ b.x ∨ a.y ≠ b.y := by
    refine Classical.byContradiction fun e => h ?_
    have e1 : a.x = b.x := Classical.byContradiction fun e2 => e (.inl e2)
    have e2 : a.y = b.y := Classical.byContradiction fun e2 => e (.inr e2)
    simp only [turn_def, e1, e2]; grind
  have h3 : turnP a b p / turnP a b c = 0 ↔ turnP a b p = 0 := ⟨fun e => by rw [← Rat.div_mul_cancel (a := turnP a b p) h, e, Rat.zero_mul], fun e => by rw [e, Rat.div_def, Rat.zero_mul]⟩
  unfold onR
  rw [← Bool.decide_and]
  refine decide_eq_decide.2 ?_
  rw [sgn_iff0, sgn_le0, ← h3]
  refine and_congr_right fun hz => ?_
  rw [hz] at h1 h2
  refine dot_line hn (by rw [← h2, Rat.add_zero]) ?_ ?_
  · have := congrArg Pt.x h1
    simp only [add_x, scale_x] at this
    rw [← this, Rat.mul_zero, Rat.add_zero]
  · have := congrArg Pt.y h1
    simp only [add_y, scale_y] at this
    rw [← this, Rat.mul_zero, Rat.add_zero]
theorem same_eq {a b c p : Pt} (h : turnP a b c ≠ 0) : sameR p a = decide (turnP a p c / turnP a b c = 0 ∧ turnP a b p / turnP a b c = 0) := by
  have h1 := back_at (p := p) h
  have h2 := back_sum (p := p) h
  unfold sameR
  rw [← Bool.decide_and]
  refine decide_eq_decide.2 ⟨fun ⟨hx, hy⟩ => ?_, fun ⟨hb, hc⟩ => ?_⟩
  · have e : p = a := Pt.ext hx hy
    subst e
    refine ⟨?_, ?_⟩
    · rw [show turnP p p c = 0 by simp only [turn_def]; grind, Rat.div_def, Rat.zero_mul]
    · rw [show turnP p b p = 0 by simp only [turn_def]; grind, Rat.div_def, Rat.zero_mul]
  · rw [hb, hc] at h1 h2
    have e1 : turnP p b c / turnP a b c = 1 := by grind
    rw [e1] at h1
    have hx := congrArg Pt.x h1
    have hy := congrArg Pt.y h1
    simp only [add_x, add_y, scale_x, scale_y] at hx hy
    exact ⟨by grind, by grind⟩
theorem where_cases {u v q : Rat} (h : u + v + q = 1) : whereN u v q = if (decide (v = 0 ∧ q = 0) || decide (q = 0 ∧ u = 0) || decide (u = 0 ∧ v = 0)) = true then 3 else if (decide (q = 0 ∧ 0 ≤ u ∧ 0 ≤ v) || decide (u = 0 ∧ 0 ≤ v ∧ 0 ≤ q) || decide (v = 0 ∧ 0 ≤ q ∧ 0 ≤ u)) = true then 2
    else if ((decide (0 < q) && decide (0 < u)) && decide (0 < v)) = true then 1 else 0 := by
  have ne1 : ∀ {x : Rat}, x < 0 → ¬ x = 0 := fun h e => by grind
  have ne2 : ∀ {x : Rat}, 0 < x → ¬ x = 0 := fun h e => by grind
  have nl1 : ∀ {x : Rat}, x < 0 → ¬ 0 ≤ x := fun h e => by grind
  have nl2 : ∀ {x : Rat}, x < 0 → ¬ 0 < x := fun h e => by grind
  have pl : ∀ {x : Rat}, 0 < x → 0 ≤ x := fun h => by grind
  unfold whereN zq
  rcases triQ u 0 with h1 | h1 | h1 <;> rcases triQ v 0 with h2 | h2 | h2 <;> rcases triQ q 0 with h3 | h3 | h3 <;>
    first
      | (exfalso; grind)
      | skip
  all_goals (try subst h1)
  all_goals (try subst h2)
  all_goals (try subst h3)
  all_goals simp [*, sgn_neg, sgn_pos, ne1, ne2, nl1, nl2, pl, Rat.le_refl, Rat.lt_irrefl]
theorem where_ref {a b c p : Pt} (h : turnP a b c ≠ 0) : whereN (turnP p b c / turnP a b c) (turnP a p c / turnP a b c) (turnP a b p / turnP a b c) = whereR a b c p := by
  rw [where_cases (back_sum (p := p) h)]
  unfold whereR
  rw [if_neg h]
  have r1 : turnP b c a = turnP a b c := turn_rot a b c
  have r2 : turnP c a b = turnP a b c := (turn_rot b c a).trans r1
  have k1 : turnP b c p = turnP p b c := turn_rot p b c
  have k2 : turnP b p a = turnP a b p := turn_rot a b p
  have k3 : turnP c p b = turnP p b c := (turn_rot b c p).trans k1
  have k5 : turnP p c a = turnP a p c := turn_rot a p c
  have k4 : turnP c a p = turnP a p c := (turn_rot p c a).trans k5
  have k6 : turnP p a b = turnP a b p := (turn_rot b p a).trans k2
  have s1 := same_eq (p := p) h
  have s2 := same_eq (a := b) (b := c) (c := a) (p := p) (by rw [r1]; exact h)
  have s3 := same_eq (a := c) (b := a) (c := b) (p := p) (by rw [r2]; exact h)
  have o1 := on_eq (p := p) h
  have o2 := on_eq (a := b) (b := c) (c := a) (p := p) (by rw [r1]; exact h)
  have o3 := on_eq (a := c) (b := a) (c := b) (p := p) (by rw [r2]; exact h)
  rw [r1, k2, k1] at s2
  rw [r2, k3, k4] at s3
  rw [r1, k1, k5, k2] at o2
  rw [r2, k4, k6, k3] at o3
  rw [s1, s2, s3, o1, o2, o3, k1, k4, decide_eq_decide.2 (sgn_same (t := turnP a b p) h), decide_eq_decide.2 (sgn_same (t := turnP p b c) h), decide_eq_decide.2 (sgn_same (t := turnP a p c) h)]
theorem area_ref (a b c : Pt) : turnP a b c * (1 / 2) = areaR a b c := by
  unfold areaR
  rw [Rat.div_def, Rat.div_def, Rat.one_mul]; rfl
theorem bary_ref {a b c : Pt} (t : Pt × Pt × Pt) (h : turnP a b c ≠ 0) : areaR t.1 t.2.1 t.2.2 / areaR a b c = turnP t.1 t.2.1 t.2.2 / turnP a b c := by
  unfold areaR
  have h2 : ((2 : Int) : Rat) ≠ 0 := by decide +kernel
  generalize turnP a b c = T at *
  generalize ((2 : Int) : Rat) = k at *
  grind
theorem at_ref (a b c : Pt) (u v q : Rat) : scaleP a u + scaleP b v + scaleP c q = scaleP a u + (scaleP b v + scaleP c q) := Pt.ext (Rat.add_assoc _ _ _) (Rat.add_assoc _ _ _)
section
variable {P : Program} {ops : Array Oper} {rest : List Oper} {Q : Exit → Act → World → Prop} {n d : Nat} {F : List (Nat × Value)} {w0 : Base} {L : List As} {t : TypeId} {p : String} {af : Array Edge} {y : Operand} {f : FuncId} {xs : List Operand} {args : List Value} {ts : Array TypeId}
theorem cEx (V : Nat → Value) (hc : ∀ args w, (callFunc f args).run P w = .ok (.enter f args) w) (h : ∀ w, Own w0 w L → Calls P f args.toArray w fun e w' => ∃ b, e = .returned (V b) ∧ Below w.heap.size w w')
    (hf : evF F y = some (.func (.func f) #[] #[])) (hargs : xs.map (evF F) = args.map some) (hd : Nat.ble (d + 1) n = true) (next : ∀ b, OkL P ops rest Q n ((d, V b) :: F) w0 L) :
    OkL P ops (⟨some d, .call { callee := .value y, args := xs.toArray, argTypes := ts }, t, p, af, none⟩ :: rest) Q n F w0 L := fun a w ha hW => by
  unfold wpList
  rw [if_pos (wt_none rfl a ha)]
  left
  unfold Oper.wp
  rw [op_call0 hf hargs hc a w ha hW, Oper.upon_enter]
  refine (h w hW).mono ?_
  rintro e w' ⟨b, rfl, hb⟩
  exact next b _ _ (ha.put (blt_lt' hd)) (hW.below hb)
end
end
end Go.Proofs.YtpkoldfmbebmgaaGreatDoor
