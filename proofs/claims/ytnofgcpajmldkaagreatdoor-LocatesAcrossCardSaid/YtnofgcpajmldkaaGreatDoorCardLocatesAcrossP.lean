import Derived.Test.YtnofgcpajmldkaaGreatDoorPart44
import Derived.Test.YtnofgcpajmldkaaGreatDoorPart45
namespace Go.Proofs.YtnofgcpajmldkaaGreatDoor
open Go Go.RowKit
set_option linter.unusedVariables false
set_option linter.unusedSimpArgs false
section
open Go Go.RowKit Go.ChangeShapes Go.WideShapes Go.ChangeAt
theorem locatesAcross_door (os : Os) (args : Array Value) : laidMetH Tryz.prog Rows.locatesAcrossRow.laid ((World.doorLaid Tryz.prog 24 os).forCall (fun _ _ => 0) ⟨#[], args, []⟩).memory :=
  laidMetH_of_parts3 (fuel := 8) (laidMet_of_run' 8 (by kernel_rfl) (by kernel_rfl)) (by kernel_rfl) (by kernel_rfl)
theorem params_locatesAcross : Tryz.f3.params = #[26, 32] := by kernel_rfl
set_option maxRecDepth 100000 in
theorem locatesAcross_lifted (os : Os) (started : os.Started) (H : Type) (enc : TypeId × Value → H) :
    ReturnsInHanded {} Tryz.checked os 3 .any (fun w args => (Rows.locatesAcrossSpec.pre enc Tryz.prog Tryz.f3 [] false w args ∧ laidMetH Tryz.prog Rows.locatesAcrossRow.laid w) ∧ sizedMet enc Tryz.prog Tryz.f3 (OpenSpec.ofChange Rows.locatesAcrossSpec) false w args)
      (Rows.locatesAcrossSpec.post enc Tryz.prog Tryz.f3 false true false false) := by
  refine returnsInHanded_of_change_and (C := Tryz.checked) (X := fun w _ => laidMetH Tryz.prog Rows.locatesAcrossRow.laid w) (fun _ _ _ hh h => h.of_heap hh) ownKnob0 started (by kernel_rfl) Tryz.func3
    (ChangeSpec.witness_shaped (enc := enc) (C := Tryz.checked) (os := os) (X := fun w _ => laidMetH Tryz.prog Rows.locatesAcrossRow.laid w) false (World.doorLaid Tryz.prog 24 os) #[.agg #[.int .u8 0, .int .u8 0, .slice none 0 0, .int .i8 0, .int .i8 0, .int .i8 0, .int .i8 0, .int .u8 0, .int .u8 0], .agg #[.int .i64 0, .int .u32 0, .int .i64 0, .int .u32 0, .int .i64 0, .int .u32 0, .int .i64 0, .int .u32 0]] 8 rfl (World.shaped_of_RefB (by kernel_rfl) (by kernel_rfl)) (by kernel_rfl) (by kernel_rfl) (by kernel_rfl) (locatesAcross_door os _)) ?_
  intro W base args ds gs before hval0 hW _ _ hL _
  have hval : ∀ (j : Nat) t v, Tryz.f3.params[j]? = some t → args[j]? = some v → Value.okWide Tryz.prog W .any base t v := hval0
  have hW' := hW
  obtain ⟨p, q, hA0, hV, hbe, hfz, hnd⟩ := hW
  have hA : DataW.TrodAll enc Tryz.prog W 0 (fun _ => true) true Tryz.f3.params.toList args.toList ds p := hA0
  rw [params_locatesAcross] at hA hval
  obtain ⟨v0, v1, d0, d1, p0, p1, rfl, rfl, rfl, h0, h1⟩ := trodAll_two hA
  obtain ⟨rfl, rfl⟩ := trodVars_none hV
  clear hA0 hval0
  obtain ⟨m0, rfl, hm0⟩ := arg_M (P := Tryz.prog) (ts := 22) (e := 5) (a0 := 5) (a1 := 5) (a2 := 23) (a3 := 23) (a4 := 23) (a5 := 23) (a6 := 5) (a7 := 5) Tryz.underlying26 ⟨_, rfl, rfl, rfl⟩ Tryz.underlying22 (by kernel_rfl) (by kernel_rfl) (by kernel_rfl) (by kernel_rfl) (by kernel_rfl) (by kernel_rfl) (hval 0 26 _ rfl rfl) h0
  obtain ⟨p10, p11, kp10, kp11, rfl⟩ := arg_p2 (ts := [2, 27, 2, 27, 2, 27, 2, 27]) rfl (by kernel_rfl) (by kernel_rfl) (by kernel_rfl) (hval 1 32 _ rfl rfl)
  refine (LocatesAcross_ok m0 p10 p11 kp10 kp11 W hm0).mono fun e W' ⟨he, hb⟩ => ?_
  subst he
  exact ⟨_, rfl, law_post hW' rfl rfl (by kernel_rfl) Tryz.underlying4 hb laidOut (by rw [params_locatesAcross]; exact fun t ht => (by have h9 := List.all_eq_true.1 (show ([26, 32].all fun t => Tryz.prog.readableRec t && decide (t < Tryz.prog.types.size)) = true by kernel_rfl) t (by simpa using ht); rw [Bool.and_eq_true, decide_eq_true_eq] at h9; exact h9))⟩
theorem locatesAcross_holds : Rows.LocatesAcrossSaid :=
  OpenClaim.holds_of_wide 3 Tryz.f3 rfl rfl rfl rfl rfl rfl rfl ⟨rfl, rfl, rfl, rfl, rfl⟩ rfl rfl rfl rfl rfl (by kernel_rfl) Tryz.func3 (by kernel_rfl)
    (of_decide_eq_true (by kernel_rfl)) (by unfold Func.isWrapper; first | (rw [if_pos (by decide +kernel)]; kernel_rfl) | (rw [if_neg (by decide +kernel)]; exact ⟨rfl, rfl⟩))
    (fun os started H enc _ => locatesAcross_lifted os started H enc)
theorem locatesAcross_card_holds : Rows.LocatesAcrossCardSaid :=
  Claim7.holds_tied_plain_at .later [] [.data, .data, .data] true Rows.locatesAcrossCard.stood.harness false
    locatesAcross_holds (fun _ h => by cases h) (by kernel_rfl) (fun _ h => by cases h) locatesAcross_row_tie rfl ⟨rfl, rfl⟩ (by kernel_rfl) rfl
    (fun f fn hf hfn => by
      obtain rfl : f = 3 := Option.some.inj ((show Tryz.prog.funcNamed Rows.locatesAcrossRow.func = some 3 by kernel_rfl).symm.trans hf) |>.symm
      obtain rfl : fn = Tryz.f3 := (Option.some.inj (Tryz.func3.symm.trans hfn)).symm
      exact ⟨by kernel_rfl, fun j t ht => by
        rw [params_locatesAcross] at ht
        have hm : t ∈ [26, 32] := by simpa using Array.mem_of_getElem? ht
        have hall : ([26, 32].all fun u => !Tryz.prog.wantsStandIn u) = true := by kernel_rfl
        exact (show Tryz.prog.wantsStandIn t = false by simpa using List.all_eq_true.1 hall t hm)⟩)
    (by kernel_rfl)
#print axioms locatesAcross_card_holds
end
end Go.Proofs.YtnofgcpajmldkaaGreatDoor
