/- TrisShape, proved for every input: the law's walk (NumZF) brought into the row's form; the tied card. No condition of ours. -/
import Derived.Test.YtpkoldfmbebmgaaGreatDoorNumZF
import Derived.Test.YtpkoldfmbebmgaaGreatDoorLift
namespace Go.Proofs.YtpkoldfmbebmgaaGreatDoor
open Go Go.RowKit Go.ChangeShapes Go.WideShapes Go.ChangeAt
set_option linter.unusedVariables false
set_option linter.unusedSimpArgs false

theorem trisShape_door (os : Os) (args : Array Value) : laidMetH Tryz.prog Rows.trisShapeRow.laid ((World.doorLaid Tryz.prog 24 os).forCall (fun _ _ => 0) ⟨#[], args, []⟩).memory :=
  laidMetH_of_parts3 (fuel := 8) (laidMet_of_run' 8 (by kernel_rfl) (by kernel_rfl)) (by kernel_rfl) (by kernel_rfl)
theorem params_trisShape : Tryz.f5.params = #[27, 88, 4] := by kernel_rfl
set_option maxRecDepth 100000 in
theorem trisShape_lifted (os : Os) (started : os.Started) (H : Type) (enc : TypeId × Value → H) :
    ReturnsInHanded {} Tryz.checked os 5 .any (fun w args => (Rows.trisShapeSpec.pre enc Tryz.prog Tryz.f5 [] false w args ∧ laidMetH Tryz.prog Rows.trisShapeRow.laid w) ∧ sizedMet enc Tryz.prog Tryz.f5 (OpenSpec.ofChange Rows.trisShapeSpec) false w args)
      (Rows.trisShapeSpec.post enc Tryz.prog Tryz.f5 false true false false) := by
  refine returnsInHanded_of_change_and (C := Tryz.checked) (X := fun w _ => laidMetH Tryz.prog Rows.trisShapeRow.laid w) (fun _ _ _ hh h => h.of_heap hh) ownKnob0 started (by kernel_rfl) Tryz.func5
    (ChangeSpec.witness_shaped (enc := enc) (C := Tryz.checked) (os := os) (X := fun w _ => laidMetH Tryz.prog Rows.trisShapeRow.laid w) false (World.doorLaid Tryz.prog 24 os) #[.agg #[.int .i64 0, .int .u32 0, .int .i64 0, .int .u32 0, .int .i64 0, .int .u32 0, .int .i64 0, .int .u32 0, .int .i64 0, .int .u32 0, .int .i64 0, .int .u32 0], .agg #[.int .i64 0, .int .u32 0, .int .i64 0, .int .u32 0, .int .i64 0, .int .u32 0, .int .i64 0, .int .u32 0], .bool false] 8 rfl (World.shaped_of_RefB (by kernel_rfl) (by kernel_rfl)) (by kernel_rfl) (by kernel_rfl) (by kernel_rfl) (trisShape_door os _)) ?_
  intro W base args ds gs before hval0 hW _ _ hL _
  have hval : ∀ (j : Nat) t v, Tryz.f5.params[j]? = some t → args[j]? = some v → Value.okWide Tryz.prog W .any base t v := hval0
  have hW' := hW
  obtain ⟨p, q, hA0, hV, hbe, hfz, hnd⟩ := hW
  have hA : DataW.TrodAll enc Tryz.prog W 0 (fun _ => true) true Tryz.f5.params.toList args.toList ds p := hA0
  rw [params_trisShape] at hA hval
  obtain ⟨v0, v1, v2, d0, d1, d2, p0, p1, p2, rfl, rfl, rfl, h0, h1, h2⟩ := trodAll_three hA
  obtain ⟨rfl, rfl⟩ := trodVars_none hV
  clear hA0 hval0
  obtain ⟨p00, p01, p02, kp00, kp01, kp02, rfl⟩ := arg_p3 (ts := [2, 22, 2, 22, 2, 22, 2, 22, 2, 22, 2, 22]) rfl (by kernel_rfl) (by kernel_rfl) (by kernel_rfl) (hval 0 27 _ rfl rfl)
  obtain ⟨p10, p11, kp10, kp11, rfl⟩ := arg_p2 (ts := [2, 22, 2, 22, 2, 22, 2, 22]) rfl (by kernel_rfl) (by kernel_rfl) (by kernel_rfl) (hval 1 88 _ rfl rfl)
  obtain ⟨m2, rfl, _, _⟩ := open_bool Tryz.underlying4 (hval 2 4 _ rfl rfl) h2
  refine (TrisShape_ok p00 p01 p02 p10 p11 m2 kp00 kp01 kp02 kp10 kp11 W).mono fun e W' ⟨he, hb⟩ => ?_
  subst he
  exact ⟨_, rfl, law_post hW' rfl rfl (by kernel_rfl) Tryz.underlying4 hb laidOut (by rw [params_trisShape]; exact fun t ht => (by have h9 := List.all_eq_true.1 (show ([27, 88, 4].all fun t => Tryz.prog.readableRec t && decide (t < Tryz.prog.types.size)) = true by kernel_rfl) t (by simpa using ht); rw [Bool.and_eq_true, decide_eq_true_eq] at h9; exact h9))⟩

theorem trisShape_holds : Rows.TrisShapeSaid :=
  OpenClaim.holds_of_wide 5 Tryz.f5 rfl rfl rfl rfl rfl rfl rfl ⟨rfl, rfl, rfl, rfl, rfl⟩ rfl rfl rfl rfl rfl (by kernel_rfl) Tryz.func5 (by kernel_rfl)
    (of_decide_eq_true (by kernel_rfl)) (by unfold Func.isWrapper; first | (rw [if_pos (by decide +kernel)]; kernel_rfl) | (rw [if_neg (by decide +kernel)]; exact ⟨rfl, rfl⟩))
    (fun os started H enc _ => trisShape_lifted os started H enc)
/-- The tied card. -/
theorem trisShape_card_holds : Rows.TrisShapeCardSaid :=
  Claim7.holds_tied_plain_at .later [] [.data, .data, .data] true Rows.trisShapeCard.stood.harness false
    trisShape_holds (fun _ h => by cases h) (by kernel_rfl) (fun _ h => by cases h) trisShape_row_tie rfl ⟨rfl, rfl⟩ (by kernel_rfl) rfl
    (fun f fn hf hfn => by
      obtain rfl : f = 5 := Option.some.inj ((show Tryz.prog.funcNamed Rows.trisShapeRow.func = some 5 by kernel_rfl).symm.trans hf) |>.symm
      obtain rfl : fn = Tryz.f5 := (Option.some.inj (Tryz.func5.symm.trans hfn)).symm
      exact ⟨by kernel_rfl, fun j t ht => by
        rw [params_trisShape] at ht
        have hm : t ∈ [27, 88, 4] := by simpa using Array.mem_of_getElem? ht
        have hall : ([27, 88, 4].all fun u => !Tryz.prog.wantsStandIn u) = true := by kernel_rfl
        exact (show Tryz.prog.wantsStandIn t = false by simpa using List.all_eq_true.1 hall t hm)⟩)
    (by kernel_rfl)
#print axioms trisShape_card_holds
end Go.Proofs.YtpkoldfmbebmgaaGreatDoor

