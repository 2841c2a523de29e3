import Derived.Test.YtgiacpkjnikjdaaGreatPart46
import Derived.Test.YtgiacpkjnikjdaaGreatPart47
namespace Go.Proofs.YtgiacpkjnikjdaaGreat
open Go Go.RowKit
set_option linter.unusedVariables false
set_option linter.unusedSimpArgs false
section
open Go Go.RowKit Go.ChangeShapes Go.WideShapes Go.ChangeAt
theorem params_bisectsSides : Tryz.f8.params = #[26, 72] := by kernel_rfl
set_option maxRecDepth 100000 in
theorem bisectsSides_lifted (os : Os) (started : os.Started) (H : Type) (enc : TypeId × Value → H) :
    ReturnsInHanded {} Tryz.checked os 8 .any (Rows.bisectsSidesSpec.pre6 enc Tryz.prog Tryz.f8 [] false)
      (Rows.bisectsSidesSpec.post enc Tryz.prog Tryz.f8 false true false false) := by
  refine returnsInHanded_of_change (C := Tryz.checked) ownKnob0 started (by kernel_rfl) Tryz.func8
    (by
      obtain ⟨w, tp, i, a, b, c, d, ⟨⟨e, _⟩, g⟩, h⟩ := ChangeSpec.witness_shaped (enc := enc) (C := Tryz.checked) (os := os) (f := 8) (fn := Tryz.f8) (s := Rows.bisectsSidesSpec) (conds := []) (apart := false) (X := fun _ _ => True) false (World.doorLaid Tryz.prog 24 os) #[.agg #[.int .u8 0, .int .u8 0, .slice none 0 0, .int .i8 0, .int .i8 0, .int .i8 0, .int .i8 0, .int .u8 0, .int .u8 0], .agg #[.int .u8 0, .int .u8 0, .int .u8 0]] 8 rfl (World.shaped_of_RefB (by kernel_rfl) (by kernel_rfl)) (by kernel_rfl) (by kernel_rfl) (by kernel_rfl) trivial
      exact ⟨w, tp, i, a, b, c, d, ⟨e, g⟩, h⟩) ?_
  intro W base args ds gs before hval0 hW _ _
  have hval : ∀ (j : Nat) t v, Tryz.f8.params[j]? = some t → args[j]? = some v → Value.okWide Tryz.prog W .any base t v := hval0
  have hW' := hW
  obtain ⟨p, q, hA0, hV, hbe, hfz, hnd⟩ := hW
  have hA : DataW.TrodAll enc Tryz.prog W 0 (fun _ => true) true Tryz.f8.params.toList args.toList ds p := hA0
  rw [params_bisectsSides] at hA hval
  obtain ⟨v0, v1, d0, d1, p0, p1, rfl, rfl, rfl, h0, h1⟩ := trodAll_two hA
  obtain ⟨rfl, rfl⟩ := trodVars_none hV
  clear hA0 hval0
  obtain ⟨m0, rfl, hm0⟩ := arg_M (P := Tryz.prog) (ts := 22) (e := 5) (a0 := 5) (a1 := 5) (a2 := 23) (a3 := 23) (a4 := 23) (a5 := 23) (a6 := 5) (a7 := 5) Tryz.underlying26 ⟨_, rfl, rfl, rfl⟩ Tryz.underlying22 (by kernel_rfl) (by kernel_rfl) (by kernel_rfl) (by kernel_rfl) (by kernel_rfl) (by kernel_rfl) (hval 0 26 _ rfl rfl) h0
  obtain ⟨n1a, n1b, n1c, ⟨k1a, k1b, k1c⟩, rfl⟩ := arg_a3 (ts := [5, 5, 5]) rfl (by kernel_rfl) (by kernel_rfl) (by kernel_rfl) (hval 1 72 _ rfl rfl)
  refine (BisectsSides_ok m0 n1a n1b n1c k1a k1b k1c W hm0).mono fun e W' ⟨he, hb⟩ => ?_
  subst he
  exact ⟨_, rfl, law_post hW' rfl rfl (by kernel_rfl) Tryz.underlying4 hb laidOut (by rw [params_bisectsSides]; exact fun t ht => (by have h9 := List.all_eq_true.1 (show ([26, 72].all fun t => Tryz.prog.readableRec t && decide (t < Tryz.prog.types.size)) = true by kernel_rfl) t (by simpa using ht); rw [Bool.and_eq_true, decide_eq_true_eq] at h9; exact h9))⟩
theorem bisectsSides_holds : Rows.BisectsSidesSaid :=
  OpenClaim.holds_of_wide 8 Tryz.f8 rfl rfl rfl rfl rfl rfl rfl ⟨rfl, rfl, rfl, rfl, rfl⟩ rfl rfl rfl rfl rfl (by kernel_rfl) Tryz.func8 (by kernel_rfl)
    (of_decide_eq_true (by kernel_rfl)) (by unfold Func.isWrapper; first | (rw [if_pos (by decide +kernel)]; kernel_rfl) | (rw [if_neg (by decide +kernel)]; exact ⟨rfl, rfl⟩))
    (fun os started H enc _ => bisectsSides_lifted os started H enc)
#print axioms bisectsSides_holds
end
end Go.Proofs.YtgiacpkjnikjdaaGreat
