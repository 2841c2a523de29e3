import Derived.Test.YtpgncndhhhllfaaGreatPart47
namespace Go.Proofs.YtpgncndhhhllfaaGreat
open Go Go.RowKit Go.Proofs.Tryz
set_option linter.unusedVariables false
set_option linter.unusedSimpArgs false
section
open Go Go.RowKit Go.ChangeShapes Go.WideShapes Go.ChangeAt
theorem Fw:Tryz.f4.params=#[44]:=by kernel_rfl
set_option maxRecDepth 100000 in
theorem KD (os:Os) (started:os.Started) (H:Type) (enc:TypeId×Value->H) :
    ReturnsInHanded {} Tryz.checked os 4 .any (Rows.rimsAnySpec.pre6 enc Tryz.prog Tryz.f4 [] false)
      (Rows.rimsAnySpec.post enc Tryz.prog Tryz.f4 false true false false):=by
  refine returnsInHanded_of_change (C:=Tryz.checked) U8 started (by kernel_rfl) Tryz.func4
    (by
      obtain ⟨w,tp,i,a,b,c,d,⟨⟨e,_⟩,g⟩,h⟩:=ChangeSpec.witness_shaped (enc:=enc) (C:=Tryz.checked) (os:=os) (f:=4) (fn:=Tryz.f4) (s:=Rows.rimsAnySpec) (conds:=[]) (apart:=false) (X:=λ_ _=>True) false (World.doorLaid Tryz.prog 24 os) #[.agg #[.slice none 0 0,.slice none 0 0,.slice none 0 0]] 8 rfl (World.shaped_of_RefB (by kernel_rfl) (by kernel_rfl)) (by kernel_rfl) (by kernel_rfl) (by kernel_rfl) trivial
      exact ⟨w,tp,i,a,b,c,d,⟨e,g⟩,h⟩) ?_
  intro W base args ds gs Cg hval0 hW _ _
  have hval:∀(j:Nat) t v,Tryz.f4.params[j]?=some t->args[j]?=some v->Value.okWide Tryz.prog W .any base t v:=hval0
  have hW':=hW
  obtain ⟨p,q,hA0,hV,hbe,hfz,hnd⟩:=hW
  have hA:DataW.TrodAll enc Tryz.prog W 0 (λ_=>true) true Tryz.f4.params.toList args.toList ds p:=hA0
  rw [Fw] at hA hval
  obtain ⟨v0,d0,rfl,rfl,h0⟩:=trodAll_one hA
  obtain ⟨rfl,rfl⟩:=trodVars_none hV
  clear hA0 hval0
  obtain ⟨m0,rfl,hm0⟩:=Z6 (P:=Tryz.prog) (t0:=42) (t1:=28) (t2:=29) (p:=55) (q:=53) (i64:=2) (u32:=50) (a3:=68) (sd:=70) (it:=3) Tryz.underlying44 ⟨_,rfl,rfl,rfl⟩ ⟨_,rfl,rfl,rfl⟩ ⟨_,rfl,rfl,rfl⟩ Tryz.underlying42 Tryz.underlying28 Tryz.underlying29 (by kernel_rfl) (by kernel_rfl) (by kernel_rfl) Tryz.underlying55 ⟨_,rfl,rfl,rfl⟩ ⟨_,rfl,rfl,rfl⟩ Tryz.underlying53 ⟨_,rfl,rfl,rfl⟩ ⟨_,rfl,rfl,rfl⟩ (by kernel_rfl) (by kernel_rfl) (by kernel_rfl) (by kernel_rfl) (by kernel_rfl) (by kernel_rfl) Tryz.underlying68 (by kernel_rfl) (by kernel_rfl) (by kernel_rfl) Tryz.underlying70 ⟨_,rfl,rfl,rfl⟩ ⟨_,rfl,rfl,rfl⟩ ⟨_,rfl,rfl,rfl⟩ (by kernel_rfl) (by kernel_rfl) (by kernel_rfl) (hval 0 44 _ rfl rfl) h0
  refine (O1 m0 W hm0).mono λe W' ⟨he,hb⟩=>?_
  subst he
  exact ⟨_,rfl,Tl hW' O O (by kernel_rfl) Tryz.underlying4 hb V_ (by rw [Fw];exact λt ht=>(by have h9:=List.all_eq_true.1 (show ([44].all λt=>Tryz.prog.readableRec t&&decide (t<Tryz.prog.types.size))=true by kernel_rfl) t (by simpa using ht);rw [Bool.and_eq_true,decide_eq_true_eq] at h9;exact h9))⟩
theorem rimsAny_holds:Rows.RimsAnySaid :=
  OpenClaim.holds_of_wide 4 Tryz.f4 rfl rfl rfl rfl rfl rfl rfl ⟨rfl,rfl,rfl,rfl,rfl⟩ rfl rfl rfl rfl rfl (by kernel_rfl) Tryz.func4 (by kernel_rfl)
    (of_decide_eq_true (by kernel_rfl)) (by unfold Func.isWrapper;first|(rw [if_pos (by decide +kernel)];kernel_rfl)|(rw [if_neg (by decide +kernel)];exact ⟨rfl,rfl⟩))
    (λos started H enc _=>KD os started H enc)
#print axioms rimsAny_holds
end
end Go.Proofs.YtpgncndhhhllfaaGreat
