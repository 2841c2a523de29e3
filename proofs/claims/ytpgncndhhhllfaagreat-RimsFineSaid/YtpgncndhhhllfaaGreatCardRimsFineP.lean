import Derived.Test.YtpgncndhhhllfaaGreatPart49
import Derived.Test.YtpgncndhhhllfaaGreatPart50
namespace Go.Proofs.YtpgncndhhhllfaaGreat
open Go Go.RowKit Go.Proofs.Tryz
set_option linter.unusedVariables false
set_option linter.unusedSimpArgs false
section
open Go Go.RowKit Go.ChangeShapes Go.WideShapes Go.ChangeAt
theorem F6:Tryz.f3.params=#[26]:=by kernel_rfl
set_option maxRecDepth 100000 in
theorem JW (os:Os) (started:os.Started) (H:Type) (enc:TypeId×Value->H) :
    ReturnsInHanded {} Tryz.checked os 3 .any (Rows.rimsFineSpec.pre6 enc Tryz.prog Tryz.f3 [] false)
      (Rows.rimsFineSpec.post enc Tryz.prog Tryz.f3 false true false false):=by
  refine returnsInHanded_of_change (C:=Tryz.checked) Vq started (by kernel_rfl) Tryz.func3
    (by
      obtain ⟨w,tp,i,a,b,c,d,⟨⟨e,_⟩,g⟩,h⟩:=ChangeSpec.witness_shaped (enc:=enc) (C:=Tryz.checked) (os:=os) (f:=3) (fn:=Tryz.f3) (s:=Rows.rimsFineSpec) (conds:=[]) (apart:=false) (X:=λ_ _=>True) false (World.doorLaid Tryz.prog 24 os) #[.agg #[.int .u8 0,.int .u8 0,.slice none 0 0,.int .i8 0,.int .i8 0,.int .i8 0,.int .i8 0,.int .u8 0,.int .u8 0]] 8 rfl (World.shaped_of_RefB (by kernel_rfl) (by kernel_rfl)) (by kernel_rfl) (by kernel_rfl) (by kernel_rfl) trivial
      exact ⟨w,tp,i,a,b,c,d,⟨e,g⟩,h⟩) ?_
  intro W base args ds gs Cr hval0 hW _ _
  have hval:∀(j:Nat) t v,Tryz.f3.params[j]?=some t->args[j]?=some v->Value.okWide Tryz.prog W .any base t v:=hval0
  have hW':=hW
  obtain ⟨p,q,hA0,hV,hbe,hfz,hnd⟩:=hW
  have hA:DataW.TrodAll enc Tryz.prog W 0 (λ_=>true) true Tryz.f3.params.toList args.toList ds p:=hA0
  rw [F6] at hA hval
  obtain ⟨v0,d0,rfl,rfl,h0⟩:=trodAll_one hA
  obtain ⟨rfl,rfl⟩:=trodVars_none hV
  clear hA0 hval0
  obtain ⟨m0,rfl,hm0⟩:=av (P:=Tryz.prog) (ts:=22) (e:=5) (a0:=5) (a1:=5) (a2:=23) (a3:=23) (a4:=23) (a5:=23) (a6:=5) (a7:=5) Tryz.underlying26 ⟨_,rfl,rfl,rfl⟩ Tryz.underlying22 (by kernel_rfl) (by kernel_rfl) (by kernel_rfl) (by kernel_rfl) (by kernel_rfl) (by kernel_rfl) (hval 0 26 _ rfl rfl) h0
  refine (Nl m0 W hm0).mono λe W' ⟨he,hb⟩=>?_
  subst he
  exact ⟨_,rfl,Ut hW' O O (by kernel_rfl) Tryz.underlying4 hb Yq (by rw [F6];exact λt ht=>(by have h9:=List.all_eq_true.1 (show ([26].all λt=>Tryz.prog.readableRec t&&decide (t<Tryz.prog.types.size))=true by kernel_rfl) t (by simpa using ht);rw [Bool.and_eq_true,decide_eq_true_eq] at h9;exact h9))⟩
theorem rimsFine_holds:Rows.RimsFineSaid :=
  OpenClaim.holds_of_wide 3 Tryz.f3 rfl rfl rfl rfl rfl rfl rfl ⟨rfl,rfl,rfl,rfl,rfl⟩ rfl rfl rfl rfl rfl (by kernel_rfl) Tryz.func3 (by kernel_rfl)
    (of_decide_eq_true (by kernel_rfl)) (by unfold Func.isWrapper;first|(rw [if_pos (by decide +kernel)];kernel_rfl)|(rw [if_neg (by decide +kernel)];exact ⟨rfl,rfl⟩))
    (λos started H enc _=>JW os started H enc)
#print axioms rimsFine_holds
end
end Go.Proofs.YtpgncndhhhllfaaGreat
