import Derived.Test.YtfbomiejpbchdaaGreatDoorPart37
import Derived.Test.YtfbomiejpbchdaaGreatDoorPart38
namespace Go.Proofs.YtfbomiejpbchdaaGreatDoor
open Go Go.RowKit Go.Proofs.Tryz
set_option linter.unusedVariables false
set_option linter.unusedSimpArgs false
section
open Go Go.RowKit Go.ChangeShapes Go.WideShapes Go.ChangeAt
theorem I3 (os:Os) (args:Array Value):laidMetH Tryz.prog Rows.meshesRimRow.laid ((World.doorLaid Tryz.prog 24 os).forCall (λ_ _=>0) ⟨#[],args,[]⟩).memory :=
  laidMetH_of_parts3 (fuel:=8) (laidMet_of_run' 8 (by kernel_rfl) (by kernel_rfl)) (by kernel_rfl) (by kernel_rfl)
theorem Dh:Tryz.f4.params=#[50]:=by kernel_rfl
set_option maxRecDepth 100000 in
theorem Hb (os:Os) (started:os.Started) (H:Type) (enc:TypeId×Value->H) :
    ReturnsInHanded {} Tryz.checked os 4 .any (λw args=>(Rows.meshesRimSpec.pre enc Tryz.prog Tryz.f4 [] false w args/\laidMetH Tryz.prog Rows.meshesRimRow.laid w)/\sizedMet enc Tryz.prog Tryz.f4 (OpenSpec.ofChange Rows.meshesRimSpec) false w args)
      (Rows.meshesRimSpec.post enc Tryz.prog Tryz.f4 false true false false):=by
  refine returnsInHanded_of_change_and (C:=Tryz.checked) (X:=λw _=>laidMetH Tryz.prog Rows.meshesRimRow.laid w) (λ_ _ _ hh h=>h.of_heap hh) Rp started (by kernel_rfl) Tryz.func4
    (ChangeSpec.witness_shaped (enc:=enc) (C:=Tryz.checked) (os:=os) (X:=λw _=>laidMetH Tryz.prog Rows.meshesRimRow.laid w) false (World.doorLaid Tryz.prog 24 os) #[.agg #[.int .u8 0,.int .u8 0,.slice none 0 0,.int .i8 0,.int .i8 0,.int .i8 0,.int .i8 0,.int .u8 0,.int .u8 0]] 8 rfl (World.shaped_of_RefB (by kernel_rfl) (by kernel_rfl)) (by kernel_rfl) (by kernel_rfl) (by kernel_rfl) (I3 os _)) ?_
  intro W base args ds gs CB hval0 hW _ _ hL _
  have hval:∀(j:Nat) t v,Tryz.f4.params[j]?=some t->args[j]?=some v->Value.okWide Tryz.prog W .any base t v:=hval0
  have hW':=hW
  obtain ⟨p,q,hA0,hV,hbe,hfz,hnd⟩:=hW
  have hA:DataW.TrodAll enc Tryz.prog W 0 (λ_=>true) true Tryz.f4.params.toList args.toList ds p:=hA0
  rw [Dh] at hA hval
  obtain ⟨v0,d0,rfl,rfl,h0⟩:=trodAll_one hA
  obtain ⟨rfl,rfl⟩:=trodVars_none hV
  clear hA0 hval0
  obtain ⟨m0,rfl,hm0⟩:=U8 (P:=Tryz.prog) (ts:=46) (e:=5) (a0:=5) (a1:=5) (a2:=47) (a3:=47) (a4:=47) (a5:=47) (a6:=5) (a7:=5) Tryz.underlying50 ⟨_,rfl,rfl,rfl⟩ Tryz.underlying46 (by kernel_rfl) (by kernel_rfl) (by kernel_rfl) (by kernel_rfl) (by kernel_rfl) (by kernel_rfl) (hval 0 50 _ rfl rfl) h0
  refine (Kv m0 W hm0).mono λe W' ⟨he,hb⟩=>?_
  subst he
  exact ⟨_,rfl,Qt hW' O O (by kernel_rfl) Tryz.underlying4 hb TR (by rw [Dh];exact λt ht=>(by have h9:=List.all_eq_true.1 (show ([50].all λt=>Tryz.prog.readableRec t&&decide (t<Tryz.prog.types.size))=true by kernel_rfl) t (by simpa using ht);rw [Bool.and_eq_true,decide_eq_true_eq] at h9;exact h9))⟩
theorem H0:Rows.MeshesRimSaid :=
  OpenClaim.holds_of_wide 4 Tryz.f4 rfl rfl rfl rfl rfl rfl rfl ⟨rfl,rfl,rfl,rfl,rfl⟩ rfl rfl rfl rfl rfl (by kernel_rfl) Tryz.func4 (by kernel_rfl)
    (of_decide_eq_true (by kernel_rfl)) (by unfold Func.isWrapper;first|(rw [if_pos (by decide +kernel)];kernel_rfl)|(rw [if_neg (by decide +kernel)];exact ⟨rfl,rfl⟩))
    (λos started H enc _=>Hb os started H enc)
theorem meshesRim_card_holds:Rows.MeshesRimCardSaid :=
  Claim7.holds_tied_plain_at .later [] [.data,.data,.data] true Rows.meshesRimCard.stood.harness false
    H0 (λ_ h=>by cases h) (by kernel_rfl) (λ_ h=>by cases h) meshesRim_row_tie rfl ⟨rfl,rfl⟩ (by kernel_rfl) rfl
    (λf fn hf hfn=>by
      obtain rfl:f=4:=Option.some.inj ((show Tryz.prog.funcNamed Rows.meshesRimRow.func=some 4 by kernel_rfl).symm.trans hf) |>.symm
      obtain rfl:fn=Tryz.f4:=(Option.some.inj (Tryz.func4.symm.trans hfn)).symm
      exact ⟨by kernel_rfl,λj t ht=>by
        rw [Dh] at ht
        have hm:t∈[50]:=by simpa using Array.mem_of_getElem? ht
        have hall:([50].all λu=>!Tryz.prog.wantsStandIn u)=true:=by kernel_rfl
        exact (show Tryz.prog.wantsStandIn t=false by simpa using List.all_eq_true.1 hall t hm)⟩)
    (by kernel_rfl)
#print axioms meshesRim_card_holds
end
end Go.Proofs.YtfbomiejpbchdaaGreatDoor
