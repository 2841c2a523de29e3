import Derived.Test.YtfbomiejpbchdaaGreatDoorPart39
namespace Go.Proofs.YtfbomiejpbchdaaGreatDoor
open Go Go.RowKit Go.Proofs.Tryz
set_option linter.unusedVariables false
set_option linter.unusedSimpArgs false
section
open Go Go.RowKit Go.ChangeShapes Go.WideShapes Go.ChangeAt
theorem Hw (os:Os) (args:Array Value):laidMetH Tryz.prog Rows.meshesOrderRow.laid ((World.doorLaid Tryz.prog 24 os).forCall (λ_ _=>0) ⟨#[],args,[]⟩).memory :=
  laidMetH_of_parts3 (fuel:=8) (laidMet_of_run' 8 (by kernel_rfl) (by kernel_rfl)) (by kernel_rfl) (by kernel_rfl)
theorem DN:Tryz.f6.params=#[50,5,5]:=by kernel_rfl
set_option maxRecDepth 100000 in
theorem HF (os:Os) (started:os.Started) (H:Type) (enc:TypeId×Value->H) :
    ReturnsInHanded {} Tryz.checked os 6 .any (λw args=>(Rows.meshesOrderSpec.pre enc Tryz.prog Tryz.f6 [] false w args/\laidMetH Tryz.prog Rows.meshesOrderRow.laid w)/\sizedMet enc Tryz.prog Tryz.f6 (OpenSpec.ofChange Rows.meshesOrderSpec) false w args)
      (Rows.meshesOrderSpec.post enc Tryz.prog Tryz.f6 false true false false):=by
  refine returnsInHanded_of_change_and (C:=Tryz.checked) (X:=λw _=>laidMetH Tryz.prog Rows.meshesOrderRow.laid w) (λ_ _ _ hh h=>h.of_heap hh) Rw started (by kernel_rfl) Tryz.func6
    (ChangeSpec.witness_shaped (enc:=enc) (C:=Tryz.checked) (os:=os) (X:=λw _=>laidMetH Tryz.prog Rows.meshesOrderRow.laid w) false (World.doorLaid Tryz.prog 24 os) #[.agg #[.int .u8 0,.int .u8 0,.slice none 0 0,.int .i8 0,.int .i8 0,.int .i8 0,.int .i8 0,.int .u8 0,.int .u8 0],.int .u8 0,.int .u8 0] 8 rfl (World.shaped_of_RefB (by kernel_rfl) (by kernel_rfl)) (by kernel_rfl) (by kernel_rfl) (by kernel_rfl) (Hw os _)) ?_
  intro W base args ds gs CD hval0 hW _ _ hL _
  have hval:∀(j:Nat) t v,Tryz.f6.params[j]?=some t->args[j]?=some v->Value.okWide Tryz.prog W .any base t v:=hval0
  have hW':=hW
  obtain ⟨p,q,hA0,hV,hbe,hfz,hnd⟩:=hW
  have hA:DataW.TrodAll enc Tryz.prog W 0 (λ_=>true) true Tryz.f6.params.toList args.toList ds p:=hA0
  rw [DN] at hA hval
  obtain ⟨v0,v1,v2,d0,d1,d2,p0,p1,p2,rfl,rfl,rfl,h0,h1,h2⟩:=trodAll_three hA
  obtain ⟨rfl,rfl⟩:=trodVars_none hV
  clear hA0 hval0
  obtain ⟨m0,rfl,hm0⟩:=Wy (P:=Tryz.prog) (ts:=46) (e:=5) (a0:=5) (a1:=5) (a2:=47) (a3:=47) (a4:=47) (a5:=47) (a6:=5) (a7:=5) Tryz.underlying50 ⟨_,rfl,rfl,rfl⟩ Tryz.underlying46 (by kernel_rfl) (by kernel_rfl) (by kernel_rfl) (by kernel_rfl) (by kernel_rfl) (by kernel_rfl) (hval 0 50 _ rfl rfl) h0
  obtain ⟨n1,rfl,k1⟩:=RO (P:=Tryz.prog) (by kernel_rfl) (hval 1 5 _ rfl rfl)
  obtain ⟨n2,rfl,k2⟩:=RO (P:=Tryz.prog) (by kernel_rfl) (hval 2 5 _ rfl rfl)
  refine (KC m0 n1 n2 k1 k2 W hm0).mono λe W' ⟨he,hb⟩=>?_
  subst he
  exact ⟨_,rfl,Su hW' O O (by kernel_rfl) Tryz.underlying4 hb Ub (by rw [DN];exact λt ht=>(by have h9:=List.all_eq_true.1 (show ([50,5,5].all λt=>Tryz.prog.readableRec t&&decide (t<Tryz.prog.types.size))=true by kernel_rfl) t (by simpa using ht);rw [Bool.and_eq_true,decide_eq_true_eq] at h9;exact h9))⟩
theorem HJ:Rows.MeshesOrderSaid :=
  OpenClaim.holds_of_wide 6 Tryz.f6 rfl rfl rfl rfl rfl rfl rfl ⟨rfl,rfl,rfl,rfl,rfl⟩ rfl rfl rfl rfl rfl (by kernel_rfl) Tryz.func6 (by kernel_rfl)
    (of_decide_eq_true (by kernel_rfl)) (by unfold Func.isWrapper;first|(rw [if_pos (by decide +kernel)];kernel_rfl)|(rw [if_neg (by decide +kernel)];exact ⟨rfl,rfl⟩))
    (λos started H enc _=>HF os started H enc)
theorem meshesOrder_card_holds:Rows.MeshesOrderCardSaid :=
  Claim7.holds_tied_plain_at .later [] [.data,.data,.data] true Rows.meshesOrderCard.stood.harness false
    HJ (λ_ h=>by cases h) (by kernel_rfl) (λ_ h=>by cases h) meshesOrder_row_tie rfl ⟨rfl,rfl⟩ (by kernel_rfl) rfl
    (λf fn hf hfn=>by
      obtain rfl:f=6:=Option.some.inj ((show Tryz.prog.funcNamed Rows.meshesOrderRow.func=some 6 by kernel_rfl).symm.trans hf) |>.symm
      obtain rfl:fn=Tryz.f6:=(Option.some.inj (Tryz.func6.symm.trans hfn)).symm
      exact ⟨by kernel_rfl,λj t ht=>by
        rw [DN] at ht
        have hm:t∈[50,5,5]:=by simpa using Array.mem_of_getElem? ht
        have hall:([50,5,5].all λu=>!Tryz.prog.wantsStandIn u)=true:=by kernel_rfl
        exact (show Tryz.prog.wantsStandIn t=false by simpa using List.all_eq_true.1 hall t hm)⟩)
    (by kernel_rfl)
#print axioms meshesOrder_card_holds
end
end Go.Proofs.YtfbomiejpbchdaaGreatDoor
