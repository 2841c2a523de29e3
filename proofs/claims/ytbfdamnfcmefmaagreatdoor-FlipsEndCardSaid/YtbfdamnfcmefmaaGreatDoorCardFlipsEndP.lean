import Derived.MakeChecks
import Derived.Stop.LaidErr
import Derived.Lib.LaidTab
import Derived.Test.YtbfdamnfcmefmaaGreatDoorPend42
namespace Go.Proofs.YtbfdamnfcmefmaaGreatDoor
open Go Go.RowKit Go.Proofs.Tryz
open Go.Value renaming slice→qz,bool→qa
set_option linter.unusedVariables false
set_option linter.unusedSimpArgs false
section
open Go Go.RowKit Go.ChangeShapes Go.WideShapes Go.ChangeAt
theorem MW (os:Os) (args:Array Value):laidMetH Tryz.prog Rows.flipsEndRow.laid ((World.doorLaid Tryz.prog 24 os).forCall (λ_ _=>0) ⟨#[],args,[]⟩).memory :=
  laidMetH_of_parts3 (fuel:=8) (laidMet_of_run' 8 jV jV) jV jV
theorem OP {W:World} (h:laidMetH Tryz.prog Rows.flipsEndRow.laid W):SF W:=by
  rw [MakeChecks.laidMetH_plain _ _ _ jV] at h
  exact Lib.tabIs_of_head (g := 1) (t := 336) (e := 60) (n := 20) (by kernel_rfl) (by kernel_rfl) Tryz.underlying336 Tryz.underlying60 (by kernel_rfl) (by kernel_rfl) (show laidMet Tryz.prog [("internal/strconv.uint64pow10", Lib.tabData .u64 Lib.pow10Tab)] W from h.tail.tail)
theorem Ek:Tryz.f5.params=#[26]:=by kernel_rfl
set_option maxRecDepth 100000 in
theorem Ju (os:Os) (started:os.Started) (H:Type) (enc:TypeId×Value->H) :
    ReturnsInHanded {} Tryz.checked os 5 .any (λw args=>(Rows.flipsEndSpec.pre enc Tryz.prog Tryz.f5 [] false w args/\laidMetH Tryz.prog Rows.flipsEndRow.laid w)/\sizedMet enc Tryz.prog Tryz.f5 (OpenSpec.ofChange Rows.flipsEndSpec) false w args)
      (Rows.flipsEndSpec.post enc Tryz.prog Tryz.f5 false true false false):=by
  refine returnsInHanded_of_change_and (C:=Tryz.checked) (X:=λw _=>laidMetH Tryz.prog Rows.flipsEndRow.laid w) (λ_ _ _ hh h=>h.of_heap hh) V_ started jV Tryz.func5
    (ChangeSpec.witness_shaped (enc:=enc) (C:=Tryz.checked) (os:=os) (X:=λw _=>laidMetH Tryz.prog Rows.flipsEndRow.laid w) false (World.doorLaid Tryz.prog 24 os) #[.agg #[.int .u8 0,.int .u8 0,.slice none 0 0,.int .i8 0,.int .i8 0,.int .i8 0,.int .i8 0,.int .u8 0,.int .u8 0]] 8 rfl (World.shaped_of_RefB jV jV) jV jV jV (MW os _)) ?_
  intro W base args ds gs CJ hval0 hW _ _ hL _
  have hval:∀(j:Nat) t v,Tryz.f5.params[j]?=some t->args[j]?=some v->Value.okWide Tryz.prog W .any base t v:=hval0
  have hW':=hW
  obtain ⟨p,q,hA0,hV,hbe,hfz,hnd⟩:=hW
  have hA:DataW.TrodAll enc Tryz.prog W 0 (λ_=>true) true Tryz.f5.params.toList args.toList ds p:=hA0
  rw [Ek] at hA hval
  obtain ⟨v0,d0,rfl,rfl,h0⟩:=trodAll_one hA
  obtain ⟨rfl,rfl⟩:=trodVars_none hV
  clear hA0 hval0
  obtain ⟨m0,rfl,hm0⟩:=bg (P:=Tryz.prog) (ts:=22) (e:=5) (a0:=5) (a1:=5) (a2:=23) (a3:=23) (a4:=23) (a5:=23) (a6:=5) (a7:=5) Tryz.underlying26 ⟨_,rfl,rfl,rfl⟩ Tryz.underlying22 jV jV jV jV jV jV (hval 0 26 _ rfl rfl) h0
  refine (Of m0 W hm0 (OP hL)).mono λe W' ⟨he,hb⟩=>?_
  subst he
  exact ⟨_,rfl,VX hW' O O jV Tryz.underlying4 hb.toBelow YR (by rw [Ek];exact λt ht=>(by have h9:=List.all_eq_true.1 (show ([26].all λt=>Tryz.prog.readableRec t&&decide (t<Tryz.prog.types.size))=true by kernel_rfl) t (by simpa using ht);rw [yz,xV] at h9;exact h9))⟩
theorem K9:joinedFacts Tryz.pinned.checked.prog 5 Tryz.f5 Rows.flipsEndSpec Rows.flipsEndRow=true:=by kernel_rfl
theorem K_:Rows.FlipsEndSaid :=
  OpenClaim.holds_of_wide 5 Tryz.f5 rfl rfl rfl rfl rfl rfl rfl ⟨rfl,rfl,rfl,rfl,rfl⟩ rfl rfl rfl rfl rfl jV Tryz.func5 K9
    (xT jV) (by unfold Func.isWrapper;first|(rw [if_pos (by decide +kernel)];kernel_rfl)|(rw [if_neg (by decide +kernel)];exact ⟨rfl,rfl⟩))
    (λos started H enc _=>Ju os started H enc)
theorem flipsEnd_card_holds:Rows.FlipsEndCardSaid :=
  Claim7.holds_tied_plain_at .later [] [.data,.data,.data] true Rows.flipsEndCard.stood.harness false
    K_ (λ_ h=>by cases h) jV (λ_ h=>by cases h) flipsEnd_row_tie rfl ⟨rfl,rfl⟩ jV rfl
    (λf fn hf hfn=>by
      obtain rfl:f=5:=Option.some.inj ((show Tryz.prog.funcNamed Rows.flipsEndRow.func=some 5 by kernel_rfl).symm.trans hf) |>.symm
      obtain rfl:fn=Tryz.f5:=(Option.some.inj (Tryz.func5.symm.trans hfn)).symm
      exact ⟨by kernel_rfl,λj t ht=>by
        rw [Ek] at ht
        have hm:t∈[26]:=by simpa using Array.mem_of_getElem? ht
        have hall:([26].all λu=>!Tryz.prog.wantsStandIn u)=true:=by kernel_rfl
        exact (show Tryz.prog.wantsStandIn t=false by simpa using List.all_eq_true.1 hall t hm)⟩)
    jV
#print axioms flipsEnd_card_holds
end
end Go.Proofs.YtbfdamnfcmefmaaGreatDoor
