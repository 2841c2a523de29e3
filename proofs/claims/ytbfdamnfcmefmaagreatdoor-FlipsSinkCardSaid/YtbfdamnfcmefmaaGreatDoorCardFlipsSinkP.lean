import Derived.MakeChecks
import Derived.Stop.LaidErr
import Derived.Lib.LaidTab
import Derived.Test.YtbfdamnfcmefmaaGreatDoorPart42
import Derived.Test.YtbfdamnfcmefmaaGreatDoorPart43
namespace Go.Proofs.YtbfdamnfcmefmaaGreatDoor
open Go Go.RowKit Go.Proofs.Tryz
open Go.Value renaming slice→qz,bool→qa
set_option linter.unusedVariables false
set_option linter.unusedSimpArgs false
section
open Go Go.RowKit Go.ChangeShapes Go.WideShapes Go.ChangeAt
theorem LG (os:Os) (args:Array Value):laidMetH Tryz.prog Rows.flipsSinkRow.laid ((World.doorLaid Tryz.prog 24 os).forCall (λ_ _=>0) ⟨#[],args,[]⟩).memory :=
  laidMetH_of_parts3 (fuel:=8) (laidMet_of_run' 8 jV jV) jV jV
theorem Mf {W:World} (h:laidMetH Tryz.prog Rows.flipsSinkRow.laid W):SI W:=by
  rw [MakeChecks.laidMetH_plain _ _ _ jV] at h
  exact Lib.tabIs_of_head (g := 1) (t := 336) (e := 60) (n := 20) (by kernel_rfl) (by kernel_rfl) Tryz.underlying336 Tryz.underlying60 (by kernel_rfl) (by kernel_rfl) (show laidMet Tryz.prog [("internal/strconv.uint64pow10", Lib.tabData .u64 Lib.pow10Tab)] W from h.tail.tail)
theorem EQ:Tryz.f4.params=#[26,50]:=by kernel_rfl
set_option maxRecDepth 100000 in
theorem JB (os:Os) (started:os.Started) (H:Type) (enc:TypeId×Value->H) :
    ReturnsInHanded {} Tryz.checked os 4 .any (λw args=>(Rows.flipsSinkSpec.pre enc Tryz.prog Tryz.f4 [] false w args/\laidMetH Tryz.prog Rows.flipsSinkRow.laid w)/\sizedMet enc Tryz.prog Tryz.f4 (OpenSpec.ofChange Rows.flipsSinkSpec) false w args)
      (Rows.flipsSinkSpec.post enc Tryz.prog Tryz.f4 false true false false):=by
  refine returnsInHanded_of_change_and (C:=Tryz.checked) (X:=λw _=>laidMetH Tryz.prog Rows.flipsSinkRow.laid w) (λ_ _ _ hh h=>h.of_heap hh) V6 started jV Tryz.func4
    (ChangeSpec.witness_shaped (enc:=enc) (C:=Tryz.checked) (os:=os) (X:=λw _=>laidMetH Tryz.prog Rows.flipsSinkRow.laid w) false (World.doorLaid Tryz.prog 24 os) #[.agg #[.int .u8 0,.int .u8 0,.slice none 0 0,.int .i8 0,.int .i8 0,.int .i8 0,.int .i8 0,.int .u8 0,.int .u8 0],.int .u16 0] 8 rfl (World.shaped_of_RefB jV jV) jV jV jV (LG os _)) ?_
  intro W base args ds gs CO hval0 hW _ _ hL _
  have hval:∀(j:Nat) t v,Tryz.f4.params[j]?=some t->args[j]?=some v->Value.okWide Tryz.prog W .any base t v:=hval0
  have hW':=hW
  obtain ⟨p,q,hA0,hV,hbe,hfz,hnd⟩:=hW
  have hA:DataW.TrodAll enc Tryz.prog W 0 (λ_=>true) true Tryz.f4.params.toList args.toList ds p:=hA0
  rw [EQ] at hA hval
  obtain ⟨v0,v1,d0,d1,p0,p1,rfl,rfl,rfl,h0,h1⟩:=trodAll_two hA
  obtain ⟨rfl,rfl⟩:=trodVars_none hV
  clear hA0 hval0
  obtain ⟨m0,rfl,hm0⟩:=bS (P:=Tryz.prog) (ts:=22) (e:=5) (a0:=5) (a1:=5) (a2:=23) (a3:=23) (a4:=23) (a5:=23) (a6:=5) (a7:=5) Tryz.underlying26 ⟨_,rfl,rfl,rfl⟩ Tryz.underlying22 jV jV jV jV jV jV (hval 0 26 _ rfl rfl) h0
  obtain ⟨n1,rfl,k1⟩:=XU (P:=Tryz.prog) jV (hval 1 50 _ rfl rfl)
  refine (NS m0 n1 k1 W hm0 (Mf hL)).mono λe W' ⟨he,hb⟩=>?_
  subst he
  exact ⟨_,rfl,VU hW' O O jV Tryz.underlying4 hb.toBelow YF (by rw [EQ];exact λt ht=>(by have h9:=List.all_eq_true.1 (show ([26,50].all λt=>Tryz.prog.readableRec t&&decide (t<Tryz.prog.types.size))=true by kernel_rfl) t (by simpa using ht);rw [yz,xW] at h9;exact h9))⟩
theorem J2:joinedFacts Tryz.pinned.checked.prog 4 Tryz.f4 Rows.flipsSinkSpec Rows.flipsSinkRow=true:=by kernel_rfl
theorem J3:Rows.FlipsSinkSaid :=
  OpenClaim.holds_of_wide 4 Tryz.f4 rfl rfl rfl rfl rfl rfl rfl ⟨rfl,rfl,rfl,rfl,rfl⟩ rfl rfl rfl rfl rfl jV Tryz.func4 J2
    (xU jV) (by unfold Func.isWrapper;first|(rw [if_pos (by decide +kernel)];kernel_rfl)|(rw [if_neg (by decide +kernel)];exact ⟨rfl,rfl⟩))
    (λos started H enc _=>JB os started H enc)
theorem flipsSink_card_holds:Rows.FlipsSinkCardSaid :=
  Claim7.holds_tied_plain_at .later [] [.data,.data,.data] true Rows.flipsSinkCard.stood.harness false
    J3 (λ_ h=>by cases h) jV (λ_ h=>by cases h) flipsSink_row_tie rfl ⟨rfl,rfl⟩ jV rfl
    (λf fn hf hfn=>by
      obtain rfl:f=4:=Option.some.inj ((show Tryz.prog.funcNamed Rows.flipsSinkRow.func=some 4 by kernel_rfl).symm.trans hf) |>.symm
      obtain rfl:fn=Tryz.f4:=(Option.some.inj (Tryz.func4.symm.trans hfn)).symm
      exact ⟨by kernel_rfl,λj t ht=>by
        rw [EQ] at ht
        have hm:t∈[26,50]:=by simpa using Array.mem_of_getElem? ht
        have hall:([26,50].all λu=>!Tryz.prog.wantsStandIn u)=true:=by kernel_rfl
        exact (show Tryz.prog.wantsStandIn t=false by simpa using List.all_eq_true.1 hall t hm)⟩)
    jV
#print axioms flipsSink_card_holds
end
end Go.Proofs.YtbfdamnfcmefmaaGreatDoor
