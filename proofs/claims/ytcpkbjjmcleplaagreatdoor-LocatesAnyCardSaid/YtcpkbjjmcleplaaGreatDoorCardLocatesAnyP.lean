import Derived.MakeChecks
import Derived.Stop.LaidErr
import Derived.Lib.LaidTab
import Derived.Test.YtcpkbjjmcleplaaGreatDoorPart46
namespace Go.Proofs.YtcpkbjjmcleplaaGreatDoor
open Go Go.RowKit Go.Proofs.Tryz
open Go.Value renaming slice→qz,bool→qa
set_option linter.unusedVariables false
set_option linter.unusedSimpArgs false
section
open Go Go.RowKit Go.ChangeShapes Go.WideShapes Go.ChangeAt
theorem J8 (os:Os) (args:Array Value):laidMetH Tryz.prog Rows.locatesAnyRow.laid ((World.doorLaid Tryz.prog 24 os).forCall (λ_ _=>0) ⟨#[],args,[]⟩).memory :=
  laidMetH_of_parts3 (fuel:=8) (laidMet_of_run' 8 jV jV) jV jV
theorem Lk {W:World} (h:laidMetH Tryz.prog Rows.locatesAnyRow.laid W):ON W:=by
  rw [MakeChecks.laidMetH_plain _ _ _ jV] at h
  exact Lib.tabIs_of_head (g := 1) (t := 280) (e := 52) (n := 20) (by kernel_rfl) (by kernel_rfl) Tryz.underlying280 Tryz.underlying52 (by kernel_rfl) (by kernel_rfl) (show laidMet Tryz.prog [("internal/strconv.uint64pow10", Lib.tabData .u64 Lib.pow10Tab)] W from h.tail.tail)
theorem ER:Tryz.f3.params=#[26,32]:=by kernel_rfl
set_option maxRecDepth 100000 in
theorem Id (os:Os) (started:os.Started) (H:Type) (enc:TypeId×Value->H) :
    ReturnsInHanded {} Tryz.checked os 3 .any (λw args=>(Rows.locatesAnySpec.pre enc Tryz.prog Tryz.f3 [] false w args/\laidMetH Tryz.prog Rows.locatesAnyRow.laid w)/\sizedMet enc Tryz.prog Tryz.f3 (OpenSpec.ofChange Rows.locatesAnySpec) false w args)
      (Rows.locatesAnySpec.post enc Tryz.prog Tryz.f3 false true false false):=by
  refine returnsInHanded_of_change_and (C:=Tryz.checked) (X:=λw _=>laidMetH Tryz.prog Rows.locatesAnyRow.laid w) (λ_ _ _ hh h=>h.of_heap hh) Vv started jV Tryz.func3
    (ChangeSpec.witness_shaped (enc:=enc) (C:=Tryz.checked) (os:=os) (X:=λw _=>laidMetH Tryz.prog Rows.locatesAnyRow.laid w) false (World.doorLaid Tryz.prog 24 os) #[.agg #[.slice none 0 0,.slice none 0 0,.slice none 0 0],.agg #[.int .i64 0,.int .u32 0,.int .i64 0,.int .u32 0,.int .i64 0,.int .u32 0,.int .i64 0,.int .u32 0,.int .i64 0,.int .u32 0,.int .i64 0,.int .u32 0]] 8 rfl (World.shaped_of_RefB jV jV) jV jV jV (J8 os _)) ?_
  intro W base args ds gs CV hval0 hW _ _ hL _
  have hval:∀(j:Nat) t v,Tryz.f3.params[j]?=some t->args[j]?=some v->Value.okWide Tryz.prog W .any base t v:=hval0
  have hW':=hW
  obtain ⟨p,q,hA0,hV,hbe,hfz,hnd⟩:=hW
  have hA:DataW.TrodAll enc Tryz.prog W 0 (λ_=>true) true Tryz.f3.params.toList args.toList ds p:=hA0
  rw [ER] at hA hval
  obtain ⟨v0,v1,d0,d1,p0,p1,rfl,rfl,rfl,h0,h1⟩:=trodAll_two hA
  obtain ⟨rfl,rfl⟩:=trodVars_none hV
  clear hA0 hval0
  obtain ⟨m0,rfl,hm0⟩:=ba (P:=Tryz.prog) (t0:=22) (t1:=23) (t2:=24) (p:=31) (q:=29) (i64:=2) (u32:=27) (a3:=64) (sd:=96) (it:=3) Tryz.underlying26 ⟨_,rfl,rfl,rfl⟩ ⟨_,rfl,rfl,rfl⟩ ⟨_,rfl,rfl,rfl⟩ Tryz.underlying22 Tryz.underlying23 Tryz.underlying24 jV jV jV Tryz.underlying31 ⟨_,rfl,rfl,rfl⟩ ⟨_,rfl,rfl,rfl⟩ Tryz.underlying29 ⟨_,rfl,rfl,rfl⟩ ⟨_,rfl,rfl,rfl⟩ jV jV jV jV jV jV Tryz.underlying64 jV jV jV Tryz.underlying96 ⟨_,rfl,rfl,rfl⟩ ⟨_,rfl,rfl,rfl⟩ ⟨_,rfl,rfl,rfl⟩ jV jV jV (hval 0 26 _ rfl rfl) h0
  obtain ⟨p10,p11,p12,kp10,kp11,kp12,rfl⟩:=Zu (ts:=[2,27,2,27,2,27,2,27,2,27,2,27]) rfl jV jV jV (hval 1 32 _ rfl rfl)
  refine (MC m0 p10 p11 p12 kp10 kp11 kp12 W hm0 (Lk hL)).mono λe W' ⟨he,hb⟩=>?_
  subst he
  exact ⟨_,rfl,VW hW' O O jV Tryz.underlying4 hb YA (by rw [ER];exact λt ht=>(by have h9:=List.all_eq_true.1 (show ([26,32].all λt=>Tryz.prog.readableRec t&&decide (t<Tryz.prog.types.size))=true by kernel_rfl) t (by simpa using ht);rw [xZ,xT] at h9;exact h9))⟩
theorem JK:joinedFacts Tryz.pinned.checked.prog 3 Tryz.f3 Rows.locatesAnySpec Rows.locatesAnyRow=true:=by kernel_rfl
theorem JL:Rows.LocatesAnySaid :=
  OpenClaim.holds_of_wide 3 Tryz.f3 rfl rfl rfl rfl rfl rfl rfl ⟨rfl,rfl,rfl,rfl,rfl⟩ rfl rfl rfl rfl rfl jV Tryz.func3 JK
    (xR jV) (by unfold Func.isWrapper;first|(rw [if_pos (by decide +kernel)];kernel_rfl)|(rw [if_neg (by decide +kernel)];exact ⟨rfl,rfl⟩))
    (λos started H enc _=>Id os started H enc)
theorem locatesAny_card_holds:Rows.LocatesAnyCardSaid :=
  Claim7.holds_tied_plain_at .later [] [.data,.data,.data] true Rows.locatesAnyCard.stood.harness false
    JL (λ_ h=>by cases h) jV (λ_ h=>by cases h) locatesAny_row_tie rfl ⟨rfl,rfl⟩ jV rfl
    (λf fn hf hfn=>by
      obtain rfl:f=3:=Option.some.inj ((show Tryz.prog.funcNamed Rows.locatesAnyRow.func=some 3 by kernel_rfl).symm.trans hf) |>.symm
      obtain rfl:fn=Tryz.f3:=(Option.some.inj (Tryz.func3.symm.trans hfn)).symm
      exact ⟨by kernel_rfl,λj t ht=>by
        rw [ER] at ht
        have hm:t∈[26,32]:=by simpa using Array.mem_of_getElem? ht
        have hall:([26,32].all λu=>!Tryz.prog.wantsStandIn u)=true:=by kernel_rfl
        exact (show Tryz.prog.wantsStandIn t=false by simpa using List.all_eq_true.1 hall t hm)⟩)
    jV
#print axioms locatesAny_card_holds
end
end Go.Proofs.YtcpkbjjmcleplaaGreatDoor
