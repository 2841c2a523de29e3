import Derived.MakeChecks
import Derived.Stop.LaidErr
import Derived.Lib.LaidTab
import Derived.Test.YtpolhpjiahbidaaGreatDoorPrt31
namespace Go.Proofs.YtpolhpjiahbidaaGreatDoor
open Go Go.RowKit Go.Proofs.Tryz
open Go.Value renaming slice→qz,bool→qa
set_option linter.unusedVariables false
set_option linter.unusedSimpArgs false
section
open Go Go.RowKit Go.ChangeShapes Go.WideShapes Go.ChangeAt
theorem MS (os:Os) (args:Array Value):laidMetH Tryz.prog Rows.flipsAnyRow.laid ((World.doorLaid Tryz.prog 24 os).forCall (λ_ _=>0) ⟨#[],args,[]⟩).memory :=
  laidMetH_of_parts3 (fuel:=8) (laidMet_of_run' 8 jV jV) jV jV
theorem OK {W:World} (h:laidMetH Tryz.prog Rows.flipsAnyRow.laid W):Kh W:=by
  rw [MakeChecks.laidMetH_plain _ _ _ jV] at h
  exact Lib.tabIs_of_head (g := 1) (t := 356) (e := 69) (n := 20) (by kernel_rfl) (by kernel_rfl) Tryz.underlying356 Tryz.underlying69 (by kernel_rfl) (by kernel_rfl) (show laidMet Tryz.prog [("internal/strconv.uint64pow10", Lib.tabData .u64 Lib.pow10Tab)] W from h.tail.tail)
theorem E7:Tryz.f6.params=#[26,3,3]:=by kernel_rfl
set_option maxRecDepth 100000 in
theorem Jz (os:Os) (started:os.Started) (H:Type) (enc:TypeId×Value->H) :
    ReturnsInHanded {} Tryz.checked os 6 .any (λw args=>(Rows.flipsAnySpec.pre enc Tryz.prog Tryz.f6 [] false w args/\laidMetH Tryz.prog Rows.flipsAnyRow.laid w)/\sizedMet enc Tryz.prog Tryz.f6 (OpenSpec.ofChange Rows.flipsAnySpec) false w args)
      (Rows.flipsAnySpec.post enc Tryz.prog Tryz.f6 false true false false):=by
  refine returnsInHanded_of_change_and (C:=Tryz.checked) (X:=λw _=>laidMetH Tryz.prog Rows.flipsAnyRow.laid w) (λ_ _ _ hh h=>h.of_heap hh) Wz started jV Tryz.func6
    (ChangeSpec.witness_shaped (enc:=enc) (C:=Tryz.checked) (os:=os) (X:=λw _=>laidMetH Tryz.prog Rows.flipsAnyRow.laid w) false (World.doorLaid Tryz.prog 24 os) #[.agg #[.slice none 0 0,.slice none 0 0,.slice none 0 0],.int .i64 0,.int .i64 0] 8 rfl (World.shaped_of_RefB jV jV) jV jV jV (MS os _)) ?_
  intro W base args ds gs CS hval0 hW _ _ hL _
  have hval:∀(j:Nat) t v,Tryz.f6.params[j]?=some t->args[j]?=some v->Value.okWide Tryz.prog W .any base t v:=hval0
  have hW':=hW
  obtain ⟨p,q,hA0,hV,hbe,hfz,hnd⟩:=hW
  have hA:DataW.TrodAll enc Tryz.prog W 0 (λ_=>true) true Tryz.f6.params.toList args.toList ds p:=hA0
  rw [E7] at hA hval
  obtain ⟨v0,v1,v2,d0,d1,d2,p0,p1,p2,rfl,rfl,rfl,h0,h1,h2⟩:=trodAll_three hA
  obtain ⟨rfl,rfl⟩:=trodVars_none hV
  clear hA0 hval0
  obtain ⟨m0,rfl,hm0⟩:=dS (P:=Tryz.prog) (t0:=22) (t1:=23) (t2:=24) (p:=96) (q:=94) (i64:=2) (u32:=92) (a3:=105) (sd:=110) (it:=3) Tryz.underlying26 ⟨_,rfl,rfl,rfl⟩ ⟨_,rfl,rfl,rfl⟩ ⟨_,rfl,rfl,rfl⟩ Tryz.underlying22 Tryz.underlying23 Tryz.underlying24 jV jV jV Tryz.underlying96 ⟨_,rfl,rfl,rfl⟩ ⟨_,rfl,rfl,rfl⟩ Tryz.underlying94 ⟨_,rfl,rfl,rfl⟩ ⟨_,rfl,rfl,rfl⟩ jV jV jV jV jV jV Tryz.underlying105 jV jV jV Tryz.underlying110 ⟨_,rfl,rfl,rfl⟩ ⟨_,rfl,rfl,rfl⟩ ⟨_,rfl,rfl,rfl⟩ jV jV jV (hval 0 26 _ rfl rfl) h0
  obtain ⟨n1,rfl⟩:=R3 (P:=Tryz.prog) jV (hval 1 3 _ rfl rfl)
  obtain ⟨n2,rfl⟩:=R3 (P:=Tryz.prog) jV (hval 2 3 _ rfl rfl)
  refine (Ob m0 n1 n2 W hm0 (OK hL)).mono λe W' ⟨he,hb⟩=>?_
  subst he
  exact ⟨_,rfl,WQ hW' O O jV Tryz.underlying4 hb Y6 (by rw [E7];exact λt ht=>(by have h9:=List.all_eq_true.1 (show ([26,3,3].all λt=>Tryz.prog.readableRec t&&decide (t<Tryz.prog.types.size))=true by kernel_rfl) t (by simpa using ht);rw [xZ,xT] at h9;exact h9))⟩
theorem LC:joinedFacts Tryz.pinned.checked.prog 6 Tryz.f6 Rows.flipsAnySpec Rows.flipsAnyRow=true:=by kernel_rfl
theorem LD:Rows.FlipsAnySaid :=
  OpenClaim.holds_of_wide 6 Tryz.f6 rfl rfl rfl rfl rfl rfl rfl ⟨rfl,rfl,rfl,rfl,rfl⟩ rfl rfl rfl rfl rfl jV Tryz.func6 LC
    (xR jV) (by unfold Func.isWrapper;first|(rw [if_pos (by decide +kernel)];kernel_rfl)|(rw [if_neg (by decide +kernel)];exact ⟨rfl,rfl⟩))
    (λos started H enc _=>Jz os started H enc)
theorem flipsAny_card_holds:Rows.FlipsAnyCardSaid :=
  Claim7.holds_tied_plain_at .later [] [.data,.data,.data] true Rows.flipsAnyCard.stood.harness false
    LD (λ_ h=>by cases h) jV (λ_ h=>by cases h) flipsAny_row_tie rfl ⟨rfl,rfl⟩ jV rfl
    (λf fn hf hfn=>by
      obtain rfl:f=6:=Option.some.inj ((show Tryz.prog.funcNamed Rows.flipsAnyRow.func=some 6 by kernel_rfl).symm.trans hf) |>.symm
      obtain rfl:fn=Tryz.f6:=(Option.some.inj (Tryz.func6.symm.trans hfn)).symm
      exact ⟨by kernel_rfl,λj t ht=>by
        rw [E7] at ht
        have hm:t∈[26,3,3]:=by simpa using Array.mem_of_getElem? ht
        have hall:([26,3,3].all λu=>!Tryz.prog.wantsStandIn u)=true:=by kernel_rfl
        exact (show Tryz.prog.wantsStandIn t=false by simpa using List.all_eq_true.1 hall t hm)⟩)
    jV
#print axioms flipsAny_card_holds
end
end Go.Proofs.YtpolhpjiahbidaaGreatDoor
