import Derived.MakeChecks
import Derived.Stop.LaidErr
import Derived.Lib.LaidTab
import Derived.Test.YtpolhpjiahbidaaGreatDoorPart28
namespace Go.Proofs.YtpolhpjiahbidaaGreatDoor
open Go Go.RowKit Go.Proofs.Tryz
open Go.Value renaming slice→qz,bool→qa
set_option linter.unusedVariables false
set_option linter.unusedSimpArgs false
section
open Go Go.RowKit Go.ChangeShapes Go.WideShapes Go.ChangeAt
theorem I3 (os:Os) (args:Array Value):laidMetH Tryz.prog Rows.flipsTurnedRow.laid ((World.doorLaid Tryz.prog 24 os).forCall (λ_ _=>0) ⟨#[],args,[]⟩).memory :=
  laidMetH_of_parts3 (fuel:=8) (laidMet_of_run' 8 jV jV) jV jV
theorem Jx {W:World} (h:laidMetH Tryz.prog Rows.flipsTurnedRow.laid W):Rm W:=by
  rw [MakeChecks.laidMetH_plain _ _ _ jV] at h
  exact Lib.tabIs_of_head (g := 1) (t := 356) (e := 69) (n := 20) (by kernel_rfl) (by kernel_rfl) Tryz.underlying356 Tryz.underlying69 (by kernel_rfl) (by kernel_rfl) (show laidMet Tryz.prog [("internal/strconv.uint64pow10", Lib.tabData .u64 Lib.pow10Tab)] W from h.tail.tail)
theorem D0:Tryz.f7.params=#[90,91,96]:=by kernel_rfl
set_option maxRecDepth 100000 in
theorem Hy (os:Os) (started:os.Started) (H:Type) (enc:TypeId×Value->H) :
    ReturnsInHanded {} Tryz.checked os 7 .any (λw args=>(Rows.flipsTurnedSpec.pre enc Tryz.prog Tryz.f7 [] false w args/\laidMetH Tryz.prog Rows.flipsTurnedRow.laid w)/\sizedMet enc Tryz.prog Tryz.f7 (OpenSpec.ofChange Rows.flipsTurnedSpec) false w args)
      (Rows.flipsTurnedSpec.post enc Tryz.prog Tryz.f7 false true false false):=by
  refine returnsInHanded_of_change_and (C:=Tryz.checked) (X:=λw _=>laidMetH Tryz.prog Rows.flipsTurnedRow.laid w) (λ_ _ _ hh h=>h.of_heap hh) Vb started jV Tryz.func7
    (ChangeSpec.witness_shaped (enc:=enc) (C:=Tryz.checked) (os:=os) (X:=λw _=>laidMetH Tryz.prog Rows.flipsTurnedRow.laid w) false (World.doorLaid Tryz.prog 24 os) #[.agg #[.int .u8 0,.int .u8 0,.slice none 0 0,.int .i8 0,.int .i8 0,.int .i8 0,.int .i8 0,.int .u8 0,.int .u8 0],.int .u16 0,.agg #[.int .i64 0,.int .u32 0,.int .i64 0,.int .u32 0]] 8 rfl (World.shaped_of_RefB jV jV) jV jV jV (I3 os _)) ?_
  intro W base args ds gs Bv hval0 hW _ _ hL _
  have hval:∀(j:Nat) t v,Tryz.f7.params[j]?=some t->args[j]?=some v->Value.okWide Tryz.prog W .any base t v:=hval0
  have hW':=hW
  obtain ⟨p,q,hA0,hV,hbe,hfz,hnd⟩:=hW
  have hA:DataW.TrodAll enc Tryz.prog W 0 (λ_=>true) true Tryz.f7.params.toList args.toList ds p:=hA0
  rw [D0] at hA hval
  obtain ⟨v0,v1,v2,d0,d1,d2,p0,p1,p2,rfl,rfl,rfl,h0,h1,h2⟩:=trodAll_three hA
  obtain ⟨rfl,rfl⟩:=trodVars_none hV
  clear hA0 hval0
  obtain ⟨m0,rfl,hm0⟩:=aj (P:=Tryz.prog) (ts:=86) (e:=5) (a0:=5) (a1:=5) (a2:=87) (a3:=87) (a4:=87) (a5:=87) (a6:=5) (a7:=5) Tryz.underlying90 ⟨_,rfl,rfl,rfl⟩ Tryz.underlying86 jV jV jV jV jV jV (hval 0 90 _ rfl rfl) h0
  obtain ⟨n1,rfl,k1⟩:=W6 (P:=Tryz.prog) jV (hval 1 91 _ rfl rfl)
  obtain ⟨p20,kp20,rfl⟩:=ZM (ts:=[2,92,2,92]) rfl jV jV jV (hval 2 96 _ rfl rfl)
  refine (KS m0 n1 p20 k1 kp20 W hm0 (Jx hL)).mono λe W' ⟨he,hb⟩=>?_
  subst he
  exact ⟨_,rfl,U0 hW' O O jV Tryz.underlying4 hb.toBelow Xt (by rw [D0];exact λt ht=>(by have h9:=List.all_eq_true.1 (show ([90,91,96].all λt=>Tryz.prog.readableRec t&&decide (t<Tryz.prog.types.size))=true by kernel_rfl) t (by simpa using ht);rw [yz,xV] at h9;exact h9))⟩
theorem IT:Rows.FlipsTurnedSaid :=
  OpenClaim.holds_of_wide 7 Tryz.f7 rfl rfl rfl rfl rfl rfl rfl ⟨rfl,rfl,rfl,rfl,rfl⟩ rfl rfl rfl rfl rfl jV Tryz.func7 jV
    (xT jV) (by unfold Func.isWrapper;first|(rw [if_pos (by decide +kernel)];kernel_rfl)|(rw [if_neg (by decide +kernel)];exact ⟨rfl,rfl⟩))
    (λos started H enc _=>Hy os started H enc)
theorem flipsTurned_card_holds:Rows.FlipsTurnedCardSaid :=
  Claim7.holds_tied_plain_at .later [] [.data,.data,.data] true Rows.flipsTurnedCard.stood.harness false
    IT (λ_ h=>by cases h) jV (λ_ h=>by cases h) flipsTurned_row_tie rfl ⟨rfl,rfl⟩ jV rfl
    (λf fn hf hfn=>by
      obtain rfl:f=7:=Option.some.inj ((show Tryz.prog.funcNamed Rows.flipsTurnedRow.func=some 7 by kernel_rfl).symm.trans hf) |>.symm
      obtain rfl:fn=Tryz.f7:=(Option.some.inj (Tryz.func7.symm.trans hfn)).symm
      exact ⟨by kernel_rfl,λj t ht=>by
        rw [D0] at ht
        have hm:t∈[90,91,96]:=by simpa using Array.mem_of_getElem? ht
        have hall:([90,91,96].all λu=>!Tryz.prog.wantsStandIn u)=true:=by kernel_rfl
        exact (show Tryz.prog.wantsStandIn t=false by simpa using List.all_eq_true.1 hall t hm)⟩)
    jV
#print axioms flipsTurned_card_holds
end
end Go.Proofs.YtpolhpjiahbidaaGreatDoor
