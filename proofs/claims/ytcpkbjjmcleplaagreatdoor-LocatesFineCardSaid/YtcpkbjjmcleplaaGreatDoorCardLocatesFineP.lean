import Derived.MakeChecks
import Derived.Stop.LaidErr
import Derived.Lib.LaidTab
import Derived.Test.YtcpkbjjmcleplaaGreatDoorPart48
import Derived.Test.YtcpkbjjmcleplaaGreatDoorPart49
namespace Go.Proofs.YtcpkbjjmcleplaaGreatDoor
open Go Go.RowKit Go.Proofs.Tryz
open Go.Value renaming slice→qz,bool→qa
set_option linter.unusedVariables false
set_option linter.unusedSimpArgs false
section
open Go Go.RowKit Go.ChangeShapes Go.WideShapes Go.ChangeAt
theorem Js (os:Os) (args:Array Value):laidMetH Tryz.prog Rows.locatesFineRow.laid ((World.doorLaid Tryz.prog 24 os).forCall (λ_ _=>0) ⟨#[],args,[]⟩).memory :=
  laidMetH_of_parts3 (fuel:=8) (laidMet_of_run' 8 jV jV) jV jV
theorem Kn {W:World} (h:laidMetH Tryz.prog Rows.locatesFineRow.laid W):PK W:=by
  rw [MakeChecks.laidMetH_plain _ _ _ jV] at h
  exact Lib.tabIs_of_head (g := 1) (t := 280) (e := 52) (n := 20) (by kernel_rfl) (by kernel_rfl) Tryz.underlying280 Tryz.underlying52 (by kernel_rfl) (by kernel_rfl) (show laidMet Tryz.prog [("internal/strconv.uint64pow10", Lib.tabData .u64 Lib.pow10Tab)] W from h.tail.tail)
theorem Ee:Tryz.f4.params=#[49,32]:=by kernel_rfl
set_option maxRecDepth 100000 in
theorem Ii (os:Os) (started:os.Started) (H:Type) (enc:TypeId×Value->H) :
    ReturnsInHanded {} Tryz.checked os 4 .any (λw args=>(Rows.locatesFineSpec.pre enc Tryz.prog Tryz.f4 [] false w args/\laidMetH Tryz.prog Rows.locatesFineRow.laid w)/\sizedMet enc Tryz.prog Tryz.f4 (OpenSpec.ofChange Rows.locatesFineSpec) false w args)
      (Rows.locatesFineSpec.post enc Tryz.prog Tryz.f4 false true false false):=by
  refine returnsInHanded_of_change_and (C:=Tryz.checked) (X:=λw _=>laidMetH Tryz.prog Rows.locatesFineRow.laid w) (λ_ _ _ hh h=>h.of_heap hh) XC started jV Tryz.func4
    (ChangeSpec.witness_shaped (enc:=enc) (C:=Tryz.checked) (os:=os) (X:=λw _=>laidMetH Tryz.prog Rows.locatesFineRow.laid w) false (World.doorLaid Tryz.prog 24 os) #[.agg #[.int .u8 0,.int .u8 0,.slice none 0 0,.int .i8 0,.int .i8 0,.int .i8 0,.int .i8 0,.int .u8 0,.int .u8 0],.agg #[.int .i64 0,.int .u32 0,.int .i64 0,.int .u32 0,.int .i64 0,.int .u32 0,.int .i64 0,.int .u32 0,.int .i64 0,.int .u32 0,.int .i64 0,.int .u32 0]] 8 rfl (World.shaped_of_RefB jV jV) jV jV jV (Js os _)) ?_
  intro W base args ds gs Cn hval0 hW _ _ hL _
  have hval:∀(j:Nat) t v,Tryz.f4.params[j]?=some t->args[j]?=some v->Value.okWide Tryz.prog W .any base t v:=hval0
  have hW':=hW
  obtain ⟨p,q,hA0,hV,hbe,hfz,hnd⟩:=hW
  have hA:DataW.TrodAll enc Tryz.prog W 0 (λ_=>true) true Tryz.f4.params.toList args.toList ds p:=hA0
  rw [Ee] at hA hval
  obtain ⟨v0,v1,d0,d1,p0,p1,rfl,rfl,rfl,h0,h1⟩:=trodAll_two hA
  obtain ⟨rfl,rfl⟩:=trodVars_none hV
  clear hA0 hval0
  obtain ⟨m0,rfl,hm0⟩:=eA (P:=Tryz.prog) (ts:=45) (e:=5) (a0:=5) (a1:=5) (a2:=46) (a3:=46) (a4:=46) (a5:=46) (a6:=5) (a7:=5) Tryz.underlying49 ⟨_,rfl,rfl,rfl⟩ Tryz.underlying45 jV jV jV jV jV jV (hval 0 49 _ rfl rfl) h0
  obtain ⟨p10,p11,p12,kp10,kp11,kp12,rfl⟩:=bm (ts:=[2,27,2,27,2,27,2,27,2,27,2,27]) rfl jV jV jV (hval 1 32 _ rfl rfl)
  refine (LL m0 p10 p11 p12 kp10 kp11 kp12 W hm0 (Kn hL)).mono λe W' ⟨he,hb⟩=>?_
  subst he
  exact ⟨_,rfl,Wi hW' O O jV Tryz.underlying4 hb Zb (by rw [Ee];exact λt ht=>(by have h9:=List.all_eq_true.1 (show ([49,32].all λt=>Tryz.prog.readableRec t&&decide (t<Tryz.prog.types.size))=true by kernel_rfl) t (by simpa using ht);rw [xZ,xT] at h9;exact h9))⟩
theorem I9:joinedFacts Tryz.pinned.checked.prog 4 Tryz.f4 Rows.locatesFineSpec Rows.locatesFineRow=true:=by kernel_rfl
theorem I_:Rows.LocatesFineSaid :=
  OpenClaim.holds_of_wide 4 Tryz.f4 rfl rfl rfl rfl rfl rfl rfl ⟨rfl,rfl,rfl,rfl,rfl⟩ rfl rfl rfl rfl rfl jV Tryz.func4 I9
    (xR jV) (by unfold Func.isWrapper;first|(rw [if_pos (by decide +kernel)];kernel_rfl)|(rw [if_neg (by decide +kernel)];exact ⟨rfl,rfl⟩))
    (λos started H enc _=>Ii os started H enc)
theorem locatesFine_card_holds:Rows.LocatesFineCardSaid :=
  Claim7.holds_tied_plain_at .later [] [.data,.data,.data] true Rows.locatesFineCard.stood.harness false
    I_ (λ_ h=>by cases h) jV (λ_ h=>by cases h) locatesFine_row_tie rfl ⟨rfl,rfl⟩ jV rfl
    (λf fn hf hfn=>by
      obtain rfl:f=4:=Option.some.inj ((show Tryz.prog.funcNamed Rows.locatesFineRow.func=some 4 by kernel_rfl).symm.trans hf) |>.symm
      obtain rfl:fn=Tryz.f4:=(Option.some.inj (Tryz.func4.symm.trans hfn)).symm
      exact ⟨by kernel_rfl,λj t ht=>by
        rw [Ee] at ht
        have hm:t∈[49,32]:=by simpa using Array.mem_of_getElem? ht
        have hall:([49,32].all λu=>!Tryz.prog.wantsStandIn u)=true:=by kernel_rfl
        exact (show Tryz.prog.wantsStandIn t=false by simpa using List.all_eq_true.1 hall t hm)⟩)
    jV
#print axioms locatesFine_card_holds
end
end Go.Proofs.YtcpkbjjmcleplaaGreatDoor
