import Derived.MakeChecks
import Derived.Stop.LaidErr
import Derived.Lib.LaidTab
import Derived.Test.YtpgncndhhhllfaaGreatDoorPart44
import Derived.Test.YtpgncndhhhllfaaGreatDoorPart45
namespace Go.Proofs.YtpgncndhhhllfaaGreatDoor
open Go Go.RowKit Go.Proofs.Tryz
set_option linter.unusedVariables false
set_option linter.unusedSimpArgs false
section
open Go Go.RowKit Go.ChangeShapes Go.WideShapes Go.ChangeAt
theorem IC (os:Os) (args:Array Value):laidMetH Tryz.prog Rows.meshesCopyRow.laid ((World.doorLaid Tryz.prog 24 os).forCall (λ_ _=>0) ⟨#[],args,[]⟩).memory :=
  laidMetH_of_parts3 (fuel:=8) (laidMet_of_run' 8 (by kernel_rfl) (by kernel_rfl)) (by kernel_rfl) (by kernel_rfl)
theorem Iu {W:World} (h:laidMetH Tryz.prog Rows.meshesCopyRow.laid W):Mx W:=by
  rw [MakeChecks.laidMetH_plain _ _ _ (by kernel_rfl)] at h
  exact Lib.tabIs_of_head (g := 1) (t := 347) (e := 40) (n := 20) (by kernel_rfl) (by kernel_rfl) Tryz.underlying347 Tryz.underlying40 (by kernel_rfl) (by kernel_rfl) (show laidMet Tryz.prog [("internal/strconv.uint64pow10", Lib.tabData .u64 Lib.pow10Tab)] W from h.tail.tail)
theorem DT:Tryz.f3.params=#[26,26,5]:=by kernel_rfl
set_option maxRecDepth 100000 in
theorem HL (os:Os) (started:os.Started) (H:Type) (enc:TypeId×Value->H) :
    ReturnsInHanded {} Tryz.checked os 3 .any (λw args=>(Rows.meshesCopySpec.pre enc Tryz.prog Tryz.f3 [] false w args/\laidMetH Tryz.prog Rows.meshesCopyRow.laid w)/\sizedMet enc Tryz.prog Tryz.f3 (OpenSpec.ofChange Rows.meshesCopySpec) false w args)
      (Rows.meshesCopySpec.post enc Tryz.prog Tryz.f3 false true false false):=by
  refine returnsInHanded_of_change_and (C:=Tryz.checked) (X:=λw _=>laidMetH Tryz.prog Rows.meshesCopyRow.laid w) (λ_ _ _ hh h=>h.of_heap hh) Qq started (by kernel_rfl) Tryz.func3
    (ChangeSpec.witness_shaped (enc:=enc) (C:=Tryz.checked) (os:=os) (X:=λw _=>laidMetH Tryz.prog Rows.meshesCopyRow.laid w) false (World.doorLaid Tryz.prog 24 os) #[.agg #[.slice none 0 0,.slice none 0 0,.slice none 0 0],.agg #[.slice none 0 0,.slice none 0 0,.slice none 0 0],.int .u8 0] 8 rfl (World.shaped_of_RefB (by kernel_rfl) (by kernel_rfl)) (by kernel_rfl) (by kernel_rfl) (by kernel_rfl) (IC os _)) ?_
  intro W base args ds gs B5 hval0 hW _ _ hL _
  have hval:∀(j:Nat) t v,Tryz.f3.params[j]?=some t->args[j]?=some v->Value.okWide Tryz.prog W .any base t v:=hval0
  have hW':=hW
  obtain ⟨p,q,hA0,hV,hbe,hfz,hnd⟩:=hW
  have hA:DataW.TrodAll enc Tryz.prog W 0 (λ_=>true) true Tryz.f3.params.toList args.toList ds p:=hA0
  rw [DT] at hA hval
  obtain ⟨v0,v1,v2,d0,d1,d2,p0,p1,p2,rfl,rfl,rfl,h0,h1,h2⟩:=trodAll_three hA
  obtain ⟨rfl,rfl⟩:=trodVars_none hV
  clear hA0 hval0
  obtain ⟨m0,rfl,hm0⟩:=U0 (P:=Tryz.prog) (t0:=22) (t1:=23) (t2:=24) (p:=101) (q:=99) (i64:=2) (u32:=97) (a3:=53) (sd:=55) (it:=3) Tryz.underlying26 ⟨_,rfl,rfl,rfl⟩ ⟨_,rfl,rfl,rfl⟩ ⟨_,rfl,rfl,rfl⟩ Tryz.underlying22 Tryz.underlying23 Tryz.underlying24 (by kernel_rfl) (by kernel_rfl) (by kernel_rfl) Tryz.underlying101 ⟨_,rfl,rfl,rfl⟩ ⟨_,rfl,rfl,rfl⟩ Tryz.underlying99 ⟨_,rfl,rfl,rfl⟩ ⟨_,rfl,rfl,rfl⟩ (by kernel_rfl) (by kernel_rfl) (by kernel_rfl) (by kernel_rfl) (by kernel_rfl) (by kernel_rfl) Tryz.underlying53 (by kernel_rfl) (by kernel_rfl) (by kernel_rfl) Tryz.underlying55 ⟨_,rfl,rfl,rfl⟩ ⟨_,rfl,rfl,rfl⟩ ⟨_,rfl,rfl,rfl⟩ (by kernel_rfl) (by kernel_rfl) (by kernel_rfl) (hval 0 26 _ rfl rfl) h0
  obtain ⟨m1,rfl,hm1⟩:=U0 (P:=Tryz.prog) (t0:=22) (t1:=23) (t2:=24) (p:=101) (q:=99) (i64:=2) (u32:=97) (a3:=53) (sd:=55) (it:=3) Tryz.underlying26 ⟨_,rfl,rfl,rfl⟩ ⟨_,rfl,rfl,rfl⟩ ⟨_,rfl,rfl,rfl⟩ Tryz.underlying22 Tryz.underlying23 Tryz.underlying24 (by kernel_rfl) (by kernel_rfl) (by kernel_rfl) Tryz.underlying101 ⟨_,rfl,rfl,rfl⟩ ⟨_,rfl,rfl,rfl⟩ Tryz.underlying99 ⟨_,rfl,rfl,rfl⟩ ⟨_,rfl,rfl,rfl⟩ (by kernel_rfl) (by kernel_rfl) (by kernel_rfl) (by kernel_rfl) (by kernel_rfl) (by kernel_rfl) Tryz.underlying53 (by kernel_rfl) (by kernel_rfl) (by kernel_rfl) Tryz.underlying55 ⟨_,rfl,rfl,rfl⟩ ⟨_,rfl,rfl,rfl⟩ ⟨_,rfl,rfl,rfl⟩ (by kernel_rfl) (by kernel_rfl) (by kernel_rfl) (hval 1 26 _ rfl rfl) h1
  obtain ⟨n2,rfl,k2⟩:=WQ (P:=Tryz.prog) (by kernel_rfl) (hval 2 5 _ rfl rfl)
  refine (Jc m0 m1 n2 k2 W hm0 hm1 (Iu hL)).mono λe W' ⟨he,hb⟩=>?_
  subst he
  exact ⟨_,rfl,Qj hW' rfl rfl (by kernel_rfl) Tryz.underlying4 hb TF (by rw [DT];exact λt ht=>(by have h9:=List.all_eq_true.1 (show ([26,26,5].all λt=>Tryz.prog.readableRec t&&decide (t<Tryz.prog.types.size))=true by kernel_rfl) t (by simpa using ht);rw [Bool.and_eq_true,decide_eq_true_eq] at h9;exact h9))⟩
theorem HP:Rows.MeshesCopySaid :=
  OpenClaim.holds_of_wide 3 Tryz.f3 rfl rfl rfl rfl rfl rfl rfl ⟨rfl,rfl,rfl,rfl,rfl⟩ rfl rfl rfl rfl rfl (by kernel_rfl) Tryz.func3 (by kernel_rfl)
    (of_decide_eq_true (by kernel_rfl)) (by unfold Func.isWrapper;first|(rw [if_pos (by decide +kernel)];kernel_rfl)|(rw [if_neg (by decide +kernel)];exact ⟨rfl,rfl⟩))
    (λos started H enc _=>HL os started H enc)
theorem meshesCopy_card_holds:Rows.MeshesCopyCardSaid :=
  Claim7.holds_tied_plain_at .later [] [.data,.data,.data] true Rows.meshesCopyCard.stood.harness false
    HP (λ_ h=>by cases h) (by kernel_rfl) (λ_ h=>by cases h) meshesCopy_row_tie rfl ⟨rfl,rfl⟩ (by kernel_rfl) rfl
    (λf fn hf hfn=>by
      obtain rfl:f=3:=Option.some.inj ((show Tryz.prog.funcNamed Rows.meshesCopyRow.func=some 3 by kernel_rfl).symm.trans hf) |>.symm
      obtain rfl:fn=Tryz.f3:=(Option.some.inj (Tryz.func3.symm.trans hfn)).symm
      exact ⟨by kernel_rfl,λj t ht=>by
        rw [DT] at ht
        have hm:t∈[26,26,5]:=by simpa using Array.mem_of_getElem? ht
        have hall:([26,26,5].all λu=>!Tryz.prog.wantsStandIn u)=true:=by kernel_rfl
        exact (show Tryz.prog.wantsStandIn t=false by simpa using List.all_eq_true.1 hall t hm)⟩)
    (by kernel_rfl)
#print axioms meshesCopy_card_holds
end
end Go.Proofs.YtpgncndhhhllfaaGreatDoor
