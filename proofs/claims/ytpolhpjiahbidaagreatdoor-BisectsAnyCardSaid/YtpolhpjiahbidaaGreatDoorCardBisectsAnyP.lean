import Derived.MakeChecks
import Derived.Stop.LaidErr
import Derived.Lib.LaidTab
import Derived.Test.YtpolhpjiahbidaaGreatDoorPart33
namespace Go.Proofs.YtpolhpjiahbidaaGreatDoor
open Go Go.RowKit Go.Proofs.Tryz
open Go.Value renaming slice→qw,bool→qa
set_option linter.unusedVariables false
set_option linter.unusedSimpArgs false
section
open Go Go.RowKit Go.ChangeShapes Go.WideShapes Go.ChangeAt
theorem KF (os:Os) (args:Array Value):laidMetH Tryz.prog Rows.bisectsAnyRow.laid ((World.doorLaid Tryz.prog 24 os).forCall (λ_ _=>0) ⟨#[],args,[]⟩).memory :=
  laidMetH_of_parts3 (fuel:=8) (laidMet_of_run' 8 jV jV) jV jV
theorem Lw {W:World} (h:laidMetH Tryz.prog Rows.bisectsAnyRow.laid W):Qp W:=by
  rw [MakeChecks.laidMetH_plain _ _ _ jV] at h
  exact Lib.tabIs_of_head (g := 1) (t := 356) (e := 69) (n := 20) (by kernel_rfl) (by kernel_rfl) Tryz.underlying356 Tryz.underlying69 (by kernel_rfl) (by kernel_rfl) (show laidMet Tryz.prog [("internal/strconv.uint64pow10", Lib.tabData .u64 Lib.pow10Tab)] W from h.tail.tail)
theorem EU:Tryz.f5.params=#[26,32]:=by kernel_rfl
set_option maxRecDepth 100000 in
theorem Ic (os:Os) (started:os.Started) (H:Type) (enc:TypeId×Value->H) :
    ReturnsInHanded {} Tryz.checked os 5 .any (λw args=>(Rows.bisectsAnySpec.pre enc Tryz.prog Tryz.f5 [] false w args/\laidMetH Tryz.prog Rows.bisectsAnyRow.laid w)/\sizedMet enc Tryz.prog Tryz.f5 (OpenSpec.ofChange Rows.bisectsAnySpec) false w args)
      (Rows.bisectsAnySpec.post enc Tryz.prog Tryz.f5 false true false false):=by
  refine returnsInHanded_of_change_and (C:=Tryz.checked) (X:=λw _=>laidMetH Tryz.prog Rows.bisectsAnyRow.laid w) (λ_ _ _ hh h=>h.of_heap hh) Uh started jV Tryz.func5
    (ChangeSpec.witness_shaped (enc:=enc) (C:=Tryz.checked) (os:=os) (X:=λw _=>laidMetH Tryz.prog Rows.bisectsAnyRow.laid w) false (World.doorLaid Tryz.prog 24 os) #[.agg #[.slice none 0 0,.slice none 0 0,.slice none 0 0],.slice none 0 0] 8 rfl (World.shaped_of_RefB jV jV) jV jV jV (KF os _)) ?_
  intro W base args ds gs Bw hval0 hW _ _ hL _
  have hval:∀(j:Nat) t v,Tryz.f5.params[j]?=some t->args[j]?=some v->Value.okWide Tryz.prog W .any base t v:=hval0
  have hW':=hW
  obtain ⟨p,q,hA0,hV,hbe,hfz,hnd⟩:=hW
  have hA:DataW.TrodAll enc Tryz.prog W 0 (λ_=>true) true Tryz.f5.params.toList args.toList ds p:=hA0
  rw [EU] at hA hval
  obtain ⟨v0,v1,d0,d1,p0,p1,rfl,rfl,rfl,h0,h1⟩:=trodAll_two hA
  obtain ⟨rfl,rfl⟩:=trodVars_none hV
  clear hA0 hval0
  obtain ⟨m0,rfl,hm0⟩:=cx (P:=Tryz.prog) (t0:=22) (t1:=23) (t2:=24) (p:=96) (q:=94) (i64:=2) (u32:=92) (a3:=105) (sd:=110) (it:=3) Tryz.underlying26 ⟨_,rfl,rfl,rfl⟩ ⟨_,rfl,rfl,rfl⟩ ⟨_,rfl,rfl,rfl⟩ Tryz.underlying22 Tryz.underlying23 Tryz.underlying24 jV jV jV Tryz.underlying96 ⟨_,rfl,rfl,rfl⟩ ⟨_,rfl,rfl,rfl⟩ Tryz.underlying94 ⟨_,rfl,rfl,rfl⟩ ⟨_,rfl,rfl,rfl⟩ jV jV jV jV jV jV Tryz.underlying105 jV jV jV Tryz.underlying110 ⟨_,rfl,rfl,rfl⟩ ⟨_,rfl,rfl,rfl⟩ ⟨_,rfl,rfl,rfl⟩ jV jV jV (hval 0 26 _ rfl rfl) h0
  obtain ⟨l1,y1,rfl,hy1⟩:=Z7 (P:=Tryz.prog) (e:=3) Tryz.underlying32 jV Tryz.underlying3 (hval 1 32 _ rfl rfl) h1
  refine (MR m0 l1 y1 W hm0 hy1 (Lw hL)).mono λe W' ⟨he,hb⟩=>?_
  subst he
  exact ⟨_,rfl,Wl hW' O O jV Tryz.underlying4 hb YI (by rw [EU];exact λt ht=>(by have h9:=List.all_eq_true.1 (show ([26,32].all λt=>Tryz.prog.readableRec t&&decide (t<Tryz.prog.types.size))=true by kernel_rfl) t (by simpa using ht);rw [xZ,xT] at h9;exact h9))⟩
theorem Ja:Rows.BisectsAnySaid :=
  OpenClaim.holds_of_wide 5 Tryz.f5 rfl rfl rfl rfl rfl rfl rfl ⟨rfl,rfl,rfl,rfl,rfl⟩ rfl rfl rfl rfl rfl jV Tryz.func5 jV
    (xR jV) (by unfold Func.isWrapper;first|(rw [if_pos (by decide +kernel)];kernel_rfl)|(rw [if_neg (by decide +kernel)];exact ⟨rfl,rfl⟩))
    (λos started H enc _=>Ic os started H enc)
theorem bisectsAny_card_holds:Rows.BisectsAnyCardSaid :=
  Claim7.holds_tied_plain_at .later [] [.data,.data,.data] true Rows.bisectsAnyCard.stood.harness false
    Ja (λ_ h=>by cases h) jV (λ_ h=>by cases h) bisectsAny_row_tie rfl ⟨rfl,rfl⟩ jV rfl
    (λf fn hf hfn=>by
      obtain rfl:f=5:=Option.some.inj ((show Tryz.prog.funcNamed Rows.bisectsAnyRow.func=some 5 by kernel_rfl).symm.trans hf) |>.symm
      obtain rfl:fn=Tryz.f5:=(Option.some.inj (Tryz.func5.symm.trans hfn)).symm
      exact ⟨by kernel_rfl,λj t ht=>by
        rw [EU] at ht
        have hm:t∈[26,32]:=by simpa using Array.mem_of_getElem? ht
        have hall:([26,32].all λu=>!Tryz.prog.wantsStandIn u)=true:=by kernel_rfl
        exact (show Tryz.prog.wantsStandIn t=false by simpa using List.all_eq_true.1 hall t hm)⟩)
    jV
#print axioms bisectsAny_card_holds
end
end Go.Proofs.YtpolhpjiahbidaaGreatDoor
