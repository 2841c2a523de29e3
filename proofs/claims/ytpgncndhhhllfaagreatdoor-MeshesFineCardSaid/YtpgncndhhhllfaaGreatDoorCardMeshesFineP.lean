import Derived.MakeChecks
import Derived.Stop.LaidErr
import Derived.Lib.LaidTab
import Derived.Test.YtpgncndhhhllfaaGreatDoorPart49
import Derived.Test.YtpgncndhhhllfaaGreatDoorPart50
namespace Go.Proofs.YtpgncndhhhllfaaGreatDoor
open Go Go.RowKit Go.Proofs.Tryz
set_option linter.unusedVariables false
set_option linter.unusedSimpArgs false
section
open Go Go.RowKit Go.ChangeShapes Go.WideShapes Go.ChangeAt
theorem Jf (os:Os) (args:Array Value):laidMetH Tryz.prog Rows.meshesFineRow.laid ((World.doorLaid Tryz.prog 24 os).forCall (λ_ _=>0) ⟨#[],args,[]⟩).memory :=
  laidMetH_of_parts3 (fuel:=8) (laidMet_of_run' 8 (by kernel_rfl) (by kernel_rfl)) (by kernel_rfl) (by kernel_rfl)
theorem Kg {W:World} (h:laidMetH Tryz.prog Rows.meshesFineRow.laid W):R6 W:=by
  rw [MakeChecks.laidMetH_plain _ _ _ (by kernel_rfl)] at h
  exact Lib.tabIs_of_head (g := 1) (t := 347) (e := 40) (n := 20) (by kernel_rfl) (by kernel_rfl) Tryz.underlying347 Tryz.underlying40 (by kernel_rfl) (by kernel_rfl) (show laidMet Tryz.prog [("internal/strconv.uint64pow10", Lib.tabData .u64 Lib.pow10Tab)] W from h.tail.tail)
theorem Dx:Tryz.f5.params=#[66,3]:=by kernel_rfl
set_option maxRecDepth 100000 in
theorem IL (os:Os) (started:os.Started) (H:Type) (enc:TypeId×Value->H) :
    ReturnsInHanded {} Tryz.checked os 5 .any (λw args=>(Rows.meshesFineSpec.pre enc Tryz.prog Tryz.f5 [] false w args/\laidMetH Tryz.prog Rows.meshesFineRow.laid w)/\sizedMet enc Tryz.prog Tryz.f5 (OpenSpec.ofChange Rows.meshesFineSpec) false w args)
      (Rows.meshesFineSpec.post enc Tryz.prog Tryz.f5 false true false false):=by
  refine returnsInHanded_of_change_and (C:=Tryz.checked) (X:=λw _=>laidMetH Tryz.prog Rows.meshesFineRow.laid w) (λ_ _ _ hh h=>h.of_heap hh) VX started (by kernel_rfl) Tryz.func5
    (ChangeSpec.witness_shaped (enc:=enc) (C:=Tryz.checked) (os:=os) (X:=λw _=>laidMetH Tryz.prog Rows.meshesFineRow.laid w) false (World.doorLaid Tryz.prog 24 os) #[.agg #[.int .u8 0,.int .u8 0,.slice none 0 0,.int .i8 0,.int .i8 0,.int .i8 0,.int .i8 0,.int .u8 0,.int .u8 0],.int .i64 0] 8 rfl (World.shaped_of_RefB (by kernel_rfl) (by kernel_rfl)) (by kernel_rfl) (by kernel_rfl) (by kernel_rfl) (Jf os _)) ?_
  intro W base args ds gs C2 hval0 hW _ _ hL _
  have hval:∀(j:Nat) t v,Tryz.f5.params[j]?=some t->args[j]?=some v->Value.okWide Tryz.prog W .any base t v:=hval0
  have hW':=hW
  obtain ⟨p,q,hA0,hV,hbe,hfz,hnd⟩:=hW
  have hA:DataW.TrodAll enc Tryz.prog W 0 (λ_=>true) true Tryz.f5.params.toList args.toList ds p:=hA0
  rw [Dx] at hA hval
  obtain ⟨v0,v1,d0,d1,p0,p1,rfl,rfl,rfl,h0,h1⟩:=trodAll_two hA
  obtain ⟨rfl,rfl⟩:=trodVars_none hV
  clear hA0 hval0
  obtain ⟨m0,rfl,hm0⟩:=ax (P:=Tryz.prog) (ts:=62) (e:=5) (a0:=5) (a1:=5) (a2:=63) (a3:=63) (a4:=63) (a5:=63) (a6:=5) (a7:=5) Tryz.underlying66 ⟨_,rfl,rfl,rfl⟩ Tryz.underlying62 (by kernel_rfl) (by kernel_rfl) (by kernel_rfl) (by kernel_rfl) (by kernel_rfl) (by kernel_rfl) (hval 0 66 _ rfl rfl) h0
  obtain ⟨n1,rfl⟩:=W7 (P:=Tryz.prog) (by kernel_rfl) (hval 1 3 _ rfl rfl)
  refine (L0 m0 n1 W hm0 (Kg hL)).mono λe W' ⟨he,hb⟩=>?_
  subst he
  exact ⟨_,rfl,U8 hW' O O (by kernel_rfl) Tryz.underlying4 hb Xu (by rw [Dx];exact λt ht=>(by have h9:=List.all_eq_true.1 (show ([66,3].all λt=>Tryz.prog.readableRec t&&decide (t<Tryz.prog.types.size))=true by kernel_rfl) t (by simpa using ht);rw [Bool.and_eq_true,decide_eq_true_eq] at h9;exact h9))⟩
theorem Iz:Rows.MeshesFineSaid :=
  OpenClaim.holds_of_wide 5 Tryz.f5 rfl rfl rfl rfl rfl rfl rfl ⟨rfl,rfl,rfl,rfl,rfl⟩ rfl rfl rfl rfl rfl (by kernel_rfl) Tryz.func5 (by kernel_rfl)
    (of_decide_eq_true (by kernel_rfl)) (by unfold Func.isWrapper;first|(rw [if_pos (by decide +kernel)];kernel_rfl)|(rw [if_neg (by decide +kernel)];exact ⟨rfl,rfl⟩))
    (λos started H enc _=>IL os started H enc)
theorem meshesFine_card_holds:Rows.MeshesFineCardSaid :=
  Claim7.holds_tied_plain_at .later [] [.data,.data,.data] true Rows.meshesFineCard.stood.harness false
    Iz (λ_ h=>by cases h) (by kernel_rfl) (λ_ h=>by cases h) meshesFine_row_tie rfl ⟨rfl,rfl⟩ (by kernel_rfl) rfl
    (λf fn hf hfn=>by
      obtain rfl:f=5:=Option.some.inj ((show Tryz.prog.funcNamed Rows.meshesFineRow.func=some 5 by kernel_rfl).symm.trans hf) |>.symm
      obtain rfl:fn=Tryz.f5:=(Option.some.inj (Tryz.func5.symm.trans hfn)).symm
      exact ⟨by kernel_rfl,λj t ht=>by
        rw [Dx] at ht
        have hm:t∈[66,3]:=by simpa using Array.mem_of_getElem? ht
        have hall:([66,3].all λu=>!Tryz.prog.wantsStandIn u)=true:=by kernel_rfl
        exact (show Tryz.prog.wantsStandIn t=false by simpa using List.all_eq_true.1 hall t hm)⟩)
    (by kernel_rfl)
#print axioms meshesFine_card_holds
end
end Go.Proofs.YtpgncndhhhllfaaGreatDoor
