import Derived.Test.YtpgncndhhhllfaaGreatDoorPart06
import Derived.Test.YtpgncndhhhllfaaGreatDoorPart15
import Derived.Test.YtpgncndhhhllfaaGreatDoorPart26
import Derived.Test.YtpgncndhhhllfaaGreatDoorPart27
import Derived.Test.YtpgncndhhhllfaaGreatDoorPart28
import Derived.Test.YtpgncndhhhllfaaGreatDoorPart34
namespace Go.Proofs.YtpgncndhhhllfaaGreatDoor
open Go Go.RowKit Go.Proofs.Tryz
set_option linter.unusedVariables false
set_option linter.unusedSimpArgs false
section
set_option maxRecDepth 100000
theorem X7:ElemT Tryz.prog 36 115 3 24:=⟨Tryz.underlying36,EP (by kernel_rfl)⟩
theorem Xf:ElemT Tryz.prog 35 83 6 112:=⟨Tryz.underlying35,EP (by kernel_rfl)⟩
def Dg (q:QD):Bool:=decide (-1000000<=q.n)&&(decide (q.n<=1000000)&&decide (q.d<=1000000))
def Fl (r:RW):Bool:=decide (24<r.ds.length)||(decide (24<r.ts.length)||(decide (60<r.ss.length)||r.ds.any λd=>!(Dg d.x&&Dg d.y)))
theorem MW {r:RW} (h:Fl r=false):r.ds.length<=24/\r.ts.length<=24/\r.ss.length<=60:=by
 unfold Fl at h
 simp only [Bool.or_eq_false_iff,decide_eq_false_iff_not] at h
 omega
theorem Si {r:RW} {i:Nat} (hi:i<r.ds.length) (h:(!Dg (r.ds.getD i EG).x||!Dg (r.ds.getD i EG).y)=true):Fl r=true:=by
 unfold Fl
 have:(r.ds.any λd=>!(Dg d.x&&Dg d.y))=true:=List.any_eq_true.2 ⟨_,List.getElem_mem hi,by
  rw [List.getD,List.getElem?_eq_getElem hi] at h
  simpa using h⟩
 rw [this];simp
theorem Pd {r:RW} (h:24<r.ds.length\/24<r.ts.length\/60<r.ss.length):Fl r=true:=by
 unfold Fl
 rcases h with h|h|h<;>simp [h]
theorem Pn {r:RW} (h:¬(24<r.ds.length\/24<r.ts.length\/60<r.ss.length)) (hs:∀i,i<r.ds.length->(Dg (r.ds.getD i EG).x&&Dg (r.ds.getD i EG).y)=true):Fl r=false:=by
 unfold Fl
 have:(r.ds.any λd=>!(Dg d.x&&Dg d.y))=false:=by
  rw [List.any_eq_false]
  intro d hd
  obtain ⟨i,hi,rfl⟩:=List.getElem_of_mem hd
  have:=hs i hi
  rw [List.getD,List.getElem?_eq_getElem hi] at this
  simpa using this
 rw [this]
 simp only [Bool.or_eq_false_iff,decide_eq_false_iff_not]
 exact ⟨by omega,by omega,by omega,trivial⟩
theorem RW.pw (r:RW) (i:Nat) (h:i<r.ps.length):PW (r.ps.getD i ⟨0,0⟩):=by
 rw [r.pl] at h
 rw [Qn r h]
 exact Um (r.ok h)
theorem KO (q:QD) (w:World)  :Calls Tryz.prog 35 #[(aG (Gv q))] w (Al w (Value.bool (Dg q))):=by
 refine Aa (args:=[(aG (Gv q))]) Tryz.func35 rfl rfl (AV rfl) (AE.subF (sL [0] rfl) (q4 (BU (cs:=Gv q) rfl λb1=>asg' rfl (q3 (sL [1,2] rfl) ?_))))
 refine AK (v:=(pP b1 0)) (AA rfl Tryz.underlying99 rfl Tryz.sizeOf2 rfl) rfl (BJ 0 (vI q.n) XJ rfl (AK (DH (c:=(decide ((-1000000:Int)<=q.n))) rfl rfl rfl) rfl (AQ rfl ?_)))
 refine AD.mid (FM:=[(1,(pP b1 0)),(2,(Value.bool false)),(3,(pP b1 0)),(4,(vI q.n)),(5,(Value.bool (decide ((-1000000:Int)<=q.n)))),(6,(Value.bool (decide ((-1000000:Int)<=q.n)))),(10,(Value.bool ((decide ((-1000000:Int)<=q.n))&&(decide (q.n<=(1000000:Int))))))]) (LM:=[Ad b1 99 (Gv q)]) 4 ?_ ?_
 ·rcases Bool.eq_false_or_eq_true (decide ((-1000000:Int)<=q.n)) with hg1|hg1
  ·skip
   refine AD.retell (k:=6) (u:=Value.bool true) rfl (by rw [hg1]) ?_
   have hg1':=hg1
   replace hg1':=of_decide_eq_true hg1'
   exact AD.step (v:=(pP b1 0)) (AB rfl) (AA rfl Tryz.underlying99 rfl Tryz.sizeOf2 rfl) rfl (AV rfl) (AD.step (v:=(vI q.n)) (AB rfl) (AL (i:=0) (v:=(vI q.n)) rfl rfl XJ.a rfl) rfl (AV rfl) (AD.step (v:=(Value.bool (decide (q.n<=(1000000:Int))))) (AB rfl) (FH (c:=(decide (q.n<=(1000000:Int)))) rfl rfl rfl) rfl (AV rfl) (AK (v:=(Value.bool (decide (q.n<=(1000000:Int))))) (AX rfl rfl) rfl (AD.nil (AC.mid (sS rfl (sS rfl (sS rfl (sS rfl (sS rfl (sS (by first|rfl|(rw [hg1];rfl)|rw [hg1]) (sS (by first|rfl|(rw [hg1];rfl)|rw [hg1]) (sN)))))))) (List.Sublist.refl _))))))
  ·skip
   refine AD.retell (k:=6) (u:=Value.bool false) rfl (by rw [hg1]) ?_
   have hg1':=hg1
   replace hg1':=of_decide_eq_false hg1'
   exact AD.skip (AH rfl) rfl (AV rfl) (AD.skip (AH rfl) rfl (AV rfl) (AD.skip (AH rfl) rfl (AV rfl) (AK (v:=(Value.bool false)) (AR rfl rfl) rfl (AD.nil (AC.mid (sS rfl (sS rfl (sS rfl (sS rfl (sS rfl (sS (by first|rfl|(rw [hg1];rfl)|rw [hg1]) (sS (by first|rfl|(rw [hg1];rfl)|rw [hg1]) (sN)))))))) (List.Sublist.refl _))))))
 refine AQ rfl ?_
 refine AD.mid (FM:=[(1,(pP b1 0)),(2,(Value.bool false)),(3,(pP b1 0)),(4,(vI q.n)),(5,(Value.bool (decide ((-1000000:Int)<=q.n)))),(6,(Value.bool (decide ((-1000000:Int)<=q.n)))),(10,(Value.bool ((decide ((-1000000:Int)<=q.n))&&(decide (q.n<=(1000000:Int)))))),(11,(Value.bool ((decide ((-1000000:Int)<=q.n))&&(decide (q.n<=(1000000:Int)))))),(15,(Value.bool (((decide ((-1000000:Int)<=q.n))&&(decide (q.n<=(1000000:Int))))&&(decide (q.d<=1000000)))))]) (LM:=[Ad b1 99 (Gv q)]) 4 ?_ ?_
 ·rcases Bool.eq_false_or_eq_true ((decide ((-1000000:Int)<=q.n))&&(decide (q.n<=(1000000:Int)))) with hg2|hg2
  ·skip
   refine AD.retell (k:=11) (u:=Value.bool true) rfl (by rw [hg2]) ?_
   have hg2':=hg2
   simp only [Bool.and_eq_true,Bool.or_eq_true,Bool.and_eq_false_iff,Bool.or_eq_false_iff,Bool.not_eq_true',Bool.not_eq_false',decide_eq_true_eq,decide_eq_false_iff_not] at hg2'
   exact AD.step (v:=(pP b1 1)) (AB rfl) (AA rfl Tryz.underlying99 rfl Tryz.sizeOf97 rfl) rfl (AV rfl) (AD.step (v:=(vK .u32 q.d)) (AB rfl) (AL (i:=0) (v:=(vK .u32 q.d)) rfl rfl WO.a rfl) rfl (AV rfl) (AD.step (v:=(Value.bool (decide (q.d<=1000000)))) (AB rfl) (FH (c:=(decide (q.d<=1000000))) rfl rfl (S_ (a:=q.d) (b:=1000000))) rfl (AV rfl) (AK (v:=(Value.bool (decide (q.d<=1000000)))) (AX rfl rfl) rfl (AD.nil (AC.mid (sS rfl (sS rfl (sS rfl (sS rfl (sS rfl (sS rfl (sS rfl (sS (by first|rfl|(rw [hg2];rfl)|rw [hg2]) (sS (by first|rfl|(rw [hg2];rfl)|rw [hg2]) (sN)))))))))) (List.Sublist.refl _))))))
  ·skip
   refine AD.retell (k:=11) (u:=Value.bool false) rfl (by rw [hg2]) ?_
   have hg2':=hg2
   simp only [Bool.and_eq_true,Bool.or_eq_true,Bool.and_eq_false_iff,Bool.or_eq_false_iff,Bool.not_eq_true',Bool.not_eq_false',decide_eq_true_eq,decide_eq_false_iff_not] at hg2'
   exact AD.skip (AH rfl) rfl (AV rfl) (AD.skip (AH rfl) rfl (AV rfl) (AD.skip (AH rfl) rfl (AV rfl) (AK (v:=(Value.bool false)) (AR rfl rfl) rfl (AD.nil (AC.mid (sS rfl (sS rfl (sS rfl (sS rfl (sS rfl (sS rfl (sS rfl (sS (by first|rfl|(rw [hg2];rfl)|rw [hg2]) (sS (by first|rfl|(rw [hg2];rfl)|rw [hg2]) (sN)))))))))) (List.Sublist.refl _))))))
 exact asg' rfl (AD.nil (AC.subF (sL [2] rfl) (AC.then_ (AE.ret (AJ rfl (AS (v:=(Value.bool (((decide ((-1000000:Int)<=q.n))&&(decide (q.n<=(1000000:Int))))&&(decide (q.d<=1000000))))) rfl) (λw hw=>⟨by unfold Dg;simp [Bool.and_assoc],hw.out⟩))))))
theorem Fw (r:RW) (w:World) {S:Nat->Prop} (hr:Ro S w r):Calls Tryz.prog 7 #[(aG (B4 r))] w (Al w (Value.bool (Fl r))):=by
 have lr:=Cx (W:=w) hr
 refine Aj (args:=[(aG (B4 r))]) (L:=[AG r.a.p (rowsL Cn r.ds),AG r.b.p (rowsL Ag r.ts),AG r.c.p (rowsL Ag r.ss)]) Tryz.func7 rfl rfl (AV rfl) (Ds hr Ax) (AE.subF (sL [0] rfl) (q4 (BU (cs:=B4 r) rfl λb1=>asg' rfl (q6 (sL [1,2] rfl) ?_))))
 refine q4 (AK (v:=(pP b1 0)) (AA rfl Tryz.underlying26 rfl Tryz.sizeOf22 rfl) rfl (BJ 0 (Value.slice r.a.p r.ds.length r.a.c) Le rfl (AK (v:=(vN r.ds.length)) (AF rfl Tryz.underlying22) rfl (AK (Bb (c:=(decide (24<r.ds.length))) rfl rfl (CI (a:=24) (b:=r.ds.length))) rfl (AQ rfl ?_)))))
 refine AD.mid (FM:=[(1,(pP b1 0)),(2,(Value.bool false)),(4,(pP b1 0)),(5,(Value.slice r.a.p r.ds.length r.a.c)),(6,(vN r.ds.length)),(7,(Value.bool (decide (24<r.ds.length)))),(8,(Value.bool (decide (24<r.ds.length)))),(13,(Value.bool ((decide (24<r.ds.length))||(decide (24<r.ts.length)))))]) (LM:=[Ad b1 26 (B4 r),AG r.a.p (rowsL Cn r.ds),AG r.b.p (rowsL Ag r.ts),AG r.c.p (rowsL Ag r.ss)]) 5 ?_ ?_
 ·rcases Bool.eq_false_or_eq_true (decide (24<r.ds.length)) with hg1|hg1
  ·skip
   refine AD.retell (k:=8) (u:=Value.bool true) rfl (by rw [hg1]) ?_
   have hg1':=hg1
   replace hg1':=of_decide_eq_true hg1'
   exact AD.skip (AH rfl) rfl (AV rfl) (AD.skip (AH rfl) rfl (AV rfl) (AD.skip (AH rfl) rfl (AV rfl) (AD.skip (AH rfl) rfl (AV rfl) (AK (v:=(Value.bool true)) (AX rfl rfl) rfl (AD.nil (AC.mid (sS rfl (sS rfl (sS rfl (sS rfl (sS rfl (sS rfl (sS (by first|rfl|(rw [hg1];rfl)|rw [hg1]) (sS (by first|rfl|(rw [hg1];rfl)|rw [hg1]) (sN))))))))) (List.Sublist.refl _)))))))
  ·skip
   refine AD.retell (k:=8) (u:=Value.bool false) rfl (by rw [hg1]) ?_
   have hg1':=hg1
   replace hg1':=of_decide_eq_false hg1'
   exact AD.step (v:=(pP b1 1)) (AB rfl) (AA rfl Tryz.underlying26 rfl Tryz.sizeOf23 rfl) rfl (AV rfl) (AD.step (v:=(Value.slice r.b.p r.ts.length r.b.c)) (AB rfl) (AL (i:=0) (v:=(Value.slice r.b.p r.ts.length r.b.c)) rfl rfl DG.a rfl) rfl (AV rfl) (AD.step (v:=(vN r.ts.length)) (AB rfl) (AF rfl Tryz.underlying23) rfl (AV rfl) (AD.step (v:=(Value.bool (decide (24<r.ts.length)))) (AB rfl) (Bb (c:=(decide (24<r.ts.length))) rfl rfl (CI (a:=24) (b:=r.ts.length))) rfl (AV rfl) (AK (v:=(Value.bool (decide (24<r.ts.length)))) (AR rfl rfl) rfl (AD.nil (AC.mid (sS rfl (sS rfl (sS rfl (sS rfl (sS rfl (sS rfl (sS (by first|rfl|(rw [hg1];rfl)|rw [hg1]) (sS (by first|rfl|(rw [hg1];rfl)|rw [hg1]) (sN))))))))) (List.Sublist.refl _)))))))
 refine AQ rfl ?_
 refine AD.mid (FM:=[(1,(pP b1 0)),(2,(Value.bool false)),(4,(pP b1 0)),(5,(Value.slice r.a.p r.ds.length r.a.c)),(6,(vN r.ds.length)),(7,(Value.bool (decide (24<r.ds.length)))),(8,(Value.bool (decide (24<r.ds.length)))),(13,(Value.bool ((decide (24<r.ds.length))||(decide (24<r.ts.length))))),(14,(Value.bool ((decide (24<r.ds.length))||(decide (24<r.ts.length))))),(19,(Value.bool (((decide (24<r.ds.length))||(decide (24<r.ts.length)))||(decide (60<r.ss.length)))))]) (LM:=[Ad b1 26 (B4 r),AG r.a.p (rowsL Cn r.ds),AG r.b.p (rowsL Ag r.ts),AG r.c.p (rowsL Ag r.ss)]) 5 ?_ ?_
 ·rcases Bool.eq_false_or_eq_true ((decide (24<r.ds.length))||(decide (24<r.ts.length))) with hg2|hg2
  ·skip
   refine AD.retell (k:=14) (u:=Value.bool true) rfl (by rw [hg2]) ?_
   have hg2':=hg2
   simp only [Bool.and_eq_true,Bool.or_eq_true,Bool.and_eq_false_iff,Bool.or_eq_false_iff,Bool.not_eq_true',Bool.not_eq_false',decide_eq_true_eq,decide_eq_false_iff_not] at hg2'
   exact AD.skip (AH rfl) rfl (AV rfl) (AD.skip (AH rfl) rfl (AV rfl) (AD.skip (AH rfl) rfl (AV rfl) (AD.skip (AH rfl) rfl (AV rfl) (AK (v:=(Value.bool true)) (AX rfl rfl) rfl (AD.nil (AC.mid (sS rfl (sS rfl (sS rfl (sS rfl (sS rfl (sS rfl (sS rfl (sS rfl (sS (by first|rfl|(rw [hg2];rfl)|rw [hg2]) (sS (by first|rfl|(rw [hg2];rfl)|rw [hg2]) (sN))))))))))) (List.Sublist.refl _)))))))
  ·skip
   refine AD.retell (k:=14) (u:=Value.bool false) rfl (by rw [hg2]) ?_
   have hg2':=hg2
   simp only [Bool.and_eq_true,Bool.or_eq_true,Bool.and_eq_false_iff,Bool.or_eq_false_iff,Bool.not_eq_true',Bool.not_eq_false',decide_eq_true_eq,decide_eq_false_iff_not] at hg2'
   exact AD.step (v:=(pP b1 2)) (AB rfl) (AA rfl Tryz.underlying26 rfl Tryz.sizeOf24 rfl) rfl (AV rfl) (AD.step (v:=(Value.slice r.c.p r.ss.length r.c.c)) (AB rfl) (AL (i:=0) (v:=(Value.slice r.c.p r.ss.length r.c.c)) rfl rfl D5.a rfl) rfl (AV rfl) (AD.step (v:=(vN r.ss.length)) (AB rfl) (AF rfl Tryz.underlying24) rfl (AV rfl) (AD.step (v:=(Value.bool (decide (60<r.ss.length)))) (AB rfl) (Bb (c:=(decide (60<r.ss.length))) rfl rfl (CI (a:=60) (b:=r.ss.length))) rfl (AV rfl) (AK (v:=(Value.bool (decide (60<r.ss.length)))) (AR rfl rfl) rfl (AD.nil (AC.mid (sS rfl (sS rfl (sS rfl (sS rfl (sS rfl (sS rfl (sS rfl (sS rfl (sS (by first|rfl|(rw [hg2];rfl)|rw [hg2]) (sS (by first|rfl|(rw [hg2];rfl)|rw [hg2]) (sN))))))))))) (List.Sublist.refl _)))))))
 refine AD.nil (AC.subF (sL [1,2,19] rfl) (AC.then_ ?_))
 refine AE.cond rfl (λhc0=>?_) (λhc0=>?_)
 ·simp only [Bool.and_eq_true,Bool.or_eq_true,Bool.and_eq_false_iff,Bool.or_eq_false_iff,Bool.not_eq_true',Bool.not_eq_false',decide_eq_true_eq,decide_eq_false_iff_not] at hc0
  have hgr:Fl r=true:=Pd (by grind)
  exact q4 (asg' rfl (AD.nil (AC.then_ (AE.ret (AC.then_ret (AJ rfl (AS (v:=(Value.bool true)) rfl) (λw hw=>⟨by rw [hgr],hw.out⟩)))))))
 ·simp only [Bool.and_eq_true,Bool.or_eq_true,Bool.and_eq_false_iff,Bool.or_eq_false_iff,Bool.not_eq_true',Bool.not_eq_false',decide_eq_true_eq,decide_eq_false_iff_not] at hc0
  have hgl:¬(24<r.ds.length\/24<r.ts.length\/60<r.ss.length):=by grind
  refine AE.skip (q1 (q4 (asg' rfl (AD.nil (AC.then_ ?_)))))
  refine AE.block ?_
  refine AE.lp1 (tg λ(i:Nat)=>i<=r.ds.length/\∀j,j<i->(Dg (r.ds.getD j EG).x&&Dg (r.ds.getD j EG).y)=true) (tg λ(i:Nat)=>[(1,(pP b1 0)),(3,(vN i))]) (tg λ(i:Nat)=>[Ad b1 26 (B4 r),AG r.a.p (rowsL Cn r.ds),AG r.b.p (rowsL Ag r.ts),AG r.c.p (rowsL Ag r.ss)]) (tg λ(i:Nat)=>r.ds.length-i) 0 (⟨Nat.zero_le _,λj h=>absurd h (Nat.not_lt_zero _)⟩) (sF rfl) sr (λi hJ=>?_)
  obtain ⟨hi,hs⟩:=hJ
  refine AE.seq (q4 (AQ rfl (AK (v:=(pP b1 0)) (AA rfl Tryz.underlying26 rfl Tryz.sizeOf22 rfl) rfl (BJ 0 (Value.slice r.a.p r.ds.length r.a.c) Le rfl (AK (v:=(vN r.ds.length)) (AF rfl Tryz.underlying22) rfl ?_)))))
  refine AK (Ai (c:=(decide (i<r.ds.length))) rfl rfl (CI (a:=i) (b:=r.ds.length))) rfl (AD.nil (AC.subF (sL [1,3,24] rfl) (AC.then_ ?_)))
  refine AE.cond rfl (λhc1=>?_) (λhc1=>?_)
  ·replace hc1:=of_decide_eq_true hc1
   refine AE.skip (q1 (AE.block (q4 (AK (v:=(pP b1 0)) (AA rfl Tryz.underlying26 rfl Tryz.sizeOf22 rfl) rfl (BJ 0 (Value.slice r.a.p r.ds.length r.a.c) Le rfl ?_)))))
   refine AQ rfl (AK (v:=(pP (pB r.a.p) (pO r.a.p+i*4))) (AO (j:=i) rfl rfl r.a.ok Tryz.underlying22 Tryz.sizeOf101 rfl (by omega)) rfl (AK (v:=(pP (pB r.a.p) (pO r.a.p+(i*4+0)))) (AA rfl Tryz.underlying101 rfl Tryz.sizeOf99 (Nat.add_assoc _ _ _)) rfl (AK (v:=(aG (Gv ((r.ds.getD i EG).x)))) (AT (vs:=Gv ((r.ds.getD i EG).x)) (i:=1) rfl rfl (A7.ne r.a.ok (by omega)) QO (Gd E_ EG _ _ 0 2 (by omega) (by decide) rfl) rfl) rfl (ck' Tryz.call35 (KO ((r.ds.getD i EG).x)) rfl (AK (BF (c:=(!(Dg ((r.ds.getD i EG).x)))) rfl rfl) rfl ?_)))))
   refine AQ rfl ?_
   refine AD.mid (FM:=[(1,(pP b1 0)),(3,(vN i)),(27,(pP b1 0)),(28,(Value.slice r.a.p r.ds.length r.a.c)),(29,(vN i)),(30,(pP (pB r.a.p) (pO r.a.p+i*4))),(31,(pP (pB r.a.p) (pO r.a.p+(i*4+0)))),(32,(aG (Gv ((r.ds.getD i EG).x)))),(33,(Value.bool (Dg ((r.ds.getD i EG).x)))),(34,(Value.bool (!(Dg ((r.ds.getD i EG).x))))),(35,(Value.bool (!(Dg ((r.ds.getD i EG).x))))),(44,(Value.bool ((!(Dg ((r.ds.getD i EG).x)))||(!(Dg ((r.ds.getD i EG).y))))))]) (LM:=[Ad b1 26 (B4 r),AG r.a.p (rowsL Cn r.ds),AG r.b.p (rowsL Ag r.ts),AG r.c.p (rowsL Ag r.ss)]) 9 ?_ ?_
   ·rcases Bool.eq_false_or_eq_true (!(Dg ((r.ds.getD i EG).x))) with hg3|hg3
    ·skip
     refine AD.retell (k:=35) (u:=Value.bool true) rfl (by rw [hg3]) ?_
     have hg3':=hg3
     simp only [Bool.and_eq_true,Bool.or_eq_true,Bool.and_eq_false_iff,Bool.or_eq_false_iff,Bool.not_eq_true',Bool.not_eq_false',decide_eq_true_eq,decide_eq_false_iff_not] at hg3'
     refine AD.skip (AH rfl) rfl (AV rfl) (AD.skip (AH rfl) rfl (AV rfl) (AD.skip (AH rfl) rfl (AV rfl) (AD.skip (AH rfl) rfl (AV rfl) (AD.skip (AH rfl) rfl (AV rfl) (AD.skip (AH rfl) rfl (AV rfl) ?_)))))
     exact AD.skip (AH rfl) rfl (AV rfl) (AD.skip (AH rfl) rfl (AV rfl) (AK (v:=(Value.bool true)) (AX rfl rfl) rfl (AD.nil (AC.mid (sS rfl (sS rfl (sS rfl (sS rfl (sS rfl (sS rfl (sS rfl (sS rfl (sS rfl (sS rfl (sS (by first|rfl|(rw [hg3];rfl)|rw [hg3]) (sS (by first|rfl|(rw [hg3];rfl)|rw [hg3]) (sN))))))))))))) (List.Sublist.refl _)))))
    ·skip
     refine AD.retell (k:=35) (u:=Value.bool false) rfl (by rw [hg3]) ?_
     have hg3':=hg3
     simp only [Bool.and_eq_true,Bool.or_eq_true,Bool.and_eq_false_iff,Bool.or_eq_false_iff,Bool.not_eq_true',Bool.not_eq_false',decide_eq_true_eq,decide_eq_false_iff_not] at hg3'
     refine AD.step (v:=(pP b1 0)) (AB rfl) (AA rfl Tryz.underlying26 rfl Tryz.sizeOf22 rfl) rfl (AV rfl) (AD.step (v:=(Value.slice r.a.p r.ds.length r.a.c)) (AB rfl) (AL (i:=0) (v:=(Value.slice r.a.p r.ds.length r.a.c)) rfl rfl Le.a rfl) rfl (AV rfl) (AD.step (v:=(vN i)) (AB rfl) (A9 rfl) rfl (AV rfl) (AD.step (v:=(pP (pB r.a.p) (pO r.a.p+i*4))) (AB rfl) (AO (j:=i) rfl rfl r.a.ok Tryz.underlying22 Tryz.sizeOf101 rfl (by omega)) rfl (AV rfl) (AD.step (v:=(pP (pB r.a.p) (pO r.a.p+(i*4+2)))) (AB rfl) (AA rfl Tryz.underlying101 rfl Tryz.sizeOf99 (Nat.add_assoc _ _ _)) rfl (AV rfl) (AD.step (v:=(aG (Gv ((r.ds.getD i EG).y)))) (AB rfl) (AT (vs:=Gv ((r.ds.getD i EG).y)) (i:=1) rfl rfl (A7.ne r.a.ok (by omega)) QO (Gd E_ EG _ _ 2 2 (by omega) (by decide) rfl) rfl) rfl (AV rfl) ?_)))))
     exact AD.call (v:=(Value.bool (Dg ((r.ds.getD i EG).y)))) (AB rfl) (An (args:=[(aG (Gv ((r.ds.getD i EG).y)))]) rfl rfl Tryz.call35) (λw hw=>KO ((r.ds.getD i EG).y) w) rfl (AV rfl) (AD.step (v:=(Value.bool (!(Dg ((r.ds.getD i EG).y))))) (AB rfl) (BF (c:=(!(Dg ((r.ds.getD i EG).y)))) rfl rfl) rfl (AV rfl) (AK (v:=(Value.bool (!(Dg ((r.ds.getD i EG).y))))) (AR rfl rfl) rfl (AD.nil (AC.mid (sS rfl (sS rfl (sS rfl (sS rfl (sS rfl (sS rfl (sS rfl (sS rfl (sS rfl (sS rfl (sS (by first|rfl|(rw [hg3];rfl)|rw [hg3]) (sS (by first|rfl|(rw [hg3];rfl)|rw [hg3]) (sN))))))))))))) (List.Sublist.refl _)))))
   refine AD.nil (AC.subF (sL [1,3,44] rfl) (AC.then_ ?_))
   refine AE.cond rfl (λhc2=>?_) (λhc2=>?_)
   ·simp only [Bool.and_eq_true,Bool.or_eq_true,Bool.and_eq_false_iff,Bool.or_eq_false_iff,Bool.not_eq_true',Bool.not_eq_false',decide_eq_true_eq,decide_eq_false_iff_not] at hc2
    have hgr:Fl r=true:=Si (by omega) (by grind)
    refine q4 (asg' rfl (AD.nil (AC.then_ (AE.ret (AC.in_ret ?_)))))
    exact AC.then_ret (AC.round1_ret (AC.in_ret (AC.then_ret (AJ rfl (AS (v:=(Value.bool true)) rfl) (λw hw=>⟨by rw [hgr],hw.out⟩)))))
   ·simp only [Bool.and_eq_true,Bool.or_eq_true,Bool.and_eq_false_iff,Bool.or_eq_false_iff,Bool.not_eq_true',Bool.not_eq_false',decide_eq_true_eq,decide_eq_false_iff_not] at hc2
    have hsj:(Dg (r.ds.getD i EG).x&&Dg (r.ds.getD i EG).y)=true:=by grind
    refine AE.skip (AC.in_normal (AC.then_ (AE.region (AQ rfl (AK (Ac (c:=((i+1:Nat):Int)) rfl rfl (Ae (a:=i) (b:=1) (by omega))) rfl ?_)))))
    exact asg' rfl (AD.nil (AC.subF (sL [1,3] rfl) (AC.round1 (i+1) (⟨by omega,λj hj=>by rcases Nat.lt_or_ge j i with k|k;exact hs j k;rw [show j=i by omega];exact hsj⟩) (by omega) (sF rfl) sr)))
  ·replace hc1:=of_decide_eq_false hc1
   have hgr:Fl r=false:=Pn hgl λj hj=>hs j (by omega)
   refine AE.exit (AC.then_exit (AC.round1_exit (AC.in_exit (q2 (asg' rfl ?_)))))
   exact AD.nil (AC.then_ (AE.ret (AJ rfl (AS (v:=(Value.bool false)) rfl) (λw hw=>⟨by rw [hgr],hw.out⟩))))
theorem JV (x0:Pt):Instr.fill (λi=>some (i*10,10)) ((Array.range (1*10)).map ((Value.agg (Af (⟨0,0⟩:Pt)).toArray).cells[·%(Value.agg (Af (⟨0,0⟩:Pt)).toArray).cells.size]!)) [(0,.agg (Af x0).toArray)]=some (Af x0).toArray:=by kernel_rfl
set_option maxHeartbeats 1000000 in
theorem Ma (r:RW) (hl1:r.ds.length<=24) (hl2:r.ts.length<=24) (hl3:r.ss.length<=60) (w:World) {S:Nat->Prop} (hr:Ro S w r):Calls Tryz.prog 9 #[(aG (B4 r))] w (BH (MZ r.ps r.ts r.ss) S w):=by
 have lr:=Cx (W:=w) hr
 refine Aj (args:=[(aG (B4 r))]) (L:=[AG r.a.p (rowsL Cn r.ds),AG r.b.p (rowsL Ag r.ts),AG r.c.p (rowsL Ag r.ss)]) Tryz.func9 rfl rfl (AV rfl) (Ds hr Ax) (AE.subF (sL [0] rfl) (q4 (BU (cs:=B4 r) rfl λb1=>al M8 rfl λb2=>q6 (sL [1,2] rfl) ?_)))
 refine rN [(0,true),(1,true),(3,true),(4,true),(2,false),(5,false),(6,true)] [⟨7,3,30,[(Value.slice none 0 0),(Value.slice none 0 0),(Value.slice none 0 0)]⟩] [(8,false)] sr (by kernel_rfl) (λ_ _ d _ _ h=>by cases d<;>exact h) (Fc rfl rfl M8 rfl (Ht)) rfl (F8 (v:=(pP b1 1)) rfl (AA rfl Tryz.underlying26 rfl Tryz.sizeOf23 rfl) rfl (Wm 1 (Value.slice r.b.p r.ts.length r.b.c) DG rfl (F8 (v:=(pP b1 2)) rfl (AA rfl Tryz.underlying26 rfl Tryz.sizeOf24 rfl) rfl (Wm 1 (Value.slice r.c.p r.ss.length r.c.c) D5 rfl (Bz.imp rfl λEF EL=>?_)))))
 refine AD.nilRow 53 3 (AD.appendE0 WC rfl OwnOk.none rfl (NT (k:=4) rfl r.b.ok) (Ab Ar _) (Dn HE _) (KM (by omega)) (by omega) rfl λptb ctb otb=>Bz.back1 (sl sr) rfl (Bz.imp rfl λEF EL=>AD.nilRow 55 3 (AD.appendE0 V3 rfl OwnOk.none rfl (NT (k:=6) rfl r.c.ok) (Ab Ar _) (Dn HE _) (KM (by omega)) (by omega) rfl λpsb csb osb=>?_)))
 refine Bz.back1 (sl (sl sr)) rfl (F8 (v:=(aG ([(Value.slice none 0 0),(Value.slice ptb r.ts.length ctb),(Value.slice psb r.ss.length csb)]))) rfl (AU (zs:=[(Value.slice none 0 0),(Value.slice none 0 0),(Value.slice none 0 0)]) (vs:=[(Value.slice none 0 0),(Value.slice ptb r.ts.length ctb),(Value.slice psb r.ss.length csb)]) (pv:=[(1,(Value.slice ptb r.ts.length ctb)),(2,(Value.slice psb r.ss.length csb))]) (places:=[(0,1),(1,1),(2,1)]) Tryz.zeroValue30 Tryz.underlying30 (λw=>by simp [Tryz.sizeOf23,Tryz.sizeOf24,Tryz.sizeOf28]) rfl rfl) rfl (Bz.news1 λb3=>OkE.imp rfl (A8 rfl Tryz.sizeOf30 rfl (AD.nilRow 51 10 ?_))))
 refine OkE.back (sl (sl (sl (sl sr)))) (OkE.nil (AC.subF (sL [1,2,3] rfl) (q1 (q4 (asg' rfl ?_)))))
 refine AD.nil (AC.then_ (AE.block ?_))
 refine AE.lp4 (tg λ(i:Nat) (p1:Option Addr) (c1:Nat) (ps:List Pt)=>i<=r.ds.length/\OwnOk p1 ps.length c1/\ps=r.ps.take i) (tg λ(i:Nat) (p1:Option Addr) (c1:Nat) (ps:List Pt)=>[(1,(pP b1 0)),(2,(pP b2 0)),(3,(pP b3 0)),(4,(vN i))]) (tg λ(i:Nat) (p1:Option Addr) (c1:Nat) (ps:List Pt)=>[rowW p1 51 10 ps.length c1 (rowsL Af ps),Ad b3 30 ([(Value.slice p1 ps.length c1),(Value.slice ptb r.ts.length ctb),(Value.slice psb r.ss.length csb)]),rowW psb 55 3 r.ss.length csb (rowsL Ag r.ss),rowW ptb 53 3 r.ts.length ctb (rowsL Ag r.ts),Ad b2 30 ([(Value.slice none 0 0),(Value.slice none 0 0),(Value.slice none 0 0)]),Ad b1 26 (B4 r),AG r.a.p (rowsL Cn r.ds),AG r.b.p (rowsL Ag r.ts),AG r.c.p (rowsL Ag r.ss)]) (tg λ(i:Nat) (p1:Option Addr) (c1:Nat) (ps:List Pt)=>r.ds.length-i) 0 none 0 ([]:List Pt) (⟨Nat.zero_le _,OwnOk.none,rfl⟩) (sF rfl) sr (λi p1 c1 ps hJ=>?_)
 obtain ⟨hi,h1,hps⟩:=hJ
 have hpl:ps.length<=24:=by rw [hps,List.length_take];omega
 refine AE.seq (q4 (AQ rfl (AK (v:=(pP b1 0)) (AA rfl Tryz.underlying26 rfl Tryz.sizeOf22 rfl) rfl (BJ 5 (Value.slice r.a.p r.ds.length r.a.c) Le rfl (AK (v:=(vN r.ds.length)) (AF rfl Tryz.underlying22) rfl ?_)))))
 refine AK (Ai (c:=(decide (i<r.ds.length))) rfl rfl (CI (a:=i) (b:=r.ds.length))) rfl (AD.nil (AC.subF (sL [1,2,3,4,16] rfl) (AC.then_ ?_)))
 refine AE.cond rfl (λhc0=>?_) (λhc0=>?_)
 ·replace hc0:=of_decide_eq_true hc0
  refine AE.skip (q1 (AE.block (rC [(0,true),(1,true),(2,true),(3,true),(4,true),(5,true),(6,true),(7,false),(8,false),(9,false),(10,true)] 11 [] (sl sr) (sl sr) (by kernel_rfl) (λ_ _ d _ _ h=>by cases d<;>exact h) (vE (v:=(pP b3 0)) rfl (AA rfl Tryz.underlying30 rfl Tryz.sizeOf28 rfl) rfl (vE rfl (AL (i:=0) (v:=(Value.slice p1 ps.length c1)) rfl rfl CW.a rfl) rfl ?_)))))
  refine vE (v:=(pP b1 0)) rfl (AA rfl Tryz.underlying26 rfl Tryz.sizeOf22 rfl) rfl (vE rfl (AL (i:=4) (v:=(Value.slice r.a.p r.ds.length r.a.c)) rfl rfl Le.a rfl) rfl (vM rfl rfl rfl (vE (v:=(pP (pB r.a.p) (pO r.a.p+i*4))) rfl (AO (j:=i) rfl rfl r.a.ok Tryz.underlying22 Tryz.sizeOf101 rfl (by omega)) rfl (vE (v:=(aG (Cn (r.ds.getD i EG)))) rfl (AT (vs:=Cn (r.ds.getD i EG)) (i:=5) rfl rfl (A7.ne r.a.ok (by omega)) U5 (Aq E_ _ _ _ (by omega)) (E_ _)) rfl (CZ.imp rfl ?_)))))
  refine ck' Tryz.call39 (U9 (r.ds.getD i EG) (r.ok (by omega))) rfl (CZ.back (sl sr) (CZ.imp rfl (AD.openV (V:=λb4=>(Value.slice (some ⟨b4,0,none⟩) 1 1)) (T:=51) (cs:=Af (FU (r.ds.getD i EG))) (AW rfl) (BI (z:=.agg (Af (⟨0,0⟩:Pt)).toArray) (cs:=Af (FU (r.ds.getD i EG))) (pv:=[(0,(aG (Af (FU (r.ds.getD i EG)))))]) Tryz.underlying28 Tryz.sizeOf51 Tryz.zeroValue51 (by decide) (by decide) rfl (JV (FU (r.ds.getD i EG)))) rfl (AV rfl) λb4=>CZ.back (sl (sl sr)) (CZ.imp rfl ?_))))
  refine AD.append1 (j:=0) (cs2:=rowsL Af (ps++[FU (r.ds.getD i EG)])) WD rfl h1 (Ab Av _) rfl rfl rfl rfl (by decide) (KM (by omega)) (by omega) (by rw [Ca];rfl) rfl λp_1 c_1 ho_1 hne_1=>CZ.back (sl (sl sr)) (vE (v:=(pP b3 0)) rfl (AA rfl Tryz.underlying30 rfl Tryz.sizeOf28 rfl) rfl (CZ.cut rfl (Hp 2 (off:=0) (vs:=[(Value.slice p_1 (ps.length+1) c_1)]) (cs':=[(Value.slice p_1 (ps.length+1) c_1),(Value.slice ptb r.ts.length ctb),(Value.slice psb r.ss.length csb)]) (AW rfl) rfl Tryz.sizeOf28 rfl (OkE.back (sl (sl (sl sr))) ?_))))
  refine OkE.nil (AC.subF (sL [1,2,3,4] rfl) (AC.in_normal (AC.then_ (AE.region (AQ rfl ?_)))))
  refine AK (Ac (c:=((i+1:Nat):Int)) rfl rfl (Ae (a:=i) (b:=1) (by omega))) rfl (asg' rfl (AD.nil (AC.subF (sL [1,2,3,4] rfl) ?_)))
  rw [show ps.length+1=(ps++[FU (r.ds.getD i EG)]).length by simp]
  exact AC.round4 (i+1) p_1 c_1 (ps++[FU (r.ds.getD i EG)]) (⟨by omega,(by simpa using ho_1),by rw [hps,MJ r (by omega)]⟩) (by omega) (sF rfl) (sl sr)
 ·replace hc0:=of_decide_eq_false hc0
  refine AE.exit (AC.then_exit (AC.round4_exit (AC.in_exit (q2 (BG 1 Bi rfl ?_)))))
  exact Hp 4 (off:=0) (vs:=[(Value.slice p1 ps.length c1),(Value.slice ptb r.ts.length ctb),(Value.slice psb r.ss.length csb)]) (cs':=[(Value.slice p1 ps.length c1),(Value.slice ptb r.ts.length ctb),(Value.slice psb r.ss.length csb)]) (AW rfl) rfl Tryz.sizeOf30 rfl (AD.nil (AC.subF (sL [1,2,3,4] rfl) (AC.then_ (AE.ret (AJ rfl (Au (i:=4) (cs:=[(Value.slice p1 ps.length c1),(Value.slice ptb r.ts.length ctb),(Value.slice psb r.ss.length csb)]) rfl rfl Tryz.isAgg30 Tryz.sizeOf30 rfl) (λw hw=>(by have hpf:ps=r.ps:=(by rw [hps,show i=r.ds.length by omega,<-r.pl,List.take_length]);subst hpf;exact Wp hw 0 3 2 rfl rfl rfl h1 otb osb rfl rfl rfl rfl)))))))
theorem IA (x0:Z3):Instr.fill (λi=>some (i*3,3)) ((Array.range (1*3)).map ((Value.agg (Ag ((0,0,0):Z3)).toArray).cells[·%(Value.agg (Ag ((0,0,0):Z3)).toArray).cells.size]!)) [(0,.agg (Ag x0).toArray)]=some (Ag x0).toArray:=by kernel_rfl
set_option maxHeartbeats 1000000 in
theorem F3 (r:RW) (hl1:r.ds.length<=24) (hl2:r.ts.length<=24) (hl3:r.ss.length<=60) (w:World) {S:Nat->Prop} (hr:Ro S w r):Calls Tryz.prog 13 #[(aG (B4 r))] w (BH (K0 r.ps r.ts r.ss) S w):=by
 have lr:=Cx (W:=w) hr
 refine Aj (args:=[(aG (B4 r))]) (L:=[AG r.a.p (rowsL Cn r.ds),AG r.b.p (rowsL Ag r.ts),AG r.c.p (rowsL Ag r.ss)]) Tryz.func13 rfl rfl (AV rfl) (Ds hr Ax) (AE.subF (sL [0] rfl) (q4 (BU (cs:=B4 r) rfl λb1=>al XC rfl λb2=>q3 (sL [1,2] rfl) ?_)))
 refine AK (v:=(pP b1 1)) (AA rfl Tryz.underlying26 rfl Tryz.sizeOf23 rfl) rfl (BJ 1 (Value.slice r.b.p r.ts.length r.b.c) DG rfl (AD.nilRow 53 3 (AD.appendE0 WC rfl OwnOk.none rfl (NT (k:=4) rfl r.b.ok) (Ab Ar _) (Dn HE _) (KM (by omega)) (by omega) rfl λptb ctb otb=>AK (v:=(aG ([(Value.slice none 0 0),(Value.slice ptb r.ts.length ctb),(Value.slice none 0 0)]))) (AU (zs:=[(Value.slice none 0 0),(Value.slice none 0 0),(Value.slice none 0 0)]) (vs:=[(Value.slice none 0 0),(Value.slice ptb r.ts.length ctb),(Value.slice none 0 0)]) (pv:=[(1,(Value.slice ptb r.ts.length ctb))]) (places:=[(0,1),(1,1),(2,1)]) Tryz.zeroValue38 Tryz.underlying38 (λw=>by simp [Tryz.sizeOf23,Tryz.sizeOf35,Tryz.sizeOf36]) rfl rfl) rfl (al XC rfl λb3=>?_))))
 refine A8 rfl Tryz.sizeOf38 rfl (AD.nilRow 83 6 (AD.nilRow 115 3 (q6 (sL [1,2,3] rfl) (q4 (asg' rfl ?_)))))
 refine AD.nil (AC.then_ (AE.block ?_))
 refine AE.lp4 (tg λ(i:Nat) (p2:Option Addr) (c2:Nat) (ss:List Z3)=>i<=r.ss.length/\OwnOk p2 ss.length c2/\ss=r.ss.take i) (tg λ(i:Nat) (p2:Option Addr) (c2:Nat) (ss:List Z3)=>[(1,(pP b1 0)),(2,(pP b2 0)),(3,(pP b3 0)),(4,(vN i))]) (tg λ(i:Nat) (p2:Option Addr) (c2:Nat) (ss:List Z3)=>[rowW p2 115 3 ss.length c2 (rowsL Ag ss),rowW none 83 6 0 0 (rowsL Cz ([]:List RP)),Ad b3 38 ([(Value.slice none 0 0),(Value.slice ptb r.ts.length ctb),(Value.slice p2 ss.length c2)]),rowW ptb 53 3 r.ts.length ctb (rowsL Ag r.ts),Ad b2 38 ([(Value.slice none 0 0),(Value.slice none 0 0),(Value.slice none 0 0)]),Ad b1 26 (B4 r),AG r.a.p (rowsL Cn r.ds),AG r.b.p (rowsL Ag r.ts),AG r.c.p (rowsL Ag r.ss)]) (tg λ(i:Nat) (p2:Option Addr) (c2:Nat) (ss:List Z3)=>r.ss.length-i) 0 none 0 ([]:List Z3) (⟨Nat.zero_le _,OwnOk.none,rfl⟩) (sF rfl) sr (λi p2 c2 ss hJ=>?_)
 obtain ⟨hi,h2,hss⟩:=hJ
 have hsl:ss.length<=60:=by rw [hss,List.length_take];omega
 refine AE.seq (q4 (AQ rfl (AK (v:=(pP b1 2)) (AA rfl Tryz.underlying26 rfl Tryz.sizeOf24 rfl) rfl (BJ 5 (Value.slice r.c.p r.ss.length r.c.c) D5 rfl (AK (v:=(vN r.ss.length)) (AF rfl Tryz.underlying24) rfl ?_)))))
 refine AK (Ai (c:=(decide (i<r.ss.length))) rfl rfl (CI (a:=i) (b:=r.ss.length))) rfl (AD.nil (AC.subF (sL [1,2,3,4,14] rfl) (AC.then_ ?_)))
 refine AE.cond rfl (λhc0=>?_) (λhc0=>?_)
 ·replace hc0:=of_decide_eq_true hc0
  refine AE.skip (q1 (AE.block (rC [(0,true),(1,true),(2,true),(3,true),(4,true),(5,true),(6,true),(7,true),(8,true),(9,true),(10,true),(11,true),(12,true),(13,true),(14,true),(15,true),(16,true),(17,true),(18,true),(19,true),(20,true),(21,false),(22,false),(23,true)] 24 [] (sl sr) (sk (sl sr)) (by kernel_rfl) (λ_ _ d _ _ h=>by cases d<;>exact h) (vE (v:=(pP b3 2)) rfl (AA rfl Tryz.underlying38 rfl Tryz.sizeOf36 rfl) rfl (vE rfl (AL (i:=1) (v:=(Value.slice p2 ss.length c2)) rfl rfl ME.a rfl) rfl ?_)))))
  refine vE (v:=(pP b1 2)) rfl (AA rfl Tryz.underlying26 rfl Tryz.sizeOf24 rfl) rfl (vE rfl (AL (i:=4) (v:=(Value.slice r.c.p r.ss.length r.c.c)) rfl rfl D5.a rfl) rfl (vM rfl rfl rfl (vE (v:=(pP (pB r.c.p) (pO r.c.p+i*3))) rfl (AO (j:=i) rfl rfl r.c.ok Tryz.underlying24 Tryz.sizeOf55 rfl (by omega)) rfl (vE (v:=(pP (pB r.c.p) (pO r.c.p+(i*3+0)))) rfl (AA rfl Tryz.underlying55 rfl Tryz.sizeOf3 (Nat.add_assoc _ _ _)) rfl (vE rfl (Ah (v:=(vI ((r.ss.getD i ((0,0,0):Z3)).1))) (i:=7) rfl rfl (A7.ne r.c.ok (by omega)) Bo (Bn Ar ((0,0,0):Z3) _ _ 0 (by omega) (by decide) rfl)) rfl ?_)))))
  refine vE (v:=(pP b1 2)) rfl (AA rfl Tryz.underlying26 rfl Tryz.sizeOf24 rfl) rfl (vE rfl (AL (i:=4) (v:=(Value.slice r.c.p r.ss.length r.c.c)) rfl rfl D5.a rfl) rfl (vM rfl rfl rfl (vE (v:=(pP (pB r.c.p) (pO r.c.p+i*3))) rfl (AO (j:=i) rfl rfl r.c.ok Tryz.underlying24 Tryz.sizeOf55 rfl (by omega)) rfl (vE (v:=(pP (pB r.c.p) (pO r.c.p+(i*3+1)))) rfl (AA rfl Tryz.underlying55 rfl Tryz.sizeOf3 (Nat.add_assoc _ _ _)) rfl (vE rfl (Ah (v:=(vI ((r.ss.getD i ((0,0,0):Z3)).2.1))) (i:=7) rfl rfl (A7.ne r.c.ok (by omega)) Bo (Bn Ar ((0,0,0):Z3) _ _ 1 (by omega) (by decide) rfl)) rfl ?_)))))
  refine vE (v:=(pP b1 2)) rfl (AA rfl Tryz.underlying26 rfl Tryz.sizeOf24 rfl) rfl (vE rfl (AL (i:=4) (v:=(Value.slice r.c.p r.ss.length r.c.c)) rfl rfl D5.a rfl) rfl (vM rfl rfl rfl (vE (v:=(pP (pB r.c.p) (pO r.c.p+i*3))) rfl (AO (j:=i) rfl rfl r.c.ok Tryz.underlying24 Tryz.sizeOf55 rfl (by omega)) rfl (vE (v:=(pP (pB r.c.p) (pO r.c.p+(i*3+2)))) rfl (AA rfl Tryz.underlying55 rfl Tryz.sizeOf3 (Nat.add_assoc _ _ _)) rfl (vE rfl (Ah (v:=(vI ((r.ss.getD i ((0,0,0):Z3)).2.2))) (i:=7) rfl rfl (A7.ne r.c.ok (by omega)) Bo (Bn Ar ((0,0,0):Z3) _ _ 2 (by omega) (by decide) rfl)) rfl ?_)))))
  refine vE (v:=(aG ([(vI ((r.ss.getD i ((0,0,0):Z3)).1)),(vI ((r.ss.getD i ((0,0,0):Z3)).2.1)),(vI ((r.ss.getD i ((0,0,0):Z3)).2.2))]))) rfl (AU (zs:=Ag ((0,0,0):Z3)) (vs:=[(vI ((r.ss.getD i ((0,0,0):Z3)).1)),(vI ((r.ss.getD i ((0,0,0):Z3)).2.1)),(vI ((r.ss.getD i ((0,0,0):Z3)).2.2))]) (pv:=[(0,(vI ((r.ss.getD i ((0,0,0):Z3)).1))),(1,(vI ((r.ss.getD i ((0,0,0):Z3)).2.1))),(2,(vI ((r.ss.getD i ((0,0,0):Z3)).2.2)))]) (places:=[(0,1),(1,1),(2,1)]) Tryz.zeroValue115 Tryz.underlying115 (λw=>by simp [Tryz.sizeOf3]) rfl rfl) rfl (CZ.imp rfl (AD.openV (V:=λb4=>(Value.slice (some ⟨b4,0,none⟩) 1 1)) (T:=115) (cs:=Ag ((((r.ss.getD i ((0,0,0):Z3)).1),((r.ss.getD i ((0,0,0):Z3)).2.1),((r.ss.getD i ((0,0,0):Z3)).2.2)):Z3)) (AW rfl) (BI (z:=.agg (Ag ((0,0,0):Z3)).toArray) (cs:=Ag ((((r.ss.getD i ((0,0,0):Z3)).1),((r.ss.getD i ((0,0,0):Z3)).2.1),((r.ss.getD i ((0,0,0):Z3)).2.2)):Z3)) (pv:=[(0,(aG ([(vI ((r.ss.getD i ((0,0,0):Z3)).1)),(vI ((r.ss.getD i ((0,0,0):Z3)).2.1)),(vI ((r.ss.getD i ((0,0,0):Z3)).2.2))])))]) Tryz.underlying36 Tryz.sizeOf115 Tryz.zeroValue115 (by decide) (by decide) rfl (IA ((((r.ss.getD i ((0,0,0):Z3)).1),((r.ss.getD i ((0,0,0):Z3)).2.1),((r.ss.getD i ((0,0,0):Z3)).2.2)):Z3))) rfl (AV rfl) λb4=>CZ.back (sl (sl sr)) (CZ.imp rfl (AD.append1 (j:=0) (cs2:=rowsL Ag (ss++[((((r.ss.getD i ((0,0,0):Z3)).1),((r.ss.getD i ((0,0,0):Z3)).2.1),((r.ss.getD i ((0,0,0):Z3)).2.2)):Z3)])) X7 rfl h2 (Ab Ar _) rfl rfl rfl rfl (by decide) (KM (by omega)) (by omega) (by rw [Ca];rfl) rfl λp_1 c_1 ho_1 hne_1=>?_))))
  refine CZ.back (sl (sl sr)) (vE (v:=(pP b3 2)) rfl (AA rfl Tryz.underlying38 rfl Tryz.sizeOf36 rfl) rfl (CZ.cut rfl (Hp 3 (off:=2) (vs:=[(Value.slice p_1 (ss.length+1) c_1)]) (cs':=[(Value.slice none 0 0),(Value.slice ptb r.ts.length ctb),(Value.slice p_1 (ss.length+1) c_1)]) (AW rfl) rfl Tryz.sizeOf36 rfl (OkE.back (sl (sl (sk (sl sr)))) (OkE.nil ?_)))))
  refine AC.subF (sL [1,2,3,4] rfl) (AC.in_normal (AC.then_ (AE.region (AQ rfl (AK (Ac (c:=((i+1:Nat):Int)) rfl rfl (Ae (a:=i) (b:=1) (by omega))) rfl ?_)))))
  refine asg' rfl (AD.nil (AC.subF (sL [1,2,3,4] rfl) ?_))
  rw [show ss.length+1=(ss++[((((r.ss.getD i ((0,0,0):Z3)).1),((r.ss.getD i ((0,0,0):Z3)).2.1),((r.ss.getD i ((0,0,0):Z3)).2.2)):Z3)]).length by simp]
  exact AC.round4 (i+1) p_1 c_1 (ss++[((((r.ss.getD i ((0,0,0):Z3)).1),((r.ss.getD i ((0,0,0):Z3)).2.1),((r.ss.getD i ((0,0,0):Z3)).2.2)):Z3)]) (⟨by omega,(by simpa using ho_1),by rw [hss,JM (d:=(0,0,0)) (by omega)]⟩) (by omega) (sF rfl) (sl sr)
 ·replace hc0:=of_decide_eq_false hc0
  have hsf:ss=r.ss:=by rw [hss,show i=r.ss.length by omega,List.take_length]
  refine AE.exit (AC.then_exit (AC.round4_exit (AC.in_exit (q1 (q4 ?_)))))
  refine asg' rfl (AD.nil (AC.then_ (AE.block ?_)))
  refine AE.lp4 (tg λ(i:Nat) (p1:Option Addr) (c1:Nat) (rs:List RP)=>i<=r.ds.length/\OwnOk p1 rs.length c1/\rs.map (·.p)=r.ps.take i/\∀y∈EW rs,∀b,y.foot=some b->Nw ⟨w,none⟩ S b) (tg λ(i:Nat) (p1:Option Addr) (c1:Nat) (rs:List RP)=>[(1,(pP b1 0)),(2,(pP b2 0)),(3,(pP b3 0)),(5,(vN i))]) (tg λ(i:Nat) (p1:Option Addr) (c1:Nat) (rs:List RP)=>(rowW p2 115 3 ss.length c2 (rowsL Ag ss)::rowW p1 83 6 rs.length c1 (rowsL Cz rs)::Ad b3 38 ([(Value.slice p1 rs.length c1),(Value.slice ptb r.ts.length ctb),(Value.slice p2 ss.length c2)])::rowW ptb 53 3 r.ts.length ctb (rowsL Ag r.ts)::Ad b2 38 ([(Value.slice none 0 0),(Value.slice none 0 0),(Value.slice none 0 0)])::Ad b1 26 (B4 r)::AG r.a.p (rowsL Cn r.ds)::AG r.b.p (rowsL Ag r.ts)::AG r.c.p (rowsL Ag r.ss)::EW rs)) (tg λ(i:Nat) (p1:Option Addr) (c1:Nat) (rs:List RP)=>r.ds.length-i) 0 none 0 ([]:List RP) (⟨Nat.zero_le _,OwnOk.none,rfl,(λy hy=>by cases hy)⟩) (sF rfl) sr (λi p1 c1 rs hJ=>?_)
  obtain ⟨hi,h1,hps,hat⟩:=hJ
  have hpl:rs.length<=24:=by rw [<-List.length_map (f:=(·.p)),hps,List.length_take];omega
  refine AE.seq (q4 (AQ rfl (AK (v:=(pP b1 0)) (AA rfl Tryz.underlying26 rfl Tryz.sizeOf22 rfl) rfl (BJ 5 (Value.slice r.a.p r.ds.length r.a.c) Le rfl (AK (v:=(vN r.ds.length)) (AF rfl Tryz.underlying22) rfl ?_)))))
  refine AK (Ai (c:=(decide (i<r.ds.length))) rfl rfl (CI (a:=i) (b:=r.ds.length))) rfl (AD.nil (AC.subF (sL [1,2,3,5,45] rfl) (AC.then_ ?_)))
  refine AE.cond rfl (λhc1=>?_) (λhc1=>?_)
  ·replace hc1:=of_decide_eq_true hc1
   refine AE.skip (q1 (AE.block (rC [(0,true),(1,true),(2,true),(3,true),(4,true),(5,true),(6,true),(7,false),(8,false),(9,false),(10,true)] 11 [] (sk (sl sr)) (sk (sl sr)) (by kernel_rfl) (λ_ _ d _ _ h=>by cases d<;>exact h) (vE (v:=(pP b3 0)) rfl (AA rfl Tryz.underlying38 rfl Tryz.sizeOf35 rfl) rfl (vE rfl (AL (i:=1) (v:=(Value.slice p1 rs.length c1)) rfl rfl Vj.a rfl) rfl ?_)))))
   refine vE (v:=(pP b1 0)) rfl (AA rfl Tryz.underlying26 rfl Tryz.sizeOf22 rfl) rfl (vE rfl (AL (i:=4) (v:=(Value.slice r.a.p r.ds.length r.a.c)) rfl rfl Le.a rfl) rfl (vM rfl rfl rfl (vE (v:=(pP (pB r.a.p) (pO r.a.p+i*4))) rfl (AO (j:=i) rfl rfl r.a.ok Tryz.underlying22 Tryz.sizeOf101 rfl (by omega)) rfl (vE (v:=(aG (Cn (r.ds.getD i EG)))) rfl (AT (vs:=Cn (r.ds.getD i EG)) (i:=5) rfl rfl (A7.ne r.a.ok (by omega)) U5 (Aq E_ _ _ _ (by omega)) (E_ _)) rfl (CZ.imp rfl ?_)))))
   refine cP (S:=S) (x:=(FU (r.ds.getD i EG))) (args:=[(aG (Cn (r.ds.getD i EG)))]) Tryz.call52 (λw hw=>T7 (r.ds.getD i EG) (r.ok (by omega)) w) rfl rfl rfl λg1 lg1=>CZ.back (sl (sl (sl (sl (sk (sl sr)))))) (CZ.imp rfl (AD.openV (V:=λb4=>(Value.slice (some ⟨b4,0,none⟩) 1 1)) (T:=83) (cs:=QV g1) (AW rfl) (BI (z:=.agg #[(Value.bool false),(Value.slice none 0 0),(Value.slice none 0 0),(Value.bool false),(Value.slice none 0 0),(Value.slice none 0 0)]) (cs:=QV g1) (pv:=[(0,(aG (QV g1)))]) Tryz.underlying35 Tryz.sizeOf83 Tryz.zeroValue83 (by decide) (by decide) rfl (Vf g1)) rfl (AV rfl) λb4=>CZ.back (sl (sl (sl (sl (sl (sk (sl sr))))))) (CZ.imp rfl ?_)))
   refine AD.appendAt 6 (j:=0) (cs2:=rowsL Cz (rs++[(⟨_,g1⟩:RP)])) Xf rfl h1 (Ab IZ _) rfl rfl rfl rfl rfl (by decide) (KM (by omega)) (by omega) (by rw [Ca];rfl) rfl λp_2 c_2 ho_2 hne_2=>CZ.back (sl (sl (sl (sl (sl (sk (sl sr))))))) (vE (v:=(pP b3 0)) rfl (AA rfl Tryz.underlying38 rfl Tryz.sizeOf35 rfl) rfl (CZ.cut rfl (Hp 7 (off:=0) (vs:=[(Value.slice p_2 (rs.length+1) c_2)]) (cs':=[(Value.slice p_2 (rs.length+1) c_2),(Value.slice ptb r.ts.length ctb),(Value.slice p2 ss.length c2)]) (AW rfl) rfl Tryz.sizeOf35 rfl (OkE.back (sl (sl (sl (sl (sl (sk (sl (sl sr)))))))) ?_))))
   refine OkE.nil (AC.subF (sL [1,2,3,5] rfl) (AC.in_normal (AC.then_ (AE.region (AQ rfl ?_)))))
   refine AD.subL (sl sr) (AD.permR (show List.Perm _ (rowW p2 115 3 ss.length c2 (rowsL Ag ss)::rowW p_2 83 6 (rs.length+1) c_2 (rowsL Cz (rs++[(⟨_,g1⟩:RP)]))::Ad b3 38 ([(Value.slice p_2 (rs.length+1) c_2),(Value.slice ptb r.ts.length ctb),(Value.slice p2 ss.length c2)])::rowW ptb 53 3 r.ts.length ctb (rowsL Ag r.ts)::Ad b2 38 ([(Value.slice none 0 0),(Value.slice none 0 0),(Value.slice none 0 0)])::Ad b1 26 (B4 r)::AG r.a.p (rowsL Cn r.ds)::AG r.b.p (rowsL Ag r.ts)::AG r.c.p (rowsL Ag r.ss)::EW (rs++[(⟨_,g1⟩:RP)])) from V6 (⟨_,g1⟩:RP) [rowW p2 115 3 ss.length c2 (rowsL Ag ss),rowW p_2 83 6 (rs.length+1) c_2 (rowsL Cz (rs++[(⟨_,g1⟩:RP)])),Ad b3 38 ([(Value.slice p_2 (rs.length+1) c_2),(Value.slice ptb r.ts.length ctb),(Value.slice p2 ss.length c2)]),rowW ptb 53 3 r.ts.length ctb (rowsL Ag r.ts),Ad b2 38 ([(Value.slice none 0 0),(Value.slice none 0 0),(Value.slice none 0 0)]),Ad b1 26 (B4 r),AG r.a.p (rowsL Cn r.ds),AG r.b.p (rowsL Ag r.ts),AG r.c.p (rowsL Ag r.ss)] rs) (AK (Ac (c:=((i+1:Nat):Int)) rfl rfl (Ae (a:=i) (b:=1) (by omega))) rfl (asg' rfl (AD.nil (AC.subF (sL [1,2,3,5] rfl) ?_)))))
   rw [show rs.length+1=(rs++[(⟨_,g1⟩:RP)]).length by simp]
   exact AC.round4 (i+1) p_2 c_2 (rs++[(⟨_,g1⟩:RP)]) (⟨by omega,(by simpa using ho_2),by rw [List.map_append,hps,MJ r (by omega)];rfl,At.snoc hat lg1⟩) (by omega) (sF rfl) sr
  ·replace hc1:=of_decide_eq_false hc1
   refine AE.exit (AC.then_exit (AC.round4_exit (AC.in_exit (q2 (BG 2 X2 rfl ?_)))))
   exact Hp 4 (off:=0) (vs:=[(Value.slice p1 rs.length c1),(Value.slice ptb r.ts.length ctb),(Value.slice p2 ss.length c2)]) (cs':=[(Value.slice p1 rs.length c1),(Value.slice ptb r.ts.length ctb),(Value.slice p2 ss.length c2)]) (AW rfl) rfl Tryz.sizeOf38 rfl (AD.nil (AC.subF (sL [1,2,3,5] rfl) (AC.then_ (AE.ret (AJ rfl (Au (i:=4) (cs:=[(Value.slice p1 rs.length c1),(Value.slice ptb r.ts.length ctb),(Value.slice p2 ss.length c2)]) rfl rfl Tryz.isAgg38 Tryz.sizeOf38 rfl) (λw hw=>(by rw [<-hsf];exact VV (A:=[rowW p2 115 3 ss.length c2 (rowsL Ag ss),rowW p1 83 6 rs.length c1 (rowsL Cz rs),Ad b3 38 ([(Value.slice p1 rs.length c1),(Value.slice ptb r.ts.length ctb),(Value.slice p2 ss.length c2)]),rowW ptb 53 3 r.ts.length ctb (rowsL Ag r.ts),Ad b2 38 ([(Value.slice p1 rs.length c1),(Value.slice ptb r.ts.length ctb),(Value.slice p2 ss.length c2)]),Ad b1 26 (B4 r),AG r.a.p (rowsL Cn r.ds),AG r.b.p (rowsL Ag r.ts),AG r.c.p (rowsL Ag r.ss)]) hw 1 3 0 rfl rfl rfl h1 otb h2 rfl rfl rfl (by rw [hps,show i=r.ds.length by omega,<-r.pl,List.take_length]) hat rfl)))))))
end
end Go.Proofs.YtpgncndhhhllfaaGreatDoor
