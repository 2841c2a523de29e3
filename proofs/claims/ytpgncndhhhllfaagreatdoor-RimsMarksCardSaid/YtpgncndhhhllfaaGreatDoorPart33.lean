import Derived.Test.YtpgncndhhhllfaaGreatDoorPart06
import Derived.Test.YtpgncndhhhllfaaGreatDoorPart15
import Derived.Test.YtpgncndhhhllfaaGreatDoorPart24
import Derived.Test.YtpgncndhhhllfaaGreatDoorPart25
import Derived.Test.YtpgncndhhhllfaaGreatDoorPart26
import Derived.Test.YtpgncndhhhllfaaGreatDoorPart32
namespace Go.Proofs.YtpgncndhhhllfaaGreatDoor
open Go Go.RowKit Go.Proofs.Tryz
set_option linter.unusedVariables false
set_option linter.unusedSimpArgs false
section
set_option maxRecDepth 100000
theorem YW:ElemT Tryz.prog 36 115 3 24:=⟨Tryz.underlying36,C3 (by kernel_rfl)⟩
theorem Yq:ElemT Tryz.prog 35 83 6 112:=⟨Tryz.underlying35,C3 (by kernel_rfl)⟩
def Dc (q:QD):Bool:=decide (-1000000<=q.n)&&(decide (q.n<=1000000)&&decide (q.d<=1000000))
def GM (r:RW):Bool:=decide (24<r.ds.length)||(decide (24<r.ts.length)||(decide (60<r.ss.length)||r.ds.any λd=>!(Dc d.x&&Dc d.y)))
theorem ML {r:RW} (h:GM r=false):r.ds.length<=24/\r.ts.length<=24/\r.ss.length<=60:=by
 unfold GM at h
 simp only [Bool.or_eq_false_iff,decide_eq_false_iff_not] at h
 omega
theorem TY {r:RW} {i:Nat} (hi:i<r.ds.length) (h:(!Dc (r.ds.getD i EB).x||!Dc (r.ds.getD i EB).y)=true):GM r=true:=by
 unfold GM
 have:(r.ds.any λd=>!(Dc d.x&&Dc d.y))=true:=List.any_eq_true.2 ⟨_,List.getElem_mem hi,by
  rw [List.getD,List.getElem?_eq_getElem hi] at h
  simpa using h⟩
 rw [this];simp
theorem Px {r:RW} (h:24<r.ds.length\/24<r.ts.length\/60<r.ss.length):GM r=true:=by
 unfold GM
 rcases h with h|h|h<;>simp [h]
theorem Qz {r:RW} (h:¬(24<r.ds.length\/24<r.ts.length\/60<r.ss.length)) (hs:∀i,i<r.ds.length->(Dc (r.ds.getD i EB).x&&Dc (r.ds.getD i EB).y)=true):GM r=false:=by
 unfold GM
 have:(r.ds.any λd=>!(Dc d.x&&Dc d.y))=false:=by
  rw [List.any_eq_false]
  intro d hd
  obtain ⟨i,hi,rfl⟩:=List.getElem_of_mem hd
  have:=hs i hi
  rw [List.getD,List.getElem?_eq_getElem hi] at this
  simpa using this
 rw [this]
 simp only [Bool.or_eq_false_iff,decide_eq_false_iff_not]
 exact ⟨by omega,by omega,by omega,trivial⟩
theorem RW.pw (r:RW) (i:Nat) (h:i<r.ps.length):PW (r.ps.getD i ⟨0,0⟩):=by
 rw [r.pl] at h
 rw [Sq r h]
 exact UL (r.ok h)
theorem Kg (q:QD) (w:World)  :Calls Tryz.prog 35 #[(aG (HF q))] w (An w (Value.bool (Dc q))):=by
 refine Ag (args:=[(aG (HF q))]) Tryz.func35 rfl rfl (AY rfl) (AF.subF (sL [0] rfl) (q4 (B9 (cs:=HF q) rfl λb1=>asg' rfl (q3 (sL [1,2] rfl) ?_))))
 refine AH (v:=(pP b1 0)) (AA rfl Tryz.underlying99 rfl Tryz.sizeOf2 rfl) rfl (BD 0 (vI q.n) YI rfl (AH (C_ (c:=(decide ((-1000000:Int)<=q.n))) rfl rfl rfl) rfl (AJ rfl ?_)))
 refine AD.mid (FM:=[(1,(pP b1 0)),(2,(Value.bool false)),(3,(pP b1 0)),(4,(vI q.n)),(5,(Value.bool (decide ((-1000000:Int)<=q.n)))),(6,(Value.bool (decide ((-1000000:Int)<=q.n)))),(10,(Value.bool ((decide ((-1000000:Int)<=q.n))&&(decide (q.n<=(1000000:Int))))))]) (LM:=[Ab b1 99 (HF q)]) 4 ?_ ?_
 ·rcases Bool.eq_false_or_eq_true (decide ((-1000000:Int)<=q.n)) with hg1|hg1
  ·skip
   refine AD.retell (k:=6) (u:=Value.bool true) rfl (by rw [hg1]) ?_
   have hg1':=hg1
   replace hg1':=of_decide_eq_true hg1'
   exact AD.step (v:=(pP b1 0)) (AB rfl) (AA rfl Tryz.underlying99 rfl Tryz.sizeOf2 rfl) rfl (AY rfl) (AD.step (v:=(vI q.n)) (AB rfl) (AP (i:=0) (v:=(vI q.n)) rfl rfl YI.a rfl) rfl (AY rfl) (AD.step (v:=(Value.bool (decide (q.n<=(1000000:Int))))) (AB rfl) (FU (c:=(decide (q.n<=(1000000:Int)))) rfl rfl rfl) rfl (AY rfl) (AH (v:=(Value.bool (decide (q.n<=(1000000:Int))))) (AT rfl rfl) rfl (AD.nil (AC.mid (sS rfl (sS rfl (sS rfl (sS rfl (sS rfl (sS (by first|rfl|(rw [hg1];rfl)|rw [hg1]) (sS (by first|rfl|(rw [hg1];rfl)|rw [hg1]) (sN)))))))) (List.Sublist.refl _))))))
  ·skip
   refine AD.retell (k:=6) (u:=Value.bool false) rfl (by rw [hg1]) ?_
   have hg1':=hg1
   replace hg1':=of_decide_eq_false hg1'
   exact AD.skip (AG rfl) rfl (AY rfl) (AD.skip (AG rfl) rfl (AY rfl) (AD.skip (AG rfl) rfl (AY rfl) (AH (v:=(Value.bool false)) (AV rfl rfl) rfl (AD.nil (AC.mid (sS rfl (sS rfl (sS rfl (sS rfl (sS rfl (sS (by first|rfl|(rw [hg1];rfl)|rw [hg1]) (sS (by first|rfl|(rw [hg1];rfl)|rw [hg1]) (sN)))))))) (List.Sublist.refl _))))))
 refine AJ rfl ?_
 refine AD.mid (FM:=[(1,(pP b1 0)),(2,(Value.bool false)),(3,(pP b1 0)),(4,(vI q.n)),(5,(Value.bool (decide ((-1000000:Int)<=q.n)))),(6,(Value.bool (decide ((-1000000:Int)<=q.n)))),(10,(Value.bool ((decide ((-1000000:Int)<=q.n))&&(decide (q.n<=(1000000:Int)))))),(11,(Value.bool ((decide ((-1000000:Int)<=q.n))&&(decide (q.n<=(1000000:Int)))))),(15,(Value.bool (((decide ((-1000000:Int)<=q.n))&&(decide (q.n<=(1000000:Int))))&&(decide (q.d<=1000000)))))]) (LM:=[Ab b1 99 (HF q)]) 4 ?_ ?_
 ·rcases Bool.eq_false_or_eq_true ((decide ((-1000000:Int)<=q.n))&&(decide (q.n<=(1000000:Int)))) with hg2|hg2
  ·skip
   refine AD.retell (k:=11) (u:=Value.bool true) rfl (by rw [hg2]) ?_
   have hg2':=hg2
   simp only [Bool.and_eq_true,Bool.or_eq_true,Bool.and_eq_false_iff,Bool.or_eq_false_iff,Bool.not_eq_true',Bool.not_eq_false',decide_eq_true_eq,decide_eq_false_iff_not] at hg2'
   exact AD.step (v:=(pP b1 1)) (AB rfl) (AA rfl Tryz.underlying99 rfl Tryz.sizeOf97 rfl) rfl (AY rfl) (AD.step (v:=(vK .u32 q.d)) (AB rfl) (AP (i:=0) (v:=(vK .u32 q.d)) rfl rfl W9.a rfl) rfl (AY rfl) (AD.step (v:=(Value.bool (decide (q.d<=1000000)))) (AB rfl) (FU (c:=(decide (q.d<=1000000))) rfl rfl (S7 (a:=q.d) (b:=1000000))) rfl (AY rfl) (AH (v:=(Value.bool (decide (q.d<=1000000)))) (AT rfl rfl) rfl (AD.nil (AC.mid (sS rfl (sS rfl (sS rfl (sS rfl (sS rfl (sS rfl (sS rfl (sS (by first|rfl|(rw [hg2];rfl)|rw [hg2]) (sS (by first|rfl|(rw [hg2];rfl)|rw [hg2]) (sN)))))))))) (List.Sublist.refl _))))))
  ·skip
   refine AD.retell (k:=11) (u:=Value.bool false) rfl (by rw [hg2]) ?_
   have hg2':=hg2
   simp only [Bool.and_eq_true,Bool.or_eq_true,Bool.and_eq_false_iff,Bool.or_eq_false_iff,Bool.not_eq_true',Bool.not_eq_false',decide_eq_true_eq,decide_eq_false_iff_not] at hg2'
   exact AD.skip (AG rfl) rfl (AY rfl) (AD.skip (AG rfl) rfl (AY rfl) (AD.skip (AG rfl) rfl (AY rfl) (AH (v:=(Value.bool false)) (AV rfl rfl) rfl (AD.nil (AC.mid (sS rfl (sS rfl (sS rfl (sS rfl (sS rfl (sS rfl (sS rfl (sS (by first|rfl|(rw [hg2];rfl)|rw [hg2]) (sS (by first|rfl|(rw [hg2];rfl)|rw [hg2]) (sN)))))))))) (List.Sublist.refl _))))))
 exact asg' rfl (AD.nil (AC.subF (sL [2] rfl) (AC.then_ (AF.ret (AN rfl (AQ (v:=(Value.bool (((decide ((-1000000:Int)<=q.n))&&(decide (q.n<=(1000000:Int))))&&(decide (q.d<=1000000))))) rfl) (λw hw=>⟨by unfold Dc;simp [Bool.and_assoc],hw.out⟩))))))
theorem HE (r:RW) (w:World) {S:Nat->Prop} (hr:Ro S w r):Calls Tryz.prog 7 #[(aG (D7 r))] w (An w (Value.bool (GM r))):=by
 have lr:=DF (W:=w) hr
 refine Ah (args:=[(aG (D7 r))]) (L:=[AI r.a.p (rowsL Es r.ds),AI r.b.p (rowsL Al r.ts),AI r.c.p (rowsL Al r.ss)]) Tryz.func7 rfl rfl (AY rfl) (EV hr Ar) (AF.subF (sL [0] rfl) (q4 (B9 (cs:=D7 r) rfl λb1=>asg' rfl (q6 (sL [1,2] rfl) ?_))))
 refine q4 (AH (v:=(pP b1 0)) (AA rfl Tryz.underlying26 rfl Tryz.sizeOf22 rfl) rfl (BD 0 (Value.slice r.a.p r.ds.length r.a.c) M8 rfl (AH (v:=(vN r.ds.length)) (AE rfl Tryz.underlying22) rfl (AH (Bg (c:=(decide (24<r.ds.length))) rfl rfl (CB (a:=24) (b:=r.ds.length))) rfl (AJ rfl ?_)))))
 refine AD.mid (FM:=[(1,(pP b1 0)),(2,(Value.bool false)),(4,(pP b1 0)),(5,(Value.slice r.a.p r.ds.length r.a.c)),(6,(vN r.ds.length)),(7,(Value.bool (decide (24<r.ds.length)))),(8,(Value.bool (decide (24<r.ds.length)))),(13,(Value.bool ((decide (24<r.ds.length))||(decide (24<r.ts.length)))))]) (LM:=[Ab b1 26 (D7 r),AI r.a.p (rowsL Es r.ds),AI r.b.p (rowsL Al r.ts),AI r.c.p (rowsL Al r.ss)]) 5 ?_ ?_
 ·rcases Bool.eq_false_or_eq_true (decide (24<r.ds.length)) with hg1|hg1
  ·skip
   refine AD.retell (k:=8) (u:=Value.bool true) rfl (by rw [hg1]) ?_
   have hg1':=hg1
   replace hg1':=of_decide_eq_true hg1'
   exact AD.skip (AG rfl) rfl (AY rfl) (AD.skip (AG rfl) rfl (AY rfl) (AD.skip (AG rfl) rfl (AY rfl) (AD.skip (AG rfl) rfl (AY rfl) (AH (v:=(Value.bool true)) (AT rfl rfl) rfl (AD.nil (AC.mid (sS rfl (sS rfl (sS rfl (sS rfl (sS rfl (sS rfl (sS (by first|rfl|(rw [hg1];rfl)|rw [hg1]) (sS (by first|rfl|(rw [hg1];rfl)|rw [hg1]) (sN))))))))) (List.Sublist.refl _)))))))
  ·skip
   refine AD.retell (k:=8) (u:=Value.bool false) rfl (by rw [hg1]) ?_
   have hg1':=hg1
   replace hg1':=of_decide_eq_false hg1'
   exact AD.step (v:=(pP b1 1)) (AB rfl) (AA rfl Tryz.underlying26 rfl Tryz.sizeOf23 rfl) rfl (AY rfl) (AD.step (v:=(Value.slice r.b.p r.ts.length r.b.c)) (AB rfl) (AP (i:=0) (v:=(Value.slice r.b.p r.ts.length r.b.c)) rfl rfl EU.a rfl) rfl (AY rfl) (AD.step (v:=(vN r.ts.length)) (AB rfl) (AE rfl Tryz.underlying23) rfl (AY rfl) (AD.step (v:=(Value.bool (decide (24<r.ts.length)))) (AB rfl) (Bg (c:=(decide (24<r.ts.length))) rfl rfl (CB (a:=24) (b:=r.ts.length))) rfl (AY rfl) (AH (v:=(Value.bool (decide (24<r.ts.length)))) (AV rfl rfl) rfl (AD.nil (AC.mid (sS rfl (sS rfl (sS rfl (sS rfl (sS rfl (sS rfl (sS (by first|rfl|(rw [hg1];rfl)|rw [hg1]) (sS (by first|rfl|(rw [hg1];rfl)|rw [hg1]) (sN))))))))) (List.Sublist.refl _)))))))
 refine AJ rfl ?_
 refine AD.mid (FM:=[(1,(pP b1 0)),(2,(Value.bool false)),(4,(pP b1 0)),(5,(Value.slice r.a.p r.ds.length r.a.c)),(6,(vN r.ds.length)),(7,(Value.bool (decide (24<r.ds.length)))),(8,(Value.bool (decide (24<r.ds.length)))),(13,(Value.bool ((decide (24<r.ds.length))||(decide (24<r.ts.length))))),(14,(Value.bool ((decide (24<r.ds.length))||(decide (24<r.ts.length))))),(19,(Value.bool (((decide (24<r.ds.length))||(decide (24<r.ts.length)))||(decide (60<r.ss.length)))))]) (LM:=[Ab b1 26 (D7 r),AI r.a.p (rowsL Es r.ds),AI r.b.p (rowsL Al r.ts),AI r.c.p (rowsL Al r.ss)]) 5 ?_ ?_
 ·rcases Bool.eq_false_or_eq_true ((decide (24<r.ds.length))||(decide (24<r.ts.length))) with hg2|hg2
  ·skip
   refine AD.retell (k:=14) (u:=Value.bool true) rfl (by rw [hg2]) ?_
   have hg2':=hg2
   simp only [Bool.and_eq_true,Bool.or_eq_true,Bool.and_eq_false_iff,Bool.or_eq_false_iff,Bool.not_eq_true',Bool.not_eq_false',decide_eq_true_eq,decide_eq_false_iff_not] at hg2'
   exact AD.skip (AG rfl) rfl (AY rfl) (AD.skip (AG rfl) rfl (AY rfl) (AD.skip (AG rfl) rfl (AY rfl) (AD.skip (AG rfl) rfl (AY rfl) (AH (v:=(Value.bool true)) (AT rfl rfl) rfl (AD.nil (AC.mid (sS rfl (sS rfl (sS rfl (sS rfl (sS rfl (sS rfl (sS rfl (sS rfl (sS (by first|rfl|(rw [hg2];rfl)|rw [hg2]) (sS (by first|rfl|(rw [hg2];rfl)|rw [hg2]) (sN))))))))))) (List.Sublist.refl _)))))))
  ·skip
   refine AD.retell (k:=14) (u:=Value.bool false) rfl (by rw [hg2]) ?_
   have hg2':=hg2
   simp only [Bool.and_eq_true,Bool.or_eq_true,Bool.and_eq_false_iff,Bool.or_eq_false_iff,Bool.not_eq_true',Bool.not_eq_false',decide_eq_true_eq,decide_eq_false_iff_not] at hg2'
   exact AD.step (v:=(pP b1 2)) (AB rfl) (AA rfl Tryz.underlying26 rfl Tryz.sizeOf24 rfl) rfl (AY rfl) (AD.step (v:=(Value.slice r.c.p r.ss.length r.c.c)) (AB rfl) (AP (i:=0) (v:=(Value.slice r.c.p r.ss.length r.c.c)) rfl rfl Cz.a rfl) rfl (AY rfl) (AD.step (v:=(vN r.ss.length)) (AB rfl) (AE rfl Tryz.underlying24) rfl (AY rfl) (AD.step (v:=(Value.bool (decide (60<r.ss.length)))) (AB rfl) (Bg (c:=(decide (60<r.ss.length))) rfl rfl (CB (a:=60) (b:=r.ss.length))) rfl (AY rfl) (AH (v:=(Value.bool (decide (60<r.ss.length)))) (AV rfl rfl) rfl (AD.nil (AC.mid (sS rfl (sS rfl (sS rfl (sS rfl (sS rfl (sS rfl (sS rfl (sS rfl (sS (by first|rfl|(rw [hg2];rfl)|rw [hg2]) (sS (by first|rfl|(rw [hg2];rfl)|rw [hg2]) (sN))))))))))) (List.Sublist.refl _)))))))
 refine AD.nil (AC.subF (sL [1,2,19] rfl) (AC.then_ ?_))
 refine AF.cond rfl (λhc0=>?_) (λhc0=>?_)
 ·simp only [Bool.and_eq_true,Bool.or_eq_true,Bool.and_eq_false_iff,Bool.or_eq_false_iff,Bool.not_eq_true',Bool.not_eq_false',decide_eq_true_eq,decide_eq_false_iff_not] at hc0
  have hgr:GM r=true:=Px (by grind)
  exact q4 (asg' rfl (AD.nil (AC.then_ (AF.ret (AC.then_ret (AN rfl (AQ (v:=(Value.bool true)) rfl) (λw hw=>⟨by rw [hgr],hw.out⟩)))))))
 ·simp only [Bool.and_eq_true,Bool.or_eq_true,Bool.and_eq_false_iff,Bool.or_eq_false_iff,Bool.not_eq_true',Bool.not_eq_false',decide_eq_true_eq,decide_eq_false_iff_not] at hc0
  have hgl:¬(24<r.ds.length\/24<r.ts.length\/60<r.ss.length):=by grind
  refine AF.skip (q1 (q4 (asg' rfl (AD.nil (AC.then_ ?_)))))
  refine AF.block ?_
  refine AF.lp1 (tg λ(i:Nat)=>i<=r.ds.length/\∀j,j<i->(Dc (r.ds.getD j EB).x&&Dc (r.ds.getD j EB).y)=true) (tg λ(i:Nat)=>[(1,(pP b1 0)),(3,(vN i))]) (tg λ(i:Nat)=>[Ab b1 26 (D7 r),AI r.a.p (rowsL Es r.ds),AI r.b.p (rowsL Al r.ts),AI r.c.p (rowsL Al r.ss)]) (tg λ(i:Nat)=>r.ds.length-i) 0 (⟨Nat.zero_le _,λj h=>absurd h (Nat.not_lt_zero _)⟩) (sF rfl) sr (λi hJ=>?_)
  obtain ⟨hi,hs⟩:=hJ
  refine AF.seq (q4 (AJ rfl (AH (v:=(pP b1 0)) (AA rfl Tryz.underlying26 rfl Tryz.sizeOf22 rfl) rfl (BD 0 (Value.slice r.a.p r.ds.length r.a.c) M8 rfl (AH (v:=(vN r.ds.length)) (AE rfl Tryz.underlying22) rfl ?_)))))
  refine AH (Ad (c:=(decide (i<r.ds.length))) rfl rfl (CB (a:=i) (b:=r.ds.length))) rfl (AD.nil (AC.subF (sL [1,3,24] rfl) (AC.then_ ?_)))
  refine AF.cond rfl (λhc1=>?_) (λhc1=>?_)
  ·replace hc1:=of_decide_eq_true hc1
   refine AF.skip (q1 (AF.block (q4 (AH (v:=(pP b1 0)) (AA rfl Tryz.underlying26 rfl Tryz.sizeOf22 rfl) rfl (BD 0 (Value.slice r.a.p r.ds.length r.a.c) M8 rfl ?_)))))
   refine AJ rfl (AH (v:=(pP (pB r.a.p) (pO r.a.p+i*4))) (AL (j:=i) rfl rfl r.a.ok Tryz.underlying22 Tryz.sizeOf101 rfl (by omega)) rfl (AH (v:=(pP (pB r.a.p) (pO r.a.p+(i*4+0)))) (AA rfl Tryz.underlying101 rfl Tryz.sizeOf99 (Nat.add_assoc _ _ _)) rfl (AH (v:=(aG (HF ((r.ds.getD i EB).x)))) (Ae (vs:=HF ((r.ds.getD i EB).x)) (i:=1) rfl rfl (A6.ne r.a.ok (by omega)) QB (JZ FO EB _ _ 0 2 (by omega) (by decide) rfl) rfl) rfl (ck' Tryz.call35 (Kg ((r.ds.getD i EB).x)) rfl (AH (Bw (c:=(!(Dc ((r.ds.getD i EB).x)))) rfl rfl) rfl ?_)))))
   refine AJ rfl ?_
   refine AD.mid (FM:=[(1,(pP b1 0)),(3,(vN i)),(27,(pP b1 0)),(28,(Value.slice r.a.p r.ds.length r.a.c)),(29,(vN i)),(30,(pP (pB r.a.p) (pO r.a.p+i*4))),(31,(pP (pB r.a.p) (pO r.a.p+(i*4+0)))),(32,(aG (HF ((r.ds.getD i EB).x)))),(33,(Value.bool (Dc ((r.ds.getD i EB).x)))),(34,(Value.bool (!(Dc ((r.ds.getD i EB).x))))),(35,(Value.bool (!(Dc ((r.ds.getD i EB).x))))),(44,(Value.bool ((!(Dc ((r.ds.getD i EB).x)))||(!(Dc ((r.ds.getD i EB).y))))))]) (LM:=[Ab b1 26 (D7 r),AI r.a.p (rowsL Es r.ds),AI r.b.p (rowsL Al r.ts),AI r.c.p (rowsL Al r.ss)]) 9 ?_ ?_
   ·rcases Bool.eq_false_or_eq_true (!(Dc ((r.ds.getD i EB).x))) with hg3|hg3
    ·skip
     refine AD.retell (k:=35) (u:=Value.bool true) rfl (by rw [hg3]) ?_
     have hg3':=hg3
     simp only [Bool.and_eq_true,Bool.or_eq_true,Bool.and_eq_false_iff,Bool.or_eq_false_iff,Bool.not_eq_true',Bool.not_eq_false',decide_eq_true_eq,decide_eq_false_iff_not] at hg3'
     refine AD.skip (AG rfl) rfl (AY rfl) (AD.skip (AG rfl) rfl (AY rfl) (AD.skip (AG rfl) rfl (AY rfl) (AD.skip (AG rfl) rfl (AY rfl) (AD.skip (AG rfl) rfl (AY rfl) (AD.skip (AG rfl) rfl (AY rfl) ?_)))))
     exact AD.skip (AG rfl) rfl (AY rfl) (AD.skip (AG rfl) rfl (AY rfl) (AH (v:=(Value.bool true)) (AT rfl rfl) rfl (AD.nil (AC.mid (sS rfl (sS rfl (sS rfl (sS rfl (sS rfl (sS rfl (sS rfl (sS rfl (sS rfl (sS rfl (sS (by first|rfl|(rw [hg3];rfl)|rw [hg3]) (sS (by first|rfl|(rw [hg3];rfl)|rw [hg3]) (sN))))))))))))) (List.Sublist.refl _)))))
    ·skip
     refine AD.retell (k:=35) (u:=Value.bool false) rfl (by rw [hg3]) ?_
     have hg3':=hg3
     simp only [Bool.and_eq_true,Bool.or_eq_true,Bool.and_eq_false_iff,Bool.or_eq_false_iff,Bool.not_eq_true',Bool.not_eq_false',decide_eq_true_eq,decide_eq_false_iff_not] at hg3'
     refine AD.step (v:=(pP b1 0)) (AB rfl) (AA rfl Tryz.underlying26 rfl Tryz.sizeOf22 rfl) rfl (AY rfl) (AD.step (v:=(Value.slice r.a.p r.ds.length r.a.c)) (AB rfl) (AP (i:=0) (v:=(Value.slice r.a.p r.ds.length r.a.c)) rfl rfl M8.a rfl) rfl (AY rfl) (AD.step (v:=(vN i)) (AB rfl) (Ai rfl) rfl (AY rfl) (AD.step (v:=(pP (pB r.a.p) (pO r.a.p+i*4))) (AB rfl) (AL (j:=i) rfl rfl r.a.ok Tryz.underlying22 Tryz.sizeOf101 rfl (by omega)) rfl (AY rfl) (AD.step (v:=(pP (pB r.a.p) (pO r.a.p+(i*4+2)))) (AB rfl) (AA rfl Tryz.underlying101 rfl Tryz.sizeOf99 (Nat.add_assoc _ _ _)) rfl (AY rfl) (AD.step (v:=(aG (HF ((r.ds.getD i EB).y)))) (AB rfl) (Ae (vs:=HF ((r.ds.getD i EB).y)) (i:=1) rfl rfl (A6.ne r.a.ok (by omega)) QB (JZ FO EB _ _ 2 2 (by omega) (by decide) rfl) rfl) rfl (AY rfl) ?_)))))
     exact AD.call (v:=(Value.bool (Dc ((r.ds.getD i EB).y)))) (AB rfl) (Ay (args:=[(aG (HF ((r.ds.getD i EB).y)))]) rfl rfl Tryz.call35) (λw hw=>Kg ((r.ds.getD i EB).y) w) rfl (AY rfl) (AD.step (v:=(Value.bool (!(Dc ((r.ds.getD i EB).y))))) (AB rfl) (Bw (c:=(!(Dc ((r.ds.getD i EB).y)))) rfl rfl) rfl (AY rfl) (AH (v:=(Value.bool (!(Dc ((r.ds.getD i EB).y))))) (AV rfl rfl) rfl (AD.nil (AC.mid (sS rfl (sS rfl (sS rfl (sS rfl (sS rfl (sS rfl (sS rfl (sS rfl (sS rfl (sS rfl (sS (by first|rfl|(rw [hg3];rfl)|rw [hg3]) (sS (by first|rfl|(rw [hg3];rfl)|rw [hg3]) (sN))))))))))))) (List.Sublist.refl _)))))
   refine AD.nil (AC.subF (sL [1,3,44] rfl) (AC.then_ ?_))
   refine AF.cond rfl (λhc2=>?_) (λhc2=>?_)
   ·simp only [Bool.and_eq_true,Bool.or_eq_true,Bool.and_eq_false_iff,Bool.or_eq_false_iff,Bool.not_eq_true',Bool.not_eq_false',decide_eq_true_eq,decide_eq_false_iff_not] at hc2
    have hgr:GM r=true:=TY (by omega) (by grind)
    refine q4 (asg' rfl (AD.nil (AC.then_ (AF.ret (AC.in_ret ?_)))))
    exact AC.then_ret (AC.round1_ret (AC.in_ret (AC.then_ret (AN rfl (AQ (v:=(Value.bool true)) rfl) (λw hw=>⟨by rw [hgr],hw.out⟩)))))
   ·simp only [Bool.and_eq_true,Bool.or_eq_true,Bool.and_eq_false_iff,Bool.or_eq_false_iff,Bool.not_eq_true',Bool.not_eq_false',decide_eq_true_eq,decide_eq_false_iff_not] at hc2
    have hsj:(Dc (r.ds.getD i EB).x&&Dc (r.ds.getD i EB).y)=true:=by grind
    refine AF.skip (AC.in_normal (AC.then_ (AF.region (AJ rfl (AH (AW (c:=((i+1:Nat):Int)) rfl rfl (AR (a:=i) (b:=1) (by omega))) rfl ?_)))))
    exact asg' rfl (AD.nil (AC.subF (sL [1,3] rfl) (AC.round1 (i+1) (⟨by omega,λj hj=>by rcases Nat.lt_or_ge j i with k|k;exact hs j k;rw [show j=i by omega];exact hsj⟩) (by omega) (sF rfl) sr)))
  ·replace hc1:=of_decide_eq_false hc1
   have hgr:GM r=false:=Qz hgl λj hj=>hs j (by omega)
   refine AF.exit (AC.then_exit (AC.round1_exit (AC.in_exit (q2 (asg' rfl ?_)))))
   exact AD.nil (AC.then_ (AF.ret (AN rfl (AQ (v:=(Value.bool false)) rfl) (λw hw=>⟨by rw [hgr],hw.out⟩))))
theorem Io (x0:Pt):Instr.fill (λi=>some (i*10,10)) ((Array.range (1*10)).map ((Value.agg (BE (⟨0,0⟩:Pt)).toArray).cells[·%(Value.agg (BE (⟨0,0⟩:Pt)).toArray).cells.size]!)) [(0,.agg (BE x0).toArray)]=some (BE x0).toArray:=by kernel_rfl
set_option maxHeartbeats 1000000 in
theorem MY (r:RW) (hl1:r.ds.length<=24) (hl2:r.ts.length<=24) (hl3:r.ss.length<=60) (w:World) {S:Nat->Prop} (hr:Ro S w r):Calls Tryz.prog 9 #[(aG (D7 r))] w (Av (MZ r.ps r.ts r.ss) S w):=by
 have lr:=DF (W:=w) hr
 refine Ah (args:=[(aG (D7 r))]) (L:=[AI r.a.p (rowsL Es r.ds),AI r.b.p (rowsL Al r.ts),AI r.c.p (rowsL Al r.ss)]) Tryz.func9 rfl rfl (AY rfl) (EV hr Ar) (AF.subF (sL [0] rfl) (q4 (B9 (cs:=D7 r) rfl λb1=>al HZ rfl λb2=>q6 (sL [1,2] rfl) ?_)))
 refine rN [(0,true),(1,true),(3,true),(4,true),(2,false),(5,false),(6,true)] [⟨7,3,30,[(Value.slice none 0 0),(Value.slice none 0 0),(Value.slice none 0 0)]⟩] [(8,false)] sr (by kernel_rfl) (λ_ _ d _ _ h=>by cases d<;>exact h) (QF rfl rfl HZ rfl (Si)) rfl (Qn (v:=(pP b1 1)) rfl (AA rfl Tryz.underlying26 rfl Tryz.sizeOf23 rfl) rfl (VC 1 (Value.slice r.b.p r.ts.length r.b.c) EU rfl (Qn (v:=(pP b1 2)) rfl (AA rfl Tryz.underlying26 rfl Tryz.sizeOf24 rfl) rfl (VC 1 (Value.slice r.c.p r.ss.length r.c.c) Cz rfl (Cb.imp rfl λEF EL=>?_)))))
 refine AD.nilRow 53 3 (AD.appendE0 XC rfl OwnOk.none rfl (K_ (k:=4) rfl r.b.ok) (Af Ak _) (Dh HL _) (GR (by omega)) (by omega) rfl λptb ctb otb=>Cb.back1 (sl sr) rfl (Cb.imp rfl λEF EL=>AD.nilRow 55 3 (AD.appendE0 Ud rfl OwnOk.none rfl (K_ (k:=6) rfl r.c.ok) (Af Ak _) (Dh HL _) (GR (by omega)) (by omega) rfl λpsb csb osb=>?_)))
 refine Cb.back1 (sl (sl sr)) rfl (Qn (v:=(aG ([(Value.slice none 0 0),(Value.slice ptb r.ts.length ctb),(Value.slice psb r.ss.length csb)]))) rfl (AU (zs:=[(Value.slice none 0 0),(Value.slice none 0 0),(Value.slice none 0 0)]) (vs:=[(Value.slice none 0 0),(Value.slice ptb r.ts.length ctb),(Value.slice psb r.ss.length csb)]) (pv:=[(1,(Value.slice ptb r.ts.length ctb)),(2,(Value.slice psb r.ss.length csb))]) (places:=[(0,1),(1,1),(2,1)]) Tryz.zeroValue30 Tryz.underlying30 (λw=>by simp [Tryz.sizeOf23,Tryz.sizeOf24,Tryz.sizeOf28]) rfl rfl) rfl (Cb.news1 λb3=>OkE.imp rfl (BC rfl Tryz.sizeOf30 rfl (AD.nilRow 51 10 ?_))))
 refine OkE.back (sl (sl (sl (sl sr)))) (OkE.nil (AC.subF (sL [1,2,3] rfl) (q1 (q4 (asg' rfl ?_)))))
 refine AD.nil (AC.then_ (AF.block ?_))
 refine AF.lp4 (tg λ(i:Nat) (p1:Option Addr) (c1:Nat) (ps:List Pt)=>i<=r.ds.length/\OwnOk p1 ps.length c1/\ps=r.ps.take i) (tg λ(i:Nat) (p1:Option Addr) (c1:Nat) (ps:List Pt)=>[(1,(pP b1 0)),(2,(pP b2 0)),(3,(pP b3 0)),(4,(vN i))]) (tg λ(i:Nat) (p1:Option Addr) (c1:Nat) (ps:List Pt)=>[rowW p1 51 10 ps.length c1 (rowsL BE ps),Ab b3 30 ([(Value.slice p1 ps.length c1),(Value.slice ptb r.ts.length ctb),(Value.slice psb r.ss.length csb)]),rowW psb 55 3 r.ss.length csb (rowsL Al r.ss),rowW ptb 53 3 r.ts.length ctb (rowsL Al r.ts),Ab b2 30 ([(Value.slice none 0 0),(Value.slice none 0 0),(Value.slice none 0 0)]),Ab b1 26 (D7 r),AI r.a.p (rowsL Es r.ds),AI r.b.p (rowsL Al r.ts),AI r.c.p (rowsL Al r.ss)]) (tg λ(i:Nat) (p1:Option Addr) (c1:Nat) (ps:List Pt)=>r.ds.length-i) 0 none 0 ([]:List Pt) (⟨Nat.zero_le _,OwnOk.none,rfl⟩) (sF rfl) sr (λi p1 c1 ps hJ=>?_)
 obtain ⟨hi,h1,hps⟩:=hJ
 have hpl:ps.length<=24:=by rw [hps,List.length_take];omega
 refine AF.seq (q4 (AJ rfl (AH (v:=(pP b1 0)) (AA rfl Tryz.underlying26 rfl Tryz.sizeOf22 rfl) rfl (BD 5 (Value.slice r.a.p r.ds.length r.a.c) M8 rfl (AH (v:=(vN r.ds.length)) (AE rfl Tryz.underlying22) rfl ?_)))))
 refine AH (Ad (c:=(decide (i<r.ds.length))) rfl rfl (CB (a:=i) (b:=r.ds.length))) rfl (AD.nil (AC.subF (sL [1,2,3,4,16] rfl) (AC.then_ ?_)))
 refine AF.cond rfl (λhc0=>?_) (λhc0=>?_)
 ·replace hc0:=of_decide_eq_true hc0
  refine AF.skip (q1 (AF.block (rC [(0,true),(1,true),(2,true),(3,true),(4,true),(5,true),(6,true),(7,false),(8,false),(9,false),(10,true)] 11 [] (sl sr) (sl sr) (by kernel_rfl) (λ_ _ d _ _ h=>by cases d<;>exact h) (vE (v:=(pP b3 0)) rfl (AA rfl Tryz.underlying30 rfl Tryz.sizeOf28 rfl) rfl (vE rfl (AP (i:=0) (v:=(Value.slice p1 ps.length c1)) rfl rfl LT.a rfl) rfl ?_)))))
  refine vE (v:=(pP b1 0)) rfl (AA rfl Tryz.underlying26 rfl Tryz.sizeOf22 rfl) rfl (vE rfl (AP (i:=4) (v:=(Value.slice r.a.p r.ds.length r.a.c)) rfl rfl M8.a rfl) rfl (vM rfl rfl rfl (vE (v:=(pP (pB r.a.p) (pO r.a.p+i*4))) rfl (AL (j:=i) rfl rfl r.a.ok Tryz.underlying22 Tryz.sizeOf101 rfl (by omega)) rfl (vE (v:=(aG (Es (r.ds.getD i EB)))) rfl (Ae (vs:=Es (r.ds.getD i EB)) (i:=5) rfl rfl (A6.ne r.a.ok (by omega)) Vf (Ax FO _ _ _ (by omega)) (FO _)) rfl (DG.imp rfl ?_)))))
  refine ck' Tryz.call39 (Wa (r.ds.getD i EB) (r.ok (by omega))) rfl (DG.back (sl sr) (DG.imp rfl (AD.openV (V:=λb4=>(Value.slice (some ⟨b4,0,none⟩) 1 1)) (T:=51) (cs:=BE (F4 (r.ds.getD i EB))) (AO rfl) (Am (z:=.agg (BE (⟨0,0⟩:Pt)).toArray) (cs:=BE (F4 (r.ds.getD i EB))) (pv:=[(0,(aG (BE (F4 (r.ds.getD i EB)))))]) Tryz.underlying28 Tryz.sizeOf51 Tryz.zeroValue51 (by decide) (by decide) rfl (Io (F4 (r.ds.getD i EB)))) rfl (AY rfl) λb4=>DG.back (sl (sl sr)) (DG.imp rfl ?_))))
  refine AD.append1 (j:=0) (cs2:=rowsL BE (ps++[F4 (r.ds.getD i EB)])) X0 rfl h1 (Af Ck _) rfl rfl rfl rfl (by decide) (GR (by omega)) (by omega) (by rw [Bz];rfl) rfl λp_1 c_1 ho_1 hne_1=>DG.back (sl (sl sr)) (vE (v:=(pP b3 0)) rfl (AA rfl Tryz.underlying30 rfl Tryz.sizeOf28 rfl) rfl (DG.cut rfl (IM 2 (off:=0) (vs:=[(Value.slice p_1 (ps.length+1) c_1)]) (cs':=[(Value.slice p_1 (ps.length+1) c_1),(Value.slice ptb r.ts.length ctb),(Value.slice psb r.ss.length csb)]) (AO rfl) rfl Tryz.sizeOf28 rfl (OkE.back (sl (sl (sl sr))) ?_))))
  refine OkE.nil (AC.subF (sL [1,2,3,4] rfl) (AC.in_normal (AC.then_ (AF.region (AJ rfl ?_)))))
  refine AH (AW (c:=((i+1:Nat):Int)) rfl rfl (AR (a:=i) (b:=1) (by omega))) rfl (asg' rfl (AD.nil (AC.subF (sL [1,2,3,4] rfl) ?_)))
  rw [show ps.length+1=(ps++[F4 (r.ds.getD i EB)]).length by simp]
  exact AC.round4 (i+1) p_1 c_1 (ps++[F4 (r.ds.getD i EB)]) (⟨by omega,(by simpa using ho_1),by rw [hps,Lz r (by omega)]⟩) (by omega) (sF rfl) (sl sr)
 ·replace hc0:=of_decide_eq_false hc0
  refine AF.exit (AC.then_exit (AC.round4_exit (AC.in_exit (q2 (BF 1 B1 rfl ?_)))))
  exact IM 4 (off:=0) (vs:=[(Value.slice p1 ps.length c1),(Value.slice ptb r.ts.length ctb),(Value.slice psb r.ss.length csb)]) (cs':=[(Value.slice p1 ps.length c1),(Value.slice ptb r.ts.length ctb),(Value.slice psb r.ss.length csb)]) (AO rfl) rfl Tryz.sizeOf30 rfl (AD.nil (AC.subF (sL [1,2,3,4] rfl) (AC.then_ (AF.ret (AN rfl (BB (i:=4) (cs:=[(Value.slice p1 ps.length c1),(Value.slice ptb r.ts.length ctb),(Value.slice psb r.ss.length csb)]) rfl rfl Tryz.isAgg30 Tryz.sizeOf30 rfl) (λw hw=>(by have hpf:ps=r.ps:=(by rw [hps,show i=r.ds.length by omega,<-r.pl,List.take_length]);subst hpf;exact X1 hw 0 3 2 rfl rfl rfl h1 otb osb rfl rfl rfl rfl)))))))
theorem IH (x0:Z3):Instr.fill (λi=>some (i*3,3)) ((Array.range (1*3)).map ((Value.agg (Al ((0,0,0):Z3)).toArray).cells[·%(Value.agg (Al ((0,0,0):Z3)).toArray).cells.size]!)) [(0,.agg (Al x0).toArray)]=some (Al x0).toArray:=by kernel_rfl
set_option maxHeartbeats 1000000 in
theorem PZ (r:RW) (hl1:r.ds.length<=24) (hl2:r.ts.length<=24) (hl3:r.ss.length<=60) (w:World) {S:Nat->Prop} (hr:Ro S w r):Calls Tryz.prog 13 #[(aG (D7 r))] w (Av (OI r.ps r.ts r.ss) S w):=by
 have lr:=DF (W:=w) hr
 refine Ah (args:=[(aG (D7 r))]) (L:=[AI r.a.p (rowsL Es r.ds),AI r.b.p (rowsL Al r.ts),AI r.c.p (rowsL Al r.ss)]) Tryz.func13 rfl rfl (AY rfl) (EV hr Ar) (AF.subF (sL [0] rfl) (q4 (B9 (cs:=D7 r) rfl λb1=>al Xw rfl λb2=>q3 (sL [1,2] rfl) ?_)))
 refine AH (v:=(pP b1 1)) (AA rfl Tryz.underlying26 rfl Tryz.sizeOf23 rfl) rfl (BD 1 (Value.slice r.b.p r.ts.length r.b.c) EU rfl (AD.nilRow 53 3 (AD.appendE0 XC rfl OwnOk.none rfl (K_ (k:=4) rfl r.b.ok) (Af Ak _) (Dh HL _) (GR (by omega)) (by omega) rfl λptb ctb otb=>AH (v:=(aG ([(Value.slice none 0 0),(Value.slice ptb r.ts.length ctb),(Value.slice none 0 0)]))) (AU (zs:=[(Value.slice none 0 0),(Value.slice none 0 0),(Value.slice none 0 0)]) (vs:=[(Value.slice none 0 0),(Value.slice ptb r.ts.length ctb),(Value.slice none 0 0)]) (pv:=[(1,(Value.slice ptb r.ts.length ctb))]) (places:=[(0,1),(1,1),(2,1)]) Tryz.zeroValue38 Tryz.underlying38 (λw=>by simp [Tryz.sizeOf23,Tryz.sizeOf35,Tryz.sizeOf36]) rfl rfl) rfl (al Xw rfl λb3=>?_))))
 refine BC rfl Tryz.sizeOf38 rfl (AD.nilRow 83 6 (AD.nilRow 115 3 (q6 (sL [1,2,3] rfl) (q4 (asg' rfl ?_)))))
 refine AD.nil (AC.then_ (AF.block ?_))
 refine AF.lp4 (tg λ(i:Nat) (p2:Option Addr) (c2:Nat) (ss:List Z3)=>i<=r.ss.length/\OwnOk p2 ss.length c2/\ss=r.ss.take i) (tg λ(i:Nat) (p2:Option Addr) (c2:Nat) (ss:List Z3)=>[(1,(pP b1 0)),(2,(pP b2 0)),(3,(pP b3 0)),(4,(vN i))]) (tg λ(i:Nat) (p2:Option Addr) (c2:Nat) (ss:List Z3)=>[rowW p2 115 3 ss.length c2 (rowsL Al ss),rowW none 83 6 0 0 (rowsL Gs ([]:List RP)),Ab b3 38 ([(Value.slice none 0 0),(Value.slice ptb r.ts.length ctb),(Value.slice p2 ss.length c2)]),rowW ptb 53 3 r.ts.length ctb (rowsL Al r.ts),Ab b2 38 ([(Value.slice none 0 0),(Value.slice none 0 0),(Value.slice none 0 0)]),Ab b1 26 (D7 r),AI r.a.p (rowsL Es r.ds),AI r.b.p (rowsL Al r.ts),AI r.c.p (rowsL Al r.ss)]) (tg λ(i:Nat) (p2:Option Addr) (c2:Nat) (ss:List Z3)=>r.ss.length-i) 0 none 0 ([]:List Z3) (⟨Nat.zero_le _,OwnOk.none,rfl⟩) (sF rfl) sr (λi p2 c2 ss hJ=>?_)
 obtain ⟨hi,h2,hss⟩:=hJ
 have hsl:ss.length<=60:=by rw [hss,List.length_take];omega
 refine AF.seq (q4 (AJ rfl (AH (v:=(pP b1 2)) (AA rfl Tryz.underlying26 rfl Tryz.sizeOf24 rfl) rfl (BD 5 (Value.slice r.c.p r.ss.length r.c.c) Cz rfl (AH (v:=(vN r.ss.length)) (AE rfl Tryz.underlying24) rfl ?_)))))
 refine AH (Ad (c:=(decide (i<r.ss.length))) rfl rfl (CB (a:=i) (b:=r.ss.length))) rfl (AD.nil (AC.subF (sL [1,2,3,4,14] rfl) (AC.then_ ?_)))
 refine AF.cond rfl (λhc0=>?_) (λhc0=>?_)
 ·replace hc0:=of_decide_eq_true hc0
  refine AF.skip (q1 (AF.block (rC [(0,true),(1,true),(2,true),(3,true),(4,true),(5,true),(6,true),(7,true),(8,true),(9,true),(10,true),(11,true),(12,true),(13,true),(14,true),(15,true),(16,true),(17,true),(18,true),(19,true),(20,true),(21,false),(22,false),(23,true)] 24 [] (sl sr) (sk (sl sr)) (by kernel_rfl) (λ_ _ d _ _ h=>by cases d<;>exact h) (vE (v:=(pP b3 2)) rfl (AA rfl Tryz.underlying38 rfl Tryz.sizeOf36 rfl) rfl (vE rfl (AP (i:=1) (v:=(Value.slice p2 ss.length c2)) rfl rfl MR.a rfl) rfl ?_)))))
  refine vE (v:=(pP b1 2)) rfl (AA rfl Tryz.underlying26 rfl Tryz.sizeOf24 rfl) rfl (vE rfl (AP (i:=4) (v:=(Value.slice r.c.p r.ss.length r.c.c)) rfl rfl Cz.a rfl) rfl (vM rfl rfl rfl (vE (v:=(pP (pB r.c.p) (pO r.c.p+i*3))) rfl (AL (j:=i) rfl rfl r.c.ok Tryz.underlying24 Tryz.sizeOf55 rfl (by omega)) rfl (vE (v:=(pP (pB r.c.p) (pO r.c.p+(i*3+0)))) rfl (AA rfl Tryz.underlying55 rfl Tryz.sizeOf3 (Nat.add_assoc _ _ _)) rfl (vE rfl (AZ (v:=(vI ((r.ss.getD i ((0,0,0):Z3)).1))) (i:=7) rfl rfl (A6.ne r.c.ok (by omega)) Be (Bf Ak ((0,0,0):Z3) _ _ 0 (by omega) (by decide) rfl)) rfl ?_)))))
  refine vE (v:=(pP b1 2)) rfl (AA rfl Tryz.underlying26 rfl Tryz.sizeOf24 rfl) rfl (vE rfl (AP (i:=4) (v:=(Value.slice r.c.p r.ss.length r.c.c)) rfl rfl Cz.a rfl) rfl (vM rfl rfl rfl (vE (v:=(pP (pB r.c.p) (pO r.c.p+i*3))) rfl (AL (j:=i) rfl rfl r.c.ok Tryz.underlying24 Tryz.sizeOf55 rfl (by omega)) rfl (vE (v:=(pP (pB r.c.p) (pO r.c.p+(i*3+1)))) rfl (AA rfl Tryz.underlying55 rfl Tryz.sizeOf3 (Nat.add_assoc _ _ _)) rfl (vE rfl (AZ (v:=(vI ((r.ss.getD i ((0,0,0):Z3)).2.1))) (i:=7) rfl rfl (A6.ne r.c.ok (by omega)) Be (Bf Ak ((0,0,0):Z3) _ _ 1 (by omega) (by decide) rfl)) rfl ?_)))))
  refine vE (v:=(pP b1 2)) rfl (AA rfl Tryz.underlying26 rfl Tryz.sizeOf24 rfl) rfl (vE rfl (AP (i:=4) (v:=(Value.slice r.c.p r.ss.length r.c.c)) rfl rfl Cz.a rfl) rfl (vM rfl rfl rfl (vE (v:=(pP (pB r.c.p) (pO r.c.p+i*3))) rfl (AL (j:=i) rfl rfl r.c.ok Tryz.underlying24 Tryz.sizeOf55 rfl (by omega)) rfl (vE (v:=(pP (pB r.c.p) (pO r.c.p+(i*3+2)))) rfl (AA rfl Tryz.underlying55 rfl Tryz.sizeOf3 (Nat.add_assoc _ _ _)) rfl (vE rfl (AZ (v:=(vI ((r.ss.getD i ((0,0,0):Z3)).2.2))) (i:=7) rfl rfl (A6.ne r.c.ok (by omega)) Be (Bf Ak ((0,0,0):Z3) _ _ 2 (by omega) (by decide) rfl)) rfl ?_)))))
  refine vE (v:=(aG ([(vI ((r.ss.getD i ((0,0,0):Z3)).1)),(vI ((r.ss.getD i ((0,0,0):Z3)).2.1)),(vI ((r.ss.getD i ((0,0,0):Z3)).2.2))]))) rfl (AU (zs:=Al ((0,0,0):Z3)) (vs:=[(vI ((r.ss.getD i ((0,0,0):Z3)).1)),(vI ((r.ss.getD i ((0,0,0):Z3)).2.1)),(vI ((r.ss.getD i ((0,0,0):Z3)).2.2))]) (pv:=[(0,(vI ((r.ss.getD i ((0,0,0):Z3)).1))),(1,(vI ((r.ss.getD i ((0,0,0):Z3)).2.1))),(2,(vI ((r.ss.getD i ((0,0,0):Z3)).2.2)))]) (places:=[(0,1),(1,1),(2,1)]) Tryz.zeroValue115 Tryz.underlying115 (λw=>by simp [Tryz.sizeOf3]) rfl rfl) rfl (DG.imp rfl (AD.openV (V:=λb4=>(Value.slice (some ⟨b4,0,none⟩) 1 1)) (T:=115) (cs:=Al ((((r.ss.getD i ((0,0,0):Z3)).1),((r.ss.getD i ((0,0,0):Z3)).2.1),((r.ss.getD i ((0,0,0):Z3)).2.2)):Z3)) (AO rfl) (Am (z:=.agg (Al ((0,0,0):Z3)).toArray) (cs:=Al ((((r.ss.getD i ((0,0,0):Z3)).1),((r.ss.getD i ((0,0,0):Z3)).2.1),((r.ss.getD i ((0,0,0):Z3)).2.2)):Z3)) (pv:=[(0,(aG ([(vI ((r.ss.getD i ((0,0,0):Z3)).1)),(vI ((r.ss.getD i ((0,0,0):Z3)).2.1)),(vI ((r.ss.getD i ((0,0,0):Z3)).2.2))])))]) Tryz.underlying36 Tryz.sizeOf115 Tryz.zeroValue115 (by decide) (by decide) rfl (IH ((((r.ss.getD i ((0,0,0):Z3)).1),((r.ss.getD i ((0,0,0):Z3)).2.1),((r.ss.getD i ((0,0,0):Z3)).2.2)):Z3))) rfl (AY rfl) λb4=>DG.back (sl (sl sr)) (DG.imp rfl (AD.append1 (j:=0) (cs2:=rowsL Al (ss++[((((r.ss.getD i ((0,0,0):Z3)).1),((r.ss.getD i ((0,0,0):Z3)).2.1),((r.ss.getD i ((0,0,0):Z3)).2.2)):Z3)])) YW rfl h2 (Af Ak _) rfl rfl rfl rfl (by decide) (GR (by omega)) (by omega) (by rw [Bz];rfl) rfl λp_1 c_1 ho_1 hne_1=>?_))))
  refine DG.back (sl (sl sr)) (vE (v:=(pP b3 2)) rfl (AA rfl Tryz.underlying38 rfl Tryz.sizeOf36 rfl) rfl (DG.cut rfl (IM 3 (off:=2) (vs:=[(Value.slice p_1 (ss.length+1) c_1)]) (cs':=[(Value.slice none 0 0),(Value.slice ptb r.ts.length ctb),(Value.slice p_1 (ss.length+1) c_1)]) (AO rfl) rfl Tryz.sizeOf36 rfl (OkE.back (sl (sl (sk (sl sr)))) (OkE.nil ?_)))))
  refine AC.subF (sL [1,2,3,4] rfl) (AC.in_normal (AC.then_ (AF.region (AJ rfl (AH (AW (c:=((i+1:Nat):Int)) rfl rfl (AR (a:=i) (b:=1) (by omega))) rfl ?_)))))
  refine asg' rfl (AD.nil (AC.subF (sL [1,2,3,4] rfl) ?_))
  rw [show ss.length+1=(ss++[((((r.ss.getD i ((0,0,0):Z3)).1),((r.ss.getD i ((0,0,0):Z3)).2.1),((r.ss.getD i ((0,0,0):Z3)).2.2)):Z3)]).length by simp]
  exact AC.round4 (i+1) p_1 c_1 (ss++[((((r.ss.getD i ((0,0,0):Z3)).1),((r.ss.getD i ((0,0,0):Z3)).2.1),((r.ss.getD i ((0,0,0):Z3)).2.2)):Z3)]) (⟨by omega,(by simpa using ho_1),by rw [hss,F0 (d:=(0,0,0)) (by omega)]⟩) (by omega) (sF rfl) (sl sr)
 ·replace hc0:=of_decide_eq_false hc0
  have hsf:ss=r.ss:=by rw [hss,show i=r.ss.length by omega,List.take_length]
  refine AF.exit (AC.then_exit (AC.round4_exit (AC.in_exit (q1 (q4 ?_)))))
  refine asg' rfl (AD.nil (AC.then_ (AF.block ?_)))
  refine AF.lp4 (tg λ(i:Nat) (p1:Option Addr) (c1:Nat) (rs:List RP)=>i<=r.ds.length/\OwnOk p1 rs.length c1/\rs.map (·.p)=r.ps.take i/\∀y∈E6 rs,∀b,y.foot=some b->Nw ⟨w,none⟩ S b) (tg λ(i:Nat) (p1:Option Addr) (c1:Nat) (rs:List RP)=>[(1,(pP b1 0)),(2,(pP b2 0)),(3,(pP b3 0)),(5,(vN i))]) (tg λ(i:Nat) (p1:Option Addr) (c1:Nat) (rs:List RP)=>(rowW p2 115 3 ss.length c2 (rowsL Al ss)::rowW p1 83 6 rs.length c1 (rowsL Gs rs)::Ab b3 38 ([(Value.slice p1 rs.length c1),(Value.slice ptb r.ts.length ctb),(Value.slice p2 ss.length c2)])::rowW ptb 53 3 r.ts.length ctb (rowsL Al r.ts)::Ab b2 38 ([(Value.slice none 0 0),(Value.slice none 0 0),(Value.slice none 0 0)])::Ab b1 26 (D7 r)::AI r.a.p (rowsL Es r.ds)::AI r.b.p (rowsL Al r.ts)::AI r.c.p (rowsL Al r.ss)::E6 rs)) (tg λ(i:Nat) (p1:Option Addr) (c1:Nat) (rs:List RP)=>r.ds.length-i) 0 none 0 ([]:List RP) (⟨Nat.zero_le _,OwnOk.none,rfl,(λy hy=>by cases hy)⟩) (sF rfl) sr (λi p1 c1 rs hJ=>?_)
  obtain ⟨hi,h1,hps,hat⟩:=hJ
  have hpl:rs.length<=24:=by rw [<-List.length_map (f:=(·.p)),hps,List.length_take];omega
  refine AF.seq (q4 (AJ rfl (AH (v:=(pP b1 0)) (AA rfl Tryz.underlying26 rfl Tryz.sizeOf22 rfl) rfl (BD 5 (Value.slice r.a.p r.ds.length r.a.c) M8 rfl (AH (v:=(vN r.ds.length)) (AE rfl Tryz.underlying22) rfl ?_)))))
  refine AH (Ad (c:=(decide (i<r.ds.length))) rfl rfl (CB (a:=i) (b:=r.ds.length))) rfl (AD.nil (AC.subF (sL [1,2,3,5,45] rfl) (AC.then_ ?_)))
  refine AF.cond rfl (λhc1=>?_) (λhc1=>?_)
  ·replace hc1:=of_decide_eq_true hc1
   refine AF.skip (q1 (AF.block (rC [(0,true),(1,true),(2,true),(3,true),(4,true),(5,true),(6,true),(7,false),(8,false),(9,false),(10,true)] 11 [] (sk (sl sr)) (sk (sl sr)) (by kernel_rfl) (λ_ _ d _ _ h=>by cases d<;>exact h) (vE (v:=(pP b3 0)) rfl (AA rfl Tryz.underlying38 rfl Tryz.sizeOf35 rfl) rfl (vE rfl (AP (i:=1) (v:=(Value.slice p1 rs.length c1)) rfl rfl WV.a rfl) rfl ?_)))))
   refine vE (v:=(pP b1 0)) rfl (AA rfl Tryz.underlying26 rfl Tryz.sizeOf22 rfl) rfl (vE rfl (AP (i:=4) (v:=(Value.slice r.a.p r.ds.length r.a.c)) rfl rfl M8.a rfl) rfl (vM rfl rfl rfl (vE (v:=(pP (pB r.a.p) (pO r.a.p+i*4))) rfl (AL (j:=i) rfl rfl r.a.ok Tryz.underlying22 Tryz.sizeOf101 rfl (by omega)) rfl (vE (v:=(aG (Es (r.ds.getD i EB)))) rfl (Ae (vs:=Es (r.ds.getD i EB)) (i:=5) rfl rfl (A6.ne r.a.ok (by omega)) Vf (Ax FO _ _ _ (by omega)) (FO _)) rfl (DG.imp rfl ?_)))))
   refine cP (S:=S) (x:=(F4 (r.ds.getD i EB))) (args:=[(aG (Es (r.ds.getD i EB)))]) Tryz.call52 (λw hw=>VE (r.ds.getD i EB) (r.ok (by omega)) w) rfl rfl rfl λg1 lg1=>DG.back (sl (sl (sl (sl (sk (sl sr)))))) (DG.imp rfl (AD.openV (V:=λb4=>(Value.slice (some ⟨b4,0,none⟩) 1 1)) (T:=83) (cs:=Pw g1) (AO rfl) (Am (z:=.agg #[(Value.bool false),(Value.slice none 0 0),(Value.slice none 0 0),(Value.bool false),(Value.slice none 0 0),(Value.slice none 0 0)]) (cs:=Pw g1) (pv:=[(0,(aG (Pw g1)))]) Tryz.underlying35 Tryz.sizeOf83 Tryz.zeroValue83 (by decide) (by decide) rfl (Ww g1)) rfl (AY rfl) λb4=>DG.back (sl (sl (sl (sl (sl (sk (sl sr))))))) (DG.imp rfl ?_)))
   refine AD.appendAt 6 (j:=0) (cs2:=rowsL Gs (rs++[(⟨_,g1⟩:RP)])) Yq rfl h1 (Af Im _) rfl rfl rfl rfl rfl (by decide) (GR (by omega)) (by omega) (by rw [Bz];rfl) rfl λp_2 c_2 ho_2 hne_2=>DG.back (sl (sl (sl (sl (sl (sk (sl sr))))))) (vE (v:=(pP b3 0)) rfl (AA rfl Tryz.underlying38 rfl Tryz.sizeOf35 rfl) rfl (DG.cut rfl (IM 7 (off:=0) (vs:=[(Value.slice p_2 (rs.length+1) c_2)]) (cs':=[(Value.slice p_2 (rs.length+1) c_2),(Value.slice ptb r.ts.length ctb),(Value.slice p2 ss.length c2)]) (AO rfl) rfl Tryz.sizeOf35 rfl (OkE.back (sl (sl (sl (sl (sl (sk (sl (sl sr)))))))) ?_))))
   refine OkE.nil (AC.subF (sL [1,2,3,5] rfl) (AC.in_normal (AC.then_ (AF.region (AJ rfl ?_)))))
   refine AD.subL (sl sr) (AD.permR (show List.Perm _ (rowW p2 115 3 ss.length c2 (rowsL Al ss)::rowW p_2 83 6 (rs.length+1) c_2 (rowsL Gs (rs++[(⟨_,g1⟩:RP)]))::Ab b3 38 ([(Value.slice p_2 (rs.length+1) c_2),(Value.slice ptb r.ts.length ctb),(Value.slice p2 ss.length c2)])::rowW ptb 53 3 r.ts.length ctb (rowsL Al r.ts)::Ab b2 38 ([(Value.slice none 0 0),(Value.slice none 0 0),(Value.slice none 0 0)])::Ab b1 26 (D7 r)::AI r.a.p (rowsL Es r.ds)::AI r.b.p (rowsL Al r.ts)::AI r.c.p (rowsL Al r.ss)::E6 (rs++[(⟨_,g1⟩:RP)])) from WF (⟨_,g1⟩:RP) [rowW p2 115 3 ss.length c2 (rowsL Al ss),rowW p_2 83 6 (rs.length+1) c_2 (rowsL Gs (rs++[(⟨_,g1⟩:RP)])),Ab b3 38 ([(Value.slice p_2 (rs.length+1) c_2),(Value.slice ptb r.ts.length ctb),(Value.slice p2 ss.length c2)]),rowW ptb 53 3 r.ts.length ctb (rowsL Al r.ts),Ab b2 38 ([(Value.slice none 0 0),(Value.slice none 0 0),(Value.slice none 0 0)]),Ab b1 26 (D7 r),AI r.a.p (rowsL Es r.ds),AI r.b.p (rowsL Al r.ts),AI r.c.p (rowsL Al r.ss)] rs) (AH (AW (c:=((i+1:Nat):Int)) rfl rfl (AR (a:=i) (b:=1) (by omega))) rfl (asg' rfl (AD.nil (AC.subF (sL [1,2,3,5] rfl) ?_)))))
   rw [show rs.length+1=(rs++[(⟨_,g1⟩:RP)]).length by simp]
   exact AC.round4 (i+1) p_2 c_2 (rs++[(⟨_,g1⟩:RP)]) (⟨by omega,(by simpa using ho_2),by rw [List.map_append,hps,Lz r (by omega)];rfl,At.snoc hat lg1⟩) (by omega) (sF rfl) sr
  ·replace hc1:=of_decide_eq_false hc1
   refine AF.exit (AC.then_exit (AC.round4_exit (AC.in_exit (q2 (BF 2 YU rfl ?_)))))
   exact IM 4 (off:=0) (vs:=[(Value.slice p1 rs.length c1),(Value.slice ptb r.ts.length ctb),(Value.slice p2 ss.length c2)]) (cs':=[(Value.slice p1 rs.length c1),(Value.slice ptb r.ts.length ctb),(Value.slice p2 ss.length c2)]) (AO rfl) rfl Tryz.sizeOf38 rfl (AD.nil (AC.subF (sL [1,2,3,5] rfl) (AC.then_ (AF.ret (AN rfl (BB (i:=4) (cs:=[(Value.slice p1 rs.length c1),(Value.slice ptb r.ts.length ctb),(Value.slice p2 ss.length c2)]) rfl rfl Tryz.isAgg38 Tryz.sizeOf38 rfl) (λw hw=>(by rw [<-hsf];exact V1 (A:=[rowW p2 115 3 ss.length c2 (rowsL Al ss),rowW p1 83 6 rs.length c1 (rowsL Gs rs),Ab b3 38 ([(Value.slice p1 rs.length c1),(Value.slice ptb r.ts.length ctb),(Value.slice p2 ss.length c2)]),rowW ptb 53 3 r.ts.length ctb (rowsL Al r.ts),Ab b2 38 ([(Value.slice p1 rs.length c1),(Value.slice ptb r.ts.length ctb),(Value.slice p2 ss.length c2)]),Ab b1 26 (D7 r),AI r.a.p (rowsL Es r.ds),AI r.b.p (rowsL Al r.ts),AI r.c.p (rowsL Al r.ss)]) hw 1 3 0 rfl rfl rfl h1 otb h2 rfl rfl rfl (by rw [hps,show i=r.ds.length by omega,<-r.pl,List.take_length]) hat rfl)))))))
end
end Go.Proofs.YtpgncndhhhllfaaGreatDoor
