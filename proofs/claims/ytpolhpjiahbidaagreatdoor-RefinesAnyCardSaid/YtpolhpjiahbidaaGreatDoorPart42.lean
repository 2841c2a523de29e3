import Derived.Test.YtpolhpjiahbidaaGreatDoorPart05
import Derived.Test.YtpolhpjiahbidaaGreatDoorPart13
import Derived.Test.YtpolhpjiahbidaaGreatDoorPart18
import Derived.Test.YtpolhpjiahbidaaGreatDoorPart25
import Derived.Test.YtpolhpjiahbidaaGreatDoorPart31
import Derived.Test.YtpolhpjiahbidaaGreatDoorPart38
import Derived.Test.YtpolhpjiahbidaaGreatDoorPart39
import Derived.Test.YtpolhpjiahbidaaGreatDoorPart41
namespace Go.Proofs.YtpolhpjiahbidaaGreatDoor
open Go Go.RowKit Go.Proofs.Tryz
set_option linter.unusedVariables false
set_option linter.unusedSimpArgs false
section
set_option maxRecDepth 100000
theorem Xr:ElemT prog 36 121 6 112:=⟨underlying36,DM (by kernel_rfl)⟩
def Ct (q:QD):Bool:=decide (-1000000<=q.n)&&(decide (q.n<=1000000)&&decide (q.d<=1000000))
def Gv (r:RW):Bool:=decide (24<r.ds.length)||(decide (24<r.ts.length)||(decide (60<r.ss.length)||r.ds.any λd=>!(Ct d.x&&Ct d.y)))
theorem TI {r:RW} (h:Gv r=false):r.ds.length<=24/\r.ts.length<=24/\r.ss.length<=60:=by
 unfold Gv at h
 simp only [Bool.or_eq_false_iff,decide_eq_false_iff_not] at h
 omega
theorem OI {r:RW} {i:Nat} (hi:i<r.ds.length) (h:(!Ct (r.ds.getD i EB).x||!Ct (r.ds.getD i EB).y)=true):Gv r=true:=by
 unfold Gv
 have:(r.ds.any λd=>!(Ct d.x&&Ct d.y))=true:=List.any_eq_true.2 ⟨_,List.getElem_mem hi,by
  rw [List.getD,List.getElem?_eq_getElem hi] at h
  simpa using h⟩
 rw [this];simp
theorem Ry {r:RW} (h:24<r.ds.length\/24<r.ts.length\/60<r.ss.length):Gv r=true:=by
 unfold Gv
 rcases h with h|h|h<;>simp [h]
theorem Re {r:RW} (h:¬(24<r.ds.length\/24<r.ts.length\/60<r.ss.length)) (hs:∀i,i<r.ds.length->(Ct (r.ds.getD i EB).x&&Ct (r.ds.getD i EB).y)=true):Gv r=false:=by
 unfold Gv
 have:(r.ds.any λd=>!(Ct d.x&&Ct d.y))=false:=by
  rw [List.any_eq_false]
  intro d hd
  obtain ⟨i,hi,rfl⟩:=List.getElem_of_mem hd
  have:=hs i hi
  rw [List.getD,List.getElem?_eq_getElem hi] at this
  simpa using this
 rw [this]
 simp only [Bool.or_eq_false_iff,decide_eq_false_iff_not]
 exact ⟨Z,Z,Z,trivial⟩
theorem RW.pw (r:RW) (i:Nat) (h:i<r.ps.length):PW (r.ps.getD i ⟨0,0⟩):=by
 rw [r.pl] at h
 rw [M5 r h]
 exact Wa (r.ok h)
theorem Lq (q:QD) (w:World)  :Calls prog 41 #[(aG (Hg q))] w (Ah w (Value.bool (Ct q))):=by
 refine Ab (args:=[(aG (Hg q))]) func41 O O (AI O) (OkC.subF (sL [0] O) (q4 (Be (cs:=Hg q) O λb1=>asg' O (q3 (sL [1,2] O) (AH (v:=(pP b1 0)) (AA O underlying94 O sizeOf2 O) O (Au 0 (vI q.n) Zj O (AH (Bx (c:=(decide ((-1000000:Int)<=q.n))) O O O) O (AM O ?_))))))))
 refine OkL.mid (FM:=[(1,(pP b1 0)),(2,(Value.bool false)),(3,(pP b1 0)),(4,(vI q.n)),(5,(Value.bool (decide ((-1000000:Int)<=q.n)))),(6,(Value.bool (decide ((-1000000:Int)<=q.n)))),(10,(Value.bool ((decide ((-1000000:Int)<=q.n))&&(decide (q.n<=(1000000:Int))))))]) (LM:=[AU b1 94 (Hg q)]) 4 ?_ ?_
 ·rcases Bool.eq_false_or_eq_true (decide ((-1000000:Int)<=q.n)) with hg1|hg1
  ·skip
   refine OkL.retell (k:=6) (u:=Value.bool true) O (by rw [hg1]) ?_
   have hg1':=hg1
   replace hg1':=of_decide_eq_true hg1'
   exact OkL.step (v:=(pP b1 0)) (AB O) (AA O underlying94 O sizeOf2 O) O (AI O) (OkL.step (v:=(vI q.n)) (AB O) (AF (i:=0) (v:=(vI q.n)) O O Zj.a O) O (AI O) (OkL.step (v:=(Value.bool (decide (q.n<=(1000000:Int))))) (AB O) (Fx (c:=(decide (q.n<=(1000000:Int)))) O O O) O (AI O) (AH (v:=(Value.bool (decide (q.n<=(1000000:Int))))) (AO O O) O (OkL.nil (OkQ.mid (sS O (sS O (sS O (sS O (sS O (sS (by first|rfl|(rw [hg1];rfl)|rw [hg1]) (sS (by first|rfl|(rw [hg1];rfl)|rw [hg1]) (sN)))))))) (List.Sublist.refl _))))))
  ·skip
   refine OkL.retell (k:=6) (u:=Value.bool false) O (by rw [hg1]) ?_
   have hg1':=hg1
   replace hg1':=of_decide_eq_false hg1'
   exact OkL.skip (AC O) O (AI O) (OkL.skip (AC O) O (AI O) (OkL.skip (AC O) O (AI O) (AH (v:=(Value.bool false)) (AJ O O) O (OkL.nil (OkQ.mid (sS O (sS O (sS O (sS O (sS O (sS (by first|rfl|(rw [hg1];rfl)|rw [hg1]) (sS (by first|rfl|(rw [hg1];rfl)|rw [hg1]) (sN)))))))) (List.Sublist.refl _))))))
 refine AM O ?_
 refine OkL.mid (FM:=[(1,(pP b1 0)),(2,(Value.bool false)),(3,(pP b1 0)),(4,(vI q.n)),(5,(Value.bool (decide ((-1000000:Int)<=q.n)))),(6,(Value.bool (decide ((-1000000:Int)<=q.n)))),(10,(Value.bool ((decide ((-1000000:Int)<=q.n))&&(decide (q.n<=(1000000:Int)))))),(11,(Value.bool ((decide ((-1000000:Int)<=q.n))&&(decide (q.n<=(1000000:Int)))))),(15,(Value.bool (((decide ((-1000000:Int)<=q.n))&&(decide (q.n<=(1000000:Int))))&&(decide (q.d<=1000000)))))]) (LM:=[AU b1 94 (Hg q)]) 4 ?_ ?_
 ·rcases Bool.eq_false_or_eq_true ((decide ((-1000000:Int)<=q.n))&&(decide (q.n<=(1000000:Int)))) with hg2|hg2
  ·skip
   refine OkL.retell (k:=11) (u:=Value.bool true) O (by rw [hg2]) ?_
   have hg2':=hg2
   simp only [Bool.and_eq_true,Bool.or_eq_true,Bool.and_eq_false_iff,Bool.or_eq_false_iff,Bool.not_eq_true',Bool.not_eq_false',decide_eq_true_eq,decide_eq_false_iff_not] at hg2'
   exact OkL.step (v:=(pP b1 1)) (AB O) (AA O underlying94 O sizeOf92 O) O (AI O) (OkL.step (v:=(vK .u32 q.d)) (AB O) (AF (i:=0) (v:=(vK .u32 q.d)) O O YM.a O) O (AI O) (OkL.step (v:=(Value.bool (decide (q.d<=1000000)))) (AB O) (Fx (c:=(decide (q.d<=1000000))) O O (SC (a:=q.d) (b:=1000000))) O (AI O) (AH (v:=(Value.bool (decide (q.d<=1000000)))) (AO O O) O (OkL.nil (OkQ.mid (sS O (sS O (sS O (sS O (sS O (sS O (sS O (sS (by first|rfl|(rw [hg2];rfl)|rw [hg2]) (sS (by first|rfl|(rw [hg2];rfl)|rw [hg2]) (sN)))))))))) (List.Sublist.refl _))))))
  ·skip
   refine OkL.retell (k:=11) (u:=Value.bool false) O (by rw [hg2]) ?_
   have hg2':=hg2
   simp only [Bool.and_eq_true,Bool.or_eq_true,Bool.and_eq_false_iff,Bool.or_eq_false_iff,Bool.not_eq_true',Bool.not_eq_false',decide_eq_true_eq,decide_eq_false_iff_not] at hg2'
   exact OkL.skip (AC O) O (AI O) (OkL.skip (AC O) O (AI O) (OkL.skip (AC O) O (AI O) (AH (v:=(Value.bool false)) (AJ O O) O (OkL.nil (OkQ.mid (sS O (sS O (sS O (sS O (sS O (sS O (sS O (sS (by first|rfl|(rw [hg2];rfl)|rw [hg2]) (sS (by first|rfl|(rw [hg2];rfl)|rw [hg2]) (sN)))))))))) (List.Sublist.refl _))))))
 exact asg' O (OkL.nil (OkQ.subF (sL [2] O) (OkQ.then_ (OkC.ret (ret_one O (rd_tmp (v:=(Value.bool (((decide ((-1000000:Int)<=q.n))&&(decide (q.n<=(1000000:Int))))&&(decide (q.d<=1000000))))) O) (λw hw=>⟨by unfold Ct;simp [Bool.and_assoc],hw.out⟩))))))
theorem ST (r:RW) (w:World) {S:Nat->Prop} (hr:Ro S w r):Calls prog 8 #[(aG (Fb r))] w (Ah w (Value.bool (Gv r))):=by
 have lr:=CI (W:=w) hr
 refine AY (args:=[(aG (Fb r))]) (L:=[AE r.a.p (rowsL Fe r.ds),AE r.b.p (rowsL Ac r.ts),AE r.c.p (rowsL Ac r.ss)]) func8 O O (AI O) (D9 hr Aj) (OkC.subF (sL [0] O) (q4 (Be (cs:=Fb r) O λb1=>asg' O (q6 (sL [1,2] O) (q4 (AH (v:=(pP b1 0)) (AA O underlying26 O sizeOf22 O) O (Au 0 (Value.slice r.a.p r.ds.length r.a.c) OD O (AH (v:=(vN r.ds.length)) (AD O underlying22) O (AH (Bs (c:=(decide (24<r.ds.length))) O O (CB (a:=24) (b:=r.ds.length))) O (AM O ?_))))))))))
 refine OkL.mid (FM:=[(1,(pP b1 0)),(2,(Value.bool false)),(4,(pP b1 0)),(5,(Value.slice r.a.p r.ds.length r.a.c)),(6,(vN r.ds.length)),(7,(Value.bool (decide (24<r.ds.length)))),(8,(Value.bool (decide (24<r.ds.length)))),(13,(Value.bool ((decide (24<r.ds.length))||(decide (24<r.ts.length)))))]) (LM:=[AU b1 26 (Fb r),AE r.a.p (rowsL Fe r.ds),AE r.b.p (rowsL Ac r.ts),AE r.c.p (rowsL Ac r.ss)]) 5 ?_ ?_
 ·rcases Bool.eq_false_or_eq_true (decide (24<r.ds.length)) with hg1|hg1
  ·skip
   refine OkL.retell (k:=8) (u:=Value.bool true) O (by rw [hg1]) ?_
   have hg1':=hg1
   replace hg1':=of_decide_eq_true hg1'
   exact OkL.skip (AC O) O (AI O) (OkL.skip (AC O) O (AI O) (OkL.skip (AC O) O (AI O) (OkL.skip (AC O) O (AI O) (AH (v:=(Value.bool true)) (AO O O) O (OkL.nil (OkQ.mid (sS O (sS O (sS O (sS O (sS O (sS O (sS (by first|rfl|(rw [hg1];rfl)|rw [hg1]) (sS (by first|rfl|(rw [hg1];rfl)|rw [hg1]) (sN))))))))) (List.Sublist.refl _)))))))
  ·skip
   refine OkL.retell (k:=8) (u:=Value.bool false) O (by rw [hg1]) ?_
   have hg1':=hg1
   replace hg1':=of_decide_eq_false hg1'
   exact OkL.step (v:=(pP b1 1)) (AB O) (AA O underlying26 O sizeOf23 O) O (AI O) (OkL.step (v:=(Value.slice r.b.p r.ts.length r.b.c)) (AB O) (AF (i:=0) (v:=(Value.slice r.b.p r.ts.length r.b.c)) O O CU.a O) O (AI O) (OkL.step (v:=(vN r.ts.length)) (AB O) (AD O underlying23) O (AI O) (OkL.step (v:=(Value.bool (decide (24<r.ts.length)))) (AB O) (Bs (c:=(decide (24<r.ts.length))) O O (CB (a:=24) (b:=r.ts.length))) O (AI O) (AH (v:=(Value.bool (decide (24<r.ts.length)))) (AJ O O) O (OkL.nil (OkQ.mid (sS O (sS O (sS O (sS O (sS O (sS O (sS (by first|rfl|(rw [hg1];rfl)|rw [hg1]) (sS (by first|rfl|(rw [hg1];rfl)|rw [hg1]) (sN))))))))) (List.Sublist.refl _)))))))
 refine AM O ?_
 refine OkL.mid (FM:=[(1,(pP b1 0)),(2,(Value.bool false)),(4,(pP b1 0)),(5,(Value.slice r.a.p r.ds.length r.a.c)),(6,(vN r.ds.length)),(7,(Value.bool (decide (24<r.ds.length)))),(8,(Value.bool (decide (24<r.ds.length)))),(13,(Value.bool ((decide (24<r.ds.length))||(decide (24<r.ts.length))))),(14,(Value.bool ((decide (24<r.ds.length))||(decide (24<r.ts.length))))),(19,(Value.bool (((decide (24<r.ds.length))||(decide (24<r.ts.length)))||(decide (60<r.ss.length)))))]) (LM:=[AU b1 26 (Fb r),AE r.a.p (rowsL Fe r.ds),AE r.b.p (rowsL Ac r.ts),AE r.c.p (rowsL Ac r.ss)]) 5 ?_ ?_
 ·rcases Bool.eq_false_or_eq_true ((decide (24<r.ds.length))||(decide (24<r.ts.length))) with hg2|hg2
  ·skip
   refine OkL.retell (k:=14) (u:=Value.bool true) O (by rw [hg2]) ?_
   have hg2':=hg2
   simp only [Bool.and_eq_true,Bool.or_eq_true,Bool.and_eq_false_iff,Bool.or_eq_false_iff,Bool.not_eq_true',Bool.not_eq_false',decide_eq_true_eq,decide_eq_false_iff_not] at hg2'
   exact OkL.skip (AC O) O (AI O) (OkL.skip (AC O) O (AI O) (OkL.skip (AC O) O (AI O) (OkL.skip (AC O) O (AI O) (AH (v:=(Value.bool true)) (AO O O) O (OkL.nil (OkQ.mid (sS O (sS O (sS O (sS O (sS O (sS O (sS O (sS O (sS (by first|rfl|(rw [hg2];rfl)|rw [hg2]) (sS (by first|rfl|(rw [hg2];rfl)|rw [hg2]) (sN))))))))))) (List.Sublist.refl _)))))))
  ·skip
   refine OkL.retell (k:=14) (u:=Value.bool false) O (by rw [hg2]) ?_
   have hg2':=hg2
   simp only [Bool.and_eq_true,Bool.or_eq_true,Bool.and_eq_false_iff,Bool.or_eq_false_iff,Bool.not_eq_true',Bool.not_eq_false',decide_eq_true_eq,decide_eq_false_iff_not] at hg2'
   exact OkL.step (v:=(pP b1 2)) (AB O) (AA O underlying26 O sizeOf24 O) O (AI O) (OkL.step (v:=(Value.slice r.c.p r.ss.length r.c.c)) (AB O) (AF (i:=0) (v:=(Value.slice r.c.p r.ss.length r.c.c)) O O D4.a O) O (AI O) (OkL.step (v:=(vN r.ss.length)) (AB O) (AD O underlying24) O (AI O) (OkL.step (v:=(Value.bool (decide (60<r.ss.length)))) (AB O) (Bs (c:=(decide (60<r.ss.length))) O O (CB (a:=60) (b:=r.ss.length))) O (AI O) (AH (v:=(Value.bool (decide (60<r.ss.length)))) (AJ O O) O (OkL.nil (OkQ.mid (sS O (sS O (sS O (sS O (sS O (sS O (sS O (sS O (sS (by first|rfl|(rw [hg2];rfl)|rw [hg2]) (sS (by first|rfl|(rw [hg2];rfl)|rw [hg2]) (sN))))))))))) (List.Sublist.refl _)))))))
 refine OkL.nil (OkQ.subF (sL [1,2,19] O) (OkQ.then_ ?_))
 refine OkC.cond O (λhc0=>?_) (λhc0=>?_)
 ·simp only [Bool.and_eq_true,Bool.or_eq_true,Bool.and_eq_false_iff,Bool.or_eq_false_iff,Bool.not_eq_true',Bool.not_eq_false',decide_eq_true_eq,decide_eq_false_iff_not] at hc0
  have hgr:Gv r=true:=Ry (by grind)
  exact q4 (asg' O (OkL.nil (OkQ.then_ (OkC.ret (OkQ.then_ret (ret_one O (rd_tmp (v:=(Value.bool true)) O) (λw hw=>⟨by rw [hgr],hw.out⟩)))))))
 ·simp only [Bool.and_eq_true,Bool.or_eq_true,Bool.and_eq_false_iff,Bool.or_eq_false_iff,Bool.not_eq_true',Bool.not_eq_false',decide_eq_true_eq,decide_eq_false_iff_not] at hc0
  have hgl:¬(24<r.ds.length\/24<r.ts.length\/60<r.ss.length):=by grind
  refine OkC.skip (q1 (q4 (asg' O (OkL.nil (OkQ.then_ (OkC.block ?_))))))
  refine OkC.lp1 (tg λ(i:Nat)=>i<=r.ds.length/\∀j,j<i->(Ct (r.ds.getD j EB).x&&Ct (r.ds.getD j EB).y)=true) (tg λ(i:Nat)=>[(1,(pP b1 0)),(3,(vN i))]) (tg λ(i:Nat)=>[AU b1 26 (Fb r),AE r.a.p (rowsL Fe r.ds),AE r.b.p (rowsL Ac r.ts),AE r.c.p (rowsL Ac r.ss)]) (tg λ(i:Nat)=>r.ds.length-i) 0 (⟨Nat.zero_le _,λj h=>absurd h (Nat.not_lt_zero _)⟩) (sF O) sr (λi hJ=>?_)
  obtain ⟨hi,hs⟩:=hJ
  refine OkC.seq (q4 (AM O (AH (v:=(pP b1 0)) (AA O underlying26 O sizeOf22 O) O (Au 0 (Value.slice r.a.p r.ds.length r.a.c) OD O (AH (v:=(vN r.ds.length)) (AD O underlying22) O (AH (Ae (c:=(decide (i<r.ds.length))) O O (CB (a:=i) (b:=r.ds.length))) O (OkL.nil (OkQ.subF (sL [1,3,24] O) (OkQ.then_ ?_)))))))))
  refine OkC.cond O (λhc1=>?_) (λhc1=>?_)
  ·replace hc1:=of_decide_eq_true hc1
   refine OkC.skip (q1 (OkC.block (q4 (AH (v:=(pP b1 0)) (AA O underlying26 O sizeOf22 O) O (Au 0 (Value.slice r.a.p r.ds.length r.a.c) OD O (AM O (AH (v:=(pP (pB r.a.p) (pO r.a.p+i*4))) (AL (j:=i) O O r.a.ok underlying22 sizeOf96 O Z) O (AH (v:=(pP (pB r.a.p) (pO r.a.p+(i*4+0)))) (AA O underlying96 O sizeOf94 (Nat.add_assoc _ _ _)) O (AH (v:=(aG (Hg ((r.ds.getD i EB).x)))) (AT (vs:=Hg ((r.ds.getD i EB).x)) (i:=1) O O (Av.ne r.a.ok Z) Qt (KR Fp EB _ _ 0 2 Z (by decide) O) O) O (ck' call41 (Lq ((r.ds.getD i EB).x)) O (AH (BU (c:=(!(Ct ((r.ds.getD i EB).x)))) O O) O ?_)))))))))))
   refine AM O ?_
   refine OkL.mid (FM:=[(1,(pP b1 0)),(3,(vN i)),(27,(pP b1 0)),(28,(Value.slice r.a.p r.ds.length r.a.c)),(29,(vN i)),(30,(pP (pB r.a.p) (pO r.a.p+i*4))),(31,(pP (pB r.a.p) (pO r.a.p+(i*4+0)))),(32,(aG (Hg ((r.ds.getD i EB).x)))),(33,(Value.bool (Ct ((r.ds.getD i EB).x)))),(34,(Value.bool (!(Ct ((r.ds.getD i EB).x))))),(35,(Value.bool (!(Ct ((r.ds.getD i EB).x))))),(44,(Value.bool ((!(Ct ((r.ds.getD i EB).x)))||(!(Ct ((r.ds.getD i EB).y))))))]) (LM:=[AU b1 26 (Fb r),AE r.a.p (rowsL Fe r.ds),AE r.b.p (rowsL Ac r.ts),AE r.c.p (rowsL Ac r.ss)]) 9 ?_ ?_
   ·rcases Bool.eq_false_or_eq_true (!(Ct ((r.ds.getD i EB).x))) with hg3|hg3
    ·skip
     refine OkL.retell (k:=35) (u:=Value.bool true) O (by rw [hg3]) ?_
     have hg3':=hg3
     simp only [Bool.and_eq_true,Bool.or_eq_true,Bool.and_eq_false_iff,Bool.or_eq_false_iff,Bool.not_eq_true',Bool.not_eq_false',decide_eq_true_eq,decide_eq_false_iff_not] at hg3'
     exact OkL.skip (AC O) O (AI O) (OkL.skip (AC O) O (AI O) (OkL.skip (AC O) O (AI O) (OkL.skip (AC O) O (AI O) (OkL.skip (AC O) O (AI O) (OkL.skip (AC O) O (AI O) (OkL.skip (AC O) O (AI O) (OkL.skip (AC O) O (AI O) (AH (v:=(Value.bool true)) (AO O O) O (OkL.nil (OkQ.mid (sS O (sS O (sS O (sS O (sS O (sS O (sS O (sS O (sS O (sS O (sS (by first|rfl|(rw [hg3];rfl)|rw [hg3]) (sS (by first|rfl|(rw [hg3];rfl)|rw [hg3]) (sN))))))))))))) (List.Sublist.refl _)))))))))))
    ·skip
     refine OkL.retell (k:=35) (u:=Value.bool false) O (by rw [hg3]) ?_
     have hg3':=hg3
     simp only [Bool.and_eq_true,Bool.or_eq_true,Bool.and_eq_false_iff,Bool.or_eq_false_iff,Bool.not_eq_true',Bool.not_eq_false',decide_eq_true_eq,decide_eq_false_iff_not] at hg3'
     exact OkL.step (v:=(pP b1 0)) (AB O) (AA O underlying26 O sizeOf22 O) O (AI O) (OkL.step (v:=(Value.slice r.a.p r.ds.length r.a.c)) (AB O) (AF (i:=0) (v:=(Value.slice r.a.p r.ds.length r.a.c)) O O OD.a O) O (AI O) (OkL.step (v:=(vN i)) (AB O) (Ai O) O (AI O) (OkL.step (v:=(pP (pB r.a.p) (pO r.a.p+i*4))) (AB O) (AL (j:=i) O O r.a.ok underlying22 sizeOf96 O Z) O (AI O) (OkL.step (v:=(pP (pB r.a.p) (pO r.a.p+(i*4+2)))) (AB O) (AA O underlying96 O sizeOf94 (Nat.add_assoc _ _ _)) O (AI O) (OkL.step (v:=(aG (Hg ((r.ds.getD i EB).y)))) (AB O) (AT (vs:=Hg ((r.ds.getD i EB).y)) (i:=1) O O (Av.ne r.a.ok Z) Qt (KR Fp EB _ _ 2 2 Z (by decide) O) O) O (AI O) (OkL.call (v:=(Value.bool (Ct ((r.ds.getD i EB).y)))) (AB O) (Ap (args:=[(aG (Hg ((r.ds.getD i EB).y)))]) O O call41) (λw hw=>Lq ((r.ds.getD i EB).y) w) O (AI O) (OkL.step (v:=(Value.bool (!(Ct ((r.ds.getD i EB).y))))) (AB O) (BU (c:=(!(Ct ((r.ds.getD i EB).y)))) O O) O (AI O) (AH (v:=(Value.bool (!(Ct ((r.ds.getD i EB).y))))) (AJ O O) O (OkL.nil (OkQ.mid (sS O (sS O (sS O (sS O (sS O (sS O (sS O (sS O (sS O (sS O (sS (by first|rfl|(rw [hg3];rfl)|rw [hg3]) (sS (by first|rfl|(rw [hg3];rfl)|rw [hg3]) (sN))))))))))))) (List.Sublist.refl _)))))))))))
   refine OkL.nil (OkQ.subF (sL [1,3,44] O) (OkQ.then_ ?_))
   refine OkC.cond O (λhc2=>?_) (λhc2=>?_)
   ·simp only [Bool.and_eq_true,Bool.or_eq_true,Bool.and_eq_false_iff,Bool.or_eq_false_iff,Bool.not_eq_true',Bool.not_eq_false',decide_eq_true_eq,decide_eq_false_iff_not] at hc2
    have hgr:Gv r=true:=OI Z (by grind)
    exact q4 (asg' O (OkL.nil (OkQ.then_ (OkC.ret (OkQ.in_ret (OkQ.then_ret (OkQ.round1_ret (OkQ.in_ret (OkQ.then_ret (ret_one O (rd_tmp (v:=(Value.bool true)) O) (λw hw=>⟨by rw [hgr],hw.out⟩)))))))))))
   ·simp only [Bool.and_eq_true,Bool.or_eq_true,Bool.and_eq_false_iff,Bool.or_eq_false_iff,Bool.not_eq_true',Bool.not_eq_false',decide_eq_true_eq,decide_eq_false_iff_not] at hc2
    have hsj:(Ct (r.ds.getD i EB).x&&Ct (r.ds.getD i EB).y)=true:=by grind
    exact OkC.skip (OkQ.in_normal (OkQ.then_ (OkC.region (AM O (AH (AX (c:=((i+1:Nat):Int)) O O (AR (a:=i) (b:=1) Z)) O (asg' O (OkL.nil (OkQ.subF (sL [1,3] O) (OkQ.round1 (i+1) (⟨Z,λj hj=>by rcases Nat.lt_or_ge j i with k|k;exact hs j k;rw [show j=i by omega];exact hsj⟩) Z (sF O) sr)))))))))
  ·replace hc1:=of_decide_eq_false hc1
   have hgr:Gv r=false:=Re hgl λj hj=>hs j Z
   exact OkC.exit (OkQ.then_exit (OkQ.round1_exit (OkQ.in_exit (q2 (asg' O (OkL.nil (OkQ.then_ (OkC.ret (ret_one O (rd_tmp (v:=(Value.bool false)) O) (λw hw=>⟨by rw [hgr],hw.out⟩))))))))))
theorem J2 (x0:Pt):Instr.fill (λi=>some (i*10,10)) ((Array.range (1*10)).map ((Value.agg (BC (⟨0,0⟩:Pt)).toArray).cells[·%(Value.agg (BC (⟨0,0⟩:Pt)).toArray).cells.size]!)) [(0,.agg (BC x0).toArray)]=some (BC x0).toArray:=by kernel_rfl
set_option maxHeartbeats 1000000 in
theorem Un (r:RW) (hl1:r.ds.length<=24) (hl2:r.ts.length<=24) (hl3:r.ss.length<=60) (w:World) {S:Nat->Prop} (hr:Ro S w r):Calls prog 10 #[(aG (Fb r))] w (Af (MZ r.ps r.ts r.ss) S w):=by
 have lr:=CI (W:=w) hr
 refine AY (args:=[(aG (Fb r))]) (L:=[AE r.a.p (rowsL Fe r.ds),AE r.b.p (rowsL Ac r.ts),AE r.c.p (rowsL Ac r.ss)]) func10 O O (AI O) (D9 hr Aj) (OkC.subF (sL [0] O) (q4 (Be (cs:=Fb r) O λb1=>al IW O λb2=>q6 (sL [1,2] O) (rN [(0,true),(1,true),(3,true),(4,true),(2,false),(5,false),(6,true)] [⟨7,3,30,[(Value.slice none 0 0),(Value.slice none 0 0),(Value.slice none 0 0)]⟩] [(8,false)] sr (by kernel_rfl) (λ_ _ d _ _ h=>by cases d<;>exact h) (UK O O IW O (WD)) O (W6 (v:=(pP b1 1)) O (AA O underlying26 O sizeOf23 O) O (Ym 1 (Value.slice r.b.p r.ts.length r.b.c) CU O (W6 (v:=(pP b1 2)) O (AA O underlying26 O sizeOf24 O) O (Ym 1 (Value.slice r.c.p r.ss.length r.c.c) D4 O (Cw.imp O λEF EL=>?_)))))))))
 refine OkL.nilRow 105 3 (OkL.appendE0 Kl O OwnOk.none O (L9 (k:=4) O r.b.ok) (Aa Ay _) (DB Hy _) (G0 Z) Z O λptb ctb otb=>Cw.back1 (sl sr) O (Cw.imp O λEF EL=>OkL.nilRow 110 3 (OkL.appendE0 ZJ O OwnOk.none O (L9 (k:=6) O r.c.ok) (Aa Ay _) (DB Hy _) (G0 Z) Z O λpsb csb osb=>Cw.back1 (sl (sl sr)) O (W6 (v:=(aG ([(Value.slice none 0 0),(Value.slice ptb r.ts.length ctb),(Value.slice psb r.ss.length csb)]))) O (AQ (zs:=[(Value.slice none 0 0),(Value.slice none 0 0),(Value.slice none 0 0)]) (vs:=[(Value.slice none 0 0),(Value.slice ptb r.ts.length ctb),(Value.slice psb r.ss.length csb)]) (pv:=[(1,(Value.slice ptb r.ts.length ctb)),(2,(Value.slice psb r.ss.length csb))]) (places:=[(0,1),(1,1),(2,1)]) zeroValue30 underlying30 (λw=>by simp [sizeOf23,sizeOf24,sizeOf28]) O O) O (Cw.news1 λb3=>OkE.imp O (Ax O sizeOf30 O (OkL.nilRow 99 10 ?_)))))))
 refine OkE.back (sl (sl (sl (sl sr)))) (OkE.nil (OkQ.subF (sL [1,2,3] O) (q1 (q4 (asg' O (OkL.nil (OkQ.then_ (OkC.block ?_))))))))
 refine OkC.lp4 (tg λ(i:Nat) (p1:Option Addr) (c1:Nat) (ps:List Pt)=>i<=r.ds.length/\OwnOk p1 ps.length c1/\ps=r.ps.take i) (tg λ(i:Nat) (p1:Option Addr) (c1:Nat) (ps:List Pt)=>[(1,(pP b1 0)),(2,(pP b2 0)),(3,(pP b3 0)),(4,(vN i))]) (tg λ(i:Nat) (p1:Option Addr) (c1:Nat) (ps:List Pt)=>[rowW p1 99 10 ps.length c1 (rowsL BC ps),AU b3 30 ([(Value.slice p1 ps.length c1),(Value.slice ptb r.ts.length ctb),(Value.slice psb r.ss.length csb)]),rowW psb 110 3 r.ss.length csb (rowsL Ac r.ss),rowW ptb 105 3 r.ts.length ctb (rowsL Ac r.ts),AU b2 30 ([(Value.slice none 0 0),(Value.slice none 0 0),(Value.slice none 0 0)]),AU b1 26 (Fb r),AE r.a.p (rowsL Fe r.ds),AE r.b.p (rowsL Ac r.ts),AE r.c.p (rowsL Ac r.ss)]) (tg λ(i:Nat) (p1:Option Addr) (c1:Nat) (ps:List Pt)=>r.ds.length-i) 0 none 0 ([]:List Pt) (⟨Nat.zero_le _,OwnOk.none,rfl⟩) (sF O) sr (λi p1 c1 ps hJ=>?_)
 obtain ⟨hi,h1,hps⟩:=hJ
 have hpl:ps.length<=24:=by rw [hps,List.length_take];omega
 refine OkC.seq (q4 (AM O (AH (v:=(pP b1 0)) (AA O underlying26 O sizeOf22 O) O (Au 5 (Value.slice r.a.p r.ds.length r.a.c) OD O (AH (v:=(vN r.ds.length)) (AD O underlying22) O (AH (Ae (c:=(decide (i<r.ds.length))) O O (CB (a:=i) (b:=r.ds.length))) O (OkL.nil (OkQ.subF (sL [1,2,3,4,16] O) (OkQ.then_ ?_)))))))))
 refine OkC.cond O (λhc0=>?_) (λhc0=>?_)
 ·replace hc0:=of_decide_eq_true hc0
  refine OkC.skip (q1 (OkC.block (rC [(0,true),(1,true),(2,true),(3,true),(4,true),(5,true),(6,true),(7,false),(8,false),(9,false),(10,true)] 11 [] (sl sr) (sl sr) (by kernel_rfl) (λ_ _ d _ _ h=>by cases d<;>exact h) (vE (v:=(pP b3 0)) O (AA O underlying30 O sizeOf28 O) O (vE O (AF (i:=0) (v:=(Value.slice p1 ps.length c1)) O O DE.a O) O (vE (v:=(pP b1 0)) O (AA O underlying26 O sizeOf22 O) O (vE O (AF (i:=4) (v:=(Value.slice r.a.p r.ds.length r.a.c)) O O OD.a O) O (vM O O O (vE (v:=(pP (pB r.a.p) (pO r.a.p+i*4))) O (AL (j:=i) O O r.a.ok underlying22 sizeOf96 O Z) O (vE (v:=(aG (Fe (r.ds.getD i EB)))) O (AT (vs:=Fe (r.ds.getD i EB)) (i:=5) O O (Av.ne r.a.ok Z) Yx (Am Fp _ _ _ Z) (Fp _)) O (Ch.imp O ?_)))))))))))
  refine ck' call37 (XY (r.ds.getD i EB) (r.ok Z)) O (Ch.back (sl sr) (Ch.imp O (OkL.openV (V:=λb4=>(Value.slice (some ⟨b4,0,none⟩) 1 1)) (T:=99) (cs:=BC (GE (r.ds.getD i EB))) (AP O) (Ao (z:=.agg (BC (⟨0,0⟩:Pt)).toArray) (cs:=BC (GE (r.ds.getD i EB))) (pv:=[(0,(aG (BC (GE (r.ds.getD i EB)))))]) underlying28 sizeOf99 zeroValue99 (by decide) (by decide) O (J2 (GE (r.ds.getD i EB)))) O (AI O) λb4=>Ch.back (sl (sl sr)) (Ch.imp O (OkL.append1 (j:=0) (cs2:=rowsL BC (ps++[GE (r.ds.getD i EB)])) VG O h1 (Aa Bk _) O O O O (by decide) (G0 Z) Z (by rw [BT];rfl) O λp_1 c_1 ho_1 hne_1=>Ch.back (sl (sl sr)) (vE (v:=(pP b3 0)) O (AA O underlying30 O sizeOf28 O) O (Ch.cut O (FG 2 (off:=0) (vs:=[(Value.slice p_1 (ps.length+1) c_1)]) (cs':=[(Value.slice p_1 (ps.length+1) c_1),(Value.slice ptb r.ts.length ctb),(Value.slice psb r.ss.length csb)]) (AP O) O sizeOf28 O (OkE.back (sl (sl (sl sr))) ?_)))))))))
  refine OkE.nil (OkQ.subF (sL [1,2,3,4] O) (OkQ.in_normal (OkQ.then_ (OkC.region (AM O (AH (AX (c:=((i+1:Nat):Int)) O O (AR (a:=i) (b:=1) Z)) O (asg' O (OkL.nil (OkQ.subF (sL [1,2,3,4] O) ?_)))))))))
  rw [show ps.length+1=(ps++[GE (r.ds.getD i EB)]).length by simp]
  exact OkQ.round4 (i+1) p_1 c_1 (ps++[GE (r.ds.getD i EB)]) (⟨Z,(by simpa using ho_1),by rw [hps,No r Z]⟩) Z (sF O) (sl sr)
 ·replace hc0:=of_decide_eq_false hc0
  exact OkC.exit (OkQ.then_exit (OkQ.round4_exit (OkQ.in_exit (q2 (BH 1 Dn O (FG 4 (off:=0) (vs:=[(Value.slice p1 ps.length c1),(Value.slice ptb r.ts.length ctb),(Value.slice psb r.ss.length csb)]) (cs':=[(Value.slice p1 ps.length c1),(Value.slice ptb r.ts.length ctb),(Value.slice psb r.ss.length csb)]) (AP O) O sizeOf30 O (OkL.nil (OkQ.subF (sL [1,2,3,4] O) (OkQ.then_ (OkC.ret (ret_one O (Ak (i:=4) (cs:=[(Value.slice p1 ps.length c1),(Value.slice ptb r.ts.length ctb),(Value.slice psb r.ss.length csb)]) O O isAgg30 sizeOf30 O) (λw hw=>(by have hpf:ps=r.ps:=(by rw [hps,show i=r.ds.length by omega,<-r.pl,List.take_length]);subst hpf;exact ZQ hw 0 3 2 O O O h1 otb osb O O O O)))))))))))))
theorem Ir (x0:Z3):Instr.fill (λi=>some (i*3,3)) ((Array.range (1*3)).map ((Value.agg (Ac ((0,0,0):Z3)).toArray).cells[·%(Value.agg (Ac ((0,0,0):Z3)).toArray).cells.size]!)) [(0,.agg (Ac x0).toArray)]=some (Ac x0).toArray:=by kernel_rfl
set_option maxHeartbeats 1000000 in
theorem P8 (r:RW) (hl1:r.ds.length<=24) (hl2:r.ts.length<=24) (hl3:r.ss.length<=60) (w:World) {S:Nat->Prop} (hr:Ro S w r):Calls prog 13 #[(aG (Fb r))] w (Af (HO r.ps r.ts r.ss) S w):=by
 have lr:=CI (W:=w) hr
 refine AY (args:=[(aG (Fb r))]) (L:=[AE r.a.p (rowsL Fe r.ds),AE r.b.p (rowsL Ac r.ts),AE r.c.p (rowsL Ac r.ss)]) func13 O O (AI O) (D9 hr Aj) (OkC.subF (sL [0] O) (q4 (Be (cs:=Fb r) O λb1=>al PK O λb2=>q3 (sL [1,2] O) (AH (v:=(pP b1 1)) (AA O underlying26 O sizeOf23 O) O (Au 1 (Value.slice r.b.p r.ts.length r.b.c) CU O (OkL.nilRow 105 3 (OkL.appendE0 Kl O OwnOk.none O (L9 (k:=4) O r.b.ok) (Aa Ay _) (DB Hy _) (G0 Z) Z O λptb ctb otb=>AH (v:=(aG ([(Value.slice none 0 0),(Value.slice ptb r.ts.length ctb),(Value.slice none 0 0)]))) (AQ (zs:=[(Value.slice none 0 0),(Value.slice none 0 0),(Value.slice none 0 0)]) (vs:=[(Value.slice none 0 0),(Value.slice ptb r.ts.length ctb),(Value.slice none 0 0)]) (pv:=[(1,(Value.slice ptb r.ts.length ctb))]) (places:=[(0,1),(1,1),(2,1)]) zeroValue39 underlying39 (λw=>by simp [sizeOf23,sizeOf36,sizeOf37]) O O) O (al PK O λb3=>?_))))))))
 refine Ax O sizeOf39 O (OkL.nilRow 121 6 (OkL.nilRow 119 3 (q6 (sL [1,2,3] O) (q4 (asg' O (OkL.nil (OkQ.then_ (OkC.block ?_))))))))
 refine OkC.lp4 (tg λ(i:Nat) (p2:Option Addr) (c2:Nat) (ss:List Z3)=>i<=r.ss.length/\OwnOk p2 ss.length c2/\ss=r.ss.take i) (tg λ(i:Nat) (p2:Option Addr) (c2:Nat) (ss:List Z3)=>[(1,(pP b1 0)),(2,(pP b2 0)),(3,(pP b3 0)),(4,(vN i))]) (tg λ(i:Nat) (p2:Option Addr) (c2:Nat) (ss:List Z3)=>[rowW p2 119 3 ss.length c2 (rowsL Ac ss),rowW none 121 6 0 0 (rowsL B0 ([]:List RP)),AU b3 39 ([(Value.slice none 0 0),(Value.slice ptb r.ts.length ctb),(Value.slice p2 ss.length c2)]),rowW ptb 105 3 r.ts.length ctb (rowsL Ac r.ts),AU b2 39 ([(Value.slice none 0 0),(Value.slice none 0 0),(Value.slice none 0 0)]),AU b1 26 (Fb r),AE r.a.p (rowsL Fe r.ds),AE r.b.p (rowsL Ac r.ts),AE r.c.p (rowsL Ac r.ss)]) (tg λ(i:Nat) (p2:Option Addr) (c2:Nat) (ss:List Z3)=>r.ss.length-i) 0 none 0 ([]:List Z3) (⟨Nat.zero_le _,OwnOk.none,rfl⟩) (sF O) sr (λi p2 c2 ss hJ=>?_)
 obtain ⟨hi,h2,hss⟩:=hJ
 have hsl:ss.length<=60:=by rw [hss,List.length_take];omega
 refine OkC.seq (q4 (AM O (AH (v:=(pP b1 2)) (AA O underlying26 O sizeOf24 O) O (Au 5 (Value.slice r.c.p r.ss.length r.c.c) D4 O (AH (v:=(vN r.ss.length)) (AD O underlying24) O (AH (Ae (c:=(decide (i<r.ss.length))) O O (CB (a:=i) (b:=r.ss.length))) O (OkL.nil (OkQ.subF (sL [1,2,3,4,14] O) (OkQ.then_ ?_)))))))))
 refine OkC.cond O (λhc0=>?_) (λhc0=>?_)
 ·replace hc0:=of_decide_eq_true hc0
  refine OkC.skip (q1 (OkC.block (rC [(0,true),(1,true),(2,true),(3,true),(4,true),(5,true),(6,true),(7,true),(8,true),(9,true),(10,true),(11,true),(12,true),(13,true),(14,true),(15,true),(16,true),(17,true),(18,true),(19,true),(20,true),(21,false),(22,false),(23,true)] 24 [] (sl sr) (sk (sl sr)) (by kernel_rfl) (λ_ _ d _ _ h=>by cases d<;>exact h) (vE (v:=(pP b3 2)) O (AA O underlying39 O sizeOf37 O) O (vE O (AF (i:=1) (v:=(Value.slice p2 ss.length c2)) O O Gt.a O) O (vE (v:=(pP b1 2)) O (AA O underlying26 O sizeOf24 O) O (vE O (AF (i:=4) (v:=(Value.slice r.c.p r.ss.length r.c.c)) O O D4.a O) O (vM O O O (vE (v:=(pP (pB r.c.p) (pO r.c.p+i*3))) O (AL (j:=i) O O r.c.ok underlying24 sizeOf110 O Z) O (vE (v:=(pP (pB r.c.p) (pO r.c.p+(i*3+0)))) O (AA O underlying110 O sizeOf3 (Nat.add_assoc _ _ _)) O (vE O (AW (v:=(vI ((r.ss.getD i ((0,0,0):Z3)).1))) (i:=7) O O (Av.ne r.c.ok Z) BL (BW Ay ((0,0,0):Z3) _ _ 0 Z (by decide) O)) O ?_)))))))))))
  refine vE (v:=(pP b1 2)) O (AA O underlying26 O sizeOf24 O) O (vE O (AF (i:=4) (v:=(Value.slice r.c.p r.ss.length r.c.c)) O O D4.a O) O (vM O O O (vE (v:=(pP (pB r.c.p) (pO r.c.p+i*3))) O (AL (j:=i) O O r.c.ok underlying24 sizeOf110 O Z) O (vE (v:=(pP (pB r.c.p) (pO r.c.p+(i*3+1)))) O (AA O underlying110 O sizeOf3 (Nat.add_assoc _ _ _)) O (vE O (AW (v:=(vI ((r.ss.getD i ((0,0,0):Z3)).2.1))) (i:=7) O O (Av.ne r.c.ok Z) BL (BW Ay ((0,0,0):Z3) _ _ 1 Z (by decide) O)) O (vE (v:=(pP b1 2)) O (AA O underlying26 O sizeOf24 O) O (vE O (AF (i:=4) (v:=(Value.slice r.c.p r.ss.length r.c.c)) O O D4.a O) O (vM O O O (vE (v:=(pP (pB r.c.p) (pO r.c.p+i*3))) O (AL (j:=i) O O r.c.ok underlying24 sizeOf110 O Z) O (vE (v:=(pP (pB r.c.p) (pO r.c.p+(i*3+2)))) O (AA O underlying110 O sizeOf3 (Nat.add_assoc _ _ _)) O (vE O (AW (v:=(vI ((r.ss.getD i ((0,0,0):Z3)).2.2))) (i:=7) O O (Av.ne r.c.ok Z) BL (BW Ay ((0,0,0):Z3) _ _ 2 Z (by decide) O)) O ?_)))))))))))
  refine vE (v:=(aG ([(vI ((r.ss.getD i ((0,0,0):Z3)).1)),(vI ((r.ss.getD i ((0,0,0):Z3)).2.1)),(vI ((r.ss.getD i ((0,0,0):Z3)).2.2))]))) O (AQ (zs:=Ac ((0,0,0):Z3)) (vs:=[(vI ((r.ss.getD i ((0,0,0):Z3)).1)),(vI ((r.ss.getD i ((0,0,0):Z3)).2.1)),(vI ((r.ss.getD i ((0,0,0):Z3)).2.2))]) (pv:=[(0,(vI ((r.ss.getD i ((0,0,0):Z3)).1))),(1,(vI ((r.ss.getD i ((0,0,0):Z3)).2.1))),(2,(vI ((r.ss.getD i ((0,0,0):Z3)).2.2)))]) (places:=[(0,1),(1,1),(2,1)]) zeroValue119 underlying119 (λw=>by simp [sizeOf3]) O O) O (Ch.imp O (OkL.openV (V:=λb4=>(Value.slice (some ⟨b4,0,none⟩) 1 1)) (T:=119) (cs:=Ac ((((r.ss.getD i ((0,0,0):Z3)).1),((r.ss.getD i ((0,0,0):Z3)).2.1),((r.ss.getD i ((0,0,0):Z3)).2.2)):Z3)) (AP O) (Ao (z:=.agg (Ac ((0,0,0):Z3)).toArray) (cs:=Ac ((((r.ss.getD i ((0,0,0):Z3)).1),((r.ss.getD i ((0,0,0):Z3)).2.1),((r.ss.getD i ((0,0,0):Z3)).2.2)):Z3)) (pv:=[(0,(aG ([(vI ((r.ss.getD i ((0,0,0):Z3)).1)),(vI ((r.ss.getD i ((0,0,0):Z3)).2.1)),(vI ((r.ss.getD i ((0,0,0):Z3)).2.2))])))]) underlying37 sizeOf119 zeroValue119 (by decide) (by decide) O (Ir ((((r.ss.getD i ((0,0,0):Z3)).1),((r.ss.getD i ((0,0,0):Z3)).2.1),((r.ss.getD i ((0,0,0):Z3)).2.2)):Z3))) O (AI O) λb4=>Ch.back (sl (sl sr)) (Ch.imp O (OkL.append1 (j:=0) (cs2:=rowsL Ac (ss++[((((r.ss.getD i ((0,0,0):Z3)).1),((r.ss.getD i ((0,0,0):Z3)).2.1),((r.ss.getD i ((0,0,0):Z3)).2.2)):Z3)])) ZF O h2 (Aa Ay _) O O O O (by decide) (G0 Z) Z (by rw [BT];rfl) O λp_1 c_1 ho_1 hne_1=>Ch.back (sl (sl sr)) (vE (v:=(pP b3 2)) O (AA O underlying39 O sizeOf37 O) O (Ch.cut O (FG 3 (off:=2) (vs:=[(Value.slice p_1 (ss.length+1) c_1)]) (cs':=[(Value.slice none 0 0),(Value.slice ptb r.ts.length ctb),(Value.slice p_1 (ss.length+1) c_1)]) (AP O) O sizeOf37 O (OkE.back (sl (sl (sk (sl sr)))) (OkE.nil ?_)))))))))
  refine OkQ.subF (sL [1,2,3,4] O) (OkQ.in_normal (OkQ.then_ (OkC.region (AM O (AH (AX (c:=((i+1:Nat):Int)) O O (AR (a:=i) (b:=1) Z)) O (asg' O (OkL.nil (OkQ.subF (sL [1,2,3,4] O) ?_))))))))
  rw [show ss.length+1=(ss++[((((r.ss.getD i ((0,0,0):Z3)).1),((r.ss.getD i ((0,0,0):Z3)).2.1),((r.ss.getD i ((0,0,0):Z3)).2.2)):Z3)]).length by simp]
  exact OkQ.round4 (i+1) p_1 c_1 (ss++[((((r.ss.getD i ((0,0,0):Z3)).1),((r.ss.getD i ((0,0,0):Z3)).2.1),((r.ss.getD i ((0,0,0):Z3)).2.2)):Z3)]) (⟨Z,(by simpa using ho_1),by rw [hss,Bf (d:=(0,0,0)) Z]⟩) Z (sF O) (sl sr)
 ·replace hc0:=of_decide_eq_false hc0
  have hsf:ss=r.ss:=by rw [hss,show i=r.ss.length by omega,List.take_length]
  refine OkC.exit (OkQ.then_exit (OkQ.round4_exit (OkQ.in_exit (q1 (q4 (asg' O (OkL.nil (OkQ.then_ (OkC.block ?_)))))))))
  refine OkC.lp4 (tg λ(i:Nat) (p1:Option Addr) (c1:Nat) (rs:List RP)=>i<=r.ds.length/\OwnOk p1 rs.length c1/\rs.map (·.p)=r.ps.take i/\∀y∈Ca rs,∀b,y.foot=some b->Nw ⟨w,none⟩ S b) (tg λ(i:Nat) (p1:Option Addr) (c1:Nat) (rs:List RP)=>[(1,(pP b1 0)),(2,(pP b2 0)),(3,(pP b3 0)),(5,(vN i))]) (tg λ(i:Nat) (p1:Option Addr) (c1:Nat) (rs:List RP)=>(rowW p2 119 3 ss.length c2 (rowsL Ac ss)::rowW p1 121 6 rs.length c1 (rowsL B0 rs)::AU b3 39 ([(Value.slice p1 rs.length c1),(Value.slice ptb r.ts.length ctb),(Value.slice p2 ss.length c2)])::rowW ptb 105 3 r.ts.length ctb (rowsL Ac r.ts)::AU b2 39 ([(Value.slice none 0 0),(Value.slice none 0 0),(Value.slice none 0 0)])::AU b1 26 (Fb r)::AE r.a.p (rowsL Fe r.ds)::AE r.b.p (rowsL Ac r.ts)::AE r.c.p (rowsL Ac r.ss)::Ca rs)) (tg λ(i:Nat) (p1:Option Addr) (c1:Nat) (rs:List RP)=>r.ds.length-i) 0 none 0 ([]:List RP) (⟨Nat.zero_le _,OwnOk.none,rfl,(λy hy=>by cases hy)⟩) (sF O) sr (λi p1 c1 rs hJ=>?_)
  obtain ⟨hi,h1,hps,hat⟩:=hJ
  have hpl:rs.length<=24:=by rw [<-List.length_map (f:=(·.p)),hps,List.length_take];omega
  refine OkC.seq (q4 (AM O (AH (v:=(pP b1 0)) (AA O underlying26 O sizeOf22 O) O (Au 5 (Value.slice r.a.p r.ds.length r.a.c) OD O (AH (v:=(vN r.ds.length)) (AD O underlying22) O (AH (Ae (c:=(decide (i<r.ds.length))) O O (CB (a:=i) (b:=r.ds.length))) O (OkL.nil (OkQ.subF (sL [1,2,3,5,45] O) (OkQ.then_ ?_)))))))))
  refine OkC.cond O (λhc1=>?_) (λhc1=>?_)
  ·replace hc1:=of_decide_eq_true hc1
   refine OkC.skip (q1 (OkC.block (rC [(0,true),(1,true),(2,true),(3,true),(4,true),(5,true),(6,true),(7,false),(8,false),(9,false),(10,true)] 11 [] (sk (sl sr)) (sk (sl sr)) (by kernel_rfl) (λ_ _ d _ _ h=>by cases d<;>exact h) (vE (v:=(pP b3 0)) O (AA O underlying39 O sizeOf36 O) O (vE O (AF (i:=1) (v:=(Value.slice p1 rs.length c1)) O O Fj.a O) O (vE (v:=(pP b1 0)) O (AA O underlying26 O sizeOf22 O) O (vE O (AF (i:=4) (v:=(Value.slice r.a.p r.ds.length r.a.c)) O O OD.a O) O (vM O O O (vE (v:=(pP (pB r.a.p) (pO r.a.p+i*4))) O (AL (j:=i) O O r.a.ok underlying22 sizeOf96 O Z) O (vE (v:=(aG (Fe (r.ds.getD i EB)))) O (AT (vs:=Fe (r.ds.getD i EB)) (i:=5) O O (Av.ne r.a.ok Z) Yx (Am Fp _ _ _ Z) (Fp _)) O (Ch.imp O ?_)))))))))))
   refine cP (S:=S) (x:=(GE (r.ds.getD i EB))) (args:=[(aG (Fe (r.ds.getD i EB)))]) call48 (λw hw=>Vc (r.ds.getD i EB) (r.ok Z) w) O O O λg1 lg1=>Ch.back (sl (sl (sl (sl (sk (sl sr)))))) (Ch.imp O (OkL.openV (V:=λb4=>(Value.slice (some ⟨b4,0,none⟩) 1 1)) (T:=121) (cs:=EP g1) (AP O) (Ao (z:=.agg #[(Value.bool false),(Value.slice none 0 0),(Value.slice none 0 0),(Value.bool false),(Value.slice none 0 0),(Value.slice none 0 0)]) (cs:=EP g1) (pv:=[(0,(aG (EP g1)))]) underlying36 sizeOf121 zeroValue121 (by decide) (by decide) O (SO g1)) O (AI O) λb4=>Ch.back (sl (sl (sl (sl (sl (sk (sl sr))))))) (Ch.imp O (OkL.appendAt 6 (j:=0) (cs2:=rowsL B0 (rs++[(⟨_,g1⟩:RP)])) Xr O h1 (Aa Dd _) O O O O O (by decide) (G0 Z) Z (by rw [BT];rfl) O λp_2 c_2 ho_2 hne_2=>Ch.back (sl (sl (sl (sl (sl (sk (sl sr))))))) (vE (v:=(pP b3 0)) O (AA O underlying39 O sizeOf36 O) O (Ch.cut O (FG 7 (off:=0) (vs:=[(Value.slice p_2 (rs.length+1) c_2)]) (cs':=[(Value.slice p_2 (rs.length+1) c_2),(Value.slice ptb r.ts.length ctb),(Value.slice p2 ss.length c2)]) (AP O) O sizeOf36 O (OkE.back (sl (sl (sl (sl (sl (sk (sl (sl sr)))))))) ?_))))))))
   refine OkE.nil (OkQ.subF (sL [1,2,3,5] O) (OkQ.in_normal (OkQ.then_ (OkC.region (AM O (OkL.subL (sl sr) (OkL.permR (show List.Perm _ (rowW p2 119 3 ss.length c2 (rowsL Ac ss)::rowW p_2 121 6 (rs.length+1) c_2 (rowsL B0 (rs++[(⟨_,g1⟩:RP)]))::AU b3 39 ([(Value.slice p_2 (rs.length+1) c_2),(Value.slice ptb r.ts.length ctb),(Value.slice p2 ss.length c2)])::rowW ptb 105 3 r.ts.length ctb (rowsL Ac r.ts)::AU b2 39 ([(Value.slice none 0 0),(Value.slice none 0 0),(Value.slice none 0 0)])::AU b1 26 (Fb r)::AE r.a.p (rowsL Fe r.ds)::AE r.b.p (rowsL Ac r.ts)::AE r.c.p (rowsL Ac r.ss)::Ca (rs++[(⟨_,g1⟩:RP)])) from Uj (⟨_,g1⟩:RP) [rowW p2 119 3 ss.length c2 (rowsL Ac ss),rowW p_2 121 6 (rs.length+1) c_2 (rowsL B0 (rs++[(⟨_,g1⟩:RP)])),AU b3 39 ([(Value.slice p_2 (rs.length+1) c_2),(Value.slice ptb r.ts.length ctb),(Value.slice p2 ss.length c2)]),rowW ptb 105 3 r.ts.length ctb (rowsL Ac r.ts),AU b2 39 ([(Value.slice none 0 0),(Value.slice none 0 0),(Value.slice none 0 0)]),AU b1 26 (Fb r),AE r.a.p (rowsL Fe r.ds),AE r.b.p (rowsL Ac r.ts),AE r.c.p (rowsL Ac r.ss)] rs) (AH (AX (c:=((i+1:Nat):Int)) O O (AR (a:=i) (b:=1) Z)) O (asg' O (OkL.nil (OkQ.subF (sL [1,2,3,5] O) ?_)))))))))))
   rw [show rs.length+1=(rs++[(⟨_,g1⟩:RP)]).length by simp]
   exact OkQ.round4 (i+1) p_2 c_2 (rs++[(⟨_,g1⟩:RP)]) (⟨Z,(by simpa using ho_2),by rw [List.map_append,hps,No r Z];rfl,At.snoc hat lg1⟩) Z (sF O) sr
  ·replace hc1:=of_decide_eq_false hc1
   exact OkC.exit (OkQ.then_exit (OkQ.round4_exit (OkQ.in_exit (q2 (BH 2 DA O (FG 4 (off:=0) (vs:=[(Value.slice p1 rs.length c1),(Value.slice ptb r.ts.length ctb),(Value.slice p2 ss.length c2)]) (cs':=[(Value.slice p1 rs.length c1),(Value.slice ptb r.ts.length ctb),(Value.slice p2 ss.length c2)]) (AP O) O sizeOf39 O (OkL.nil (OkQ.subF (sL [1,2,3,5] O) (OkQ.then_ (OkC.ret (ret_one O (Ak (i:=4) (cs:=[(Value.slice p1 rs.length c1),(Value.slice ptb r.ts.length ctb),(Value.slice p2 ss.length c2)]) O O isAgg39 sizeOf39 O) (λw hw=>(by rw [<-hsf];exact Tr (A:=[rowW p2 119 3 ss.length c2 (rowsL Ac ss),rowW p1 121 6 rs.length c1 (rowsL B0 rs),AU b3 39 ([(Value.slice p1 rs.length c1),(Value.slice ptb r.ts.length ctb),(Value.slice p2 ss.length c2)]),rowW ptb 105 3 r.ts.length ctb (rowsL Ac r.ts),AU b2 39 ([(Value.slice p1 rs.length c1),(Value.slice ptb r.ts.length ctb),(Value.slice p2 ss.length c2)]),AU b1 26 (Fb r),AE r.a.p (rowsL Fe r.ds),AE r.b.p (rowsL Ac r.ts),AE r.c.p (rowsL Ac r.ss)]) hw 1 3 0 O O O h1 otb h2 O O O (by rw [hps,show i=r.ds.length by omega,<-r.pl,List.take_length]) hat O)))))))))))))
end
end Go.Proofs.YtpolhpjiahbidaaGreatDoor
