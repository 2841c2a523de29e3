import Derived.Test.YtpgncndhhhllfaaGreatPart03
import Derived.Test.YtpgncndhhhllfaaGreatPart12
import Derived.Test.YtpgncndhhhllfaaGreatPart17
import Derived.Test.YtpgncndhhhllfaaGreatPart23
import Derived.Test.YtpgncndhhhllfaaGreatPart26
import Derived.Test.YtpgncndhhhllfaaGreatPart43
import Derived.Test.YtpgncndhhhllfaaGreatPart45
namespace Go.Proofs.YtpgncndhhhllfaaGreat
open Go Go.RowKit Go.Proofs.Tryz
set_option linter.unusedVariables false
set_option linter.unusedSimpArgs false
section
set_option maxRecDepth 100000
theorem av:ElemT prog 35 99 6 112:=⟨underlying35,Co (by kernel_rfl)⟩
def Di (q:QD):Bool:=decide (-1000000<=q.n)&&(decide (q.n<=1000000)&&decide (q.d<=1000000))
def Ha (r:RW):Bool:=decide (24<r.ds.length)||(decide (24<r.ts.length)||(decide (60<r.ss.length)||r.ds.any λd=>!(Di d.x&&Di d.y)))
theorem VC {r:RW} (h:Ha r=false):r.ds.length<=24/\r.ts.length<=24/\r.ss.length<=60:=by
 unfold Ha at h
 simp only [Bool.or_eq_false_iff,decide_eq_false_iff_not] at h
 omega
theorem Sq {r:RW} {i:Nat} (hi:i<r.ds.length) (h:(!Di (r.ds.getD i EQ).x||!Di (r.ds.getD i EQ).y)=true):Ha r=true:=by
 unfold Ha
 have:(r.ds.any λd=>!(Di d.x&&Di d.y))=true:=List.any_eq_true.2 ⟨_,List.getElem_mem hi,by
  rw [List.getD,List.getElem?_eq_getElem hi] at h
  simpa using h⟩
 rw [this];simp
theorem RV {r:RW} (h:24<r.ds.length\/24<r.ts.length\/60<r.ss.length):Ha r=true:=by
 unfold Ha
 rcases h with h|h|h<;>simp [h]
theorem RG {r:RW} (h:¬(24<r.ds.length\/24<r.ts.length\/60<r.ss.length)) (hs:∀i,i<r.ds.length->(Di (r.ds.getD i EQ).x&&Di (r.ds.getD i EQ).y)=true):Ha r=false:=by
 unfold Ha
 have:(r.ds.any λd=>!(Di d.x&&Di d.y))=false:=by
  rw [List.any_eq_false]
  intro d hd
  obtain ⟨i,hi,rfl⟩:=List.getElem_of_mem hd
  have:=hs i hi
  rw [List.getD,List.getElem?_eq_getElem hi] at this
  simpa using this
 rw [this]
 simp only [Bool.or_eq_false_iff,decide_eq_false_iff_not]
 exact ⟨Z,Z,Z,trivial⟩
theorem Li (q:QD) (w:World)  :Calls prog 30 #[(aG (HZ q))] w (Ak w (Value.bool (Di q))):=by
 refine An (args:=[(aG (HZ q))]) func30 O O (AV O) (AE.subF (sL [0] O) (q4 (B0 (cs:=HZ q) O λb1=>AI O (q3 (sL [1,2] O) (AK (v:=(pP b1 0)) (AB O underlying53 O sizeOf2 O) O (BL 0 (vI q.n) aN O (AK (CI (c:=(decide ((-1000000:Int)<=q.n))) O O O) O (AM O ?_))))))))
 refine AC.mid (FM:=[(1,(pP b1 0)),(2,(Value.bool false)),(3,(pP b1 0)),(4,(vI q.n)),(5,(Value.bool (decide ((-1000000:Int)<=q.n)))),(6,(Value.bool (decide ((-1000000:Int)<=q.n)))),(10,(Value.bool ((decide ((-1000000:Int)<=q.n))&&(decide (q.n<=(1000000:Int))))))]) (LM:=[Ah b1 53 (HZ q)]) 4 ?_ ?_
 ·rcases Bool.eq_false_or_eq_true (decide ((-1000000:Int)<=q.n)) with hg1|hg1
  ·skip
   refine AC.retell (k:=6) (u:=Value.bool true) O (by rw [hg1]) ?_
   have hg1':=hg1
   replace hg1':=of_decide_eq_true hg1'
   exact AC.step (v:=(pP b1 0)) (AA O) (AB O underlying53 O sizeOf2 O) O (AV O) (AC.step (v:=(vI q.n)) (AA O) (AN (i:=0) (v:=(vI q.n)) O O aN.a O) O (AV O) (AC.step (v:=(Value.bool (decide (q.n<=(1000000:Int))))) (AA O) (Eq (c:=(decide (q.n<=(1000000:Int)))) O O O) O (AV O) (AK (v:=(Value.bool (decide (q.n<=(1000000:Int))))) (AR O O) O (AC.nil (OkQ.mid (sS O (sS O (sS O (sS O (sS O (sS (by first|rfl|(rw [hg1];rfl)|rw [hg1]) (sS (by first|rfl|(rw [hg1];rfl)|rw [hg1]) (sN)))))))) (List.Sublist.refl _))))))
  ·skip
   refine AC.retell (k:=6) (u:=Value.bool false) O (by rw [hg1]) ?_
   have hg1':=hg1
   replace hg1':=of_decide_eq_false hg1'
   exact AC.skip (AD O) O (AV O) (AC.skip (AD O) O (AV O) (AC.skip (AD O) O (AV O) (AK (v:=(Value.bool false)) (AO O O) O (AC.nil (OkQ.mid (sS O (sS O (sS O (sS O (sS O (sS (by first|rfl|(rw [hg1];rfl)|rw [hg1]) (sS (by first|rfl|(rw [hg1];rfl)|rw [hg1]) (sN)))))))) (List.Sublist.refl _))))))
 refine AM O ?_
 refine AC.mid (FM:=[(1,(pP b1 0)),(2,(Value.bool false)),(3,(pP b1 0)),(4,(vI q.n)),(5,(Value.bool (decide ((-1000000:Int)<=q.n)))),(6,(Value.bool (decide ((-1000000:Int)<=q.n)))),(10,(Value.bool ((decide ((-1000000:Int)<=q.n))&&(decide (q.n<=(1000000:Int)))))),(11,(Value.bool ((decide ((-1000000:Int)<=q.n))&&(decide (q.n<=(1000000:Int)))))),(15,(Value.bool (((decide ((-1000000:Int)<=q.n))&&(decide (q.n<=(1000000:Int))))&&(decide (q.d<=1000000)))))]) (LM:=[Ah b1 53 (HZ q)]) 4 ?_ ?_
 ·rcases Bool.eq_false_or_eq_true ((decide ((-1000000:Int)<=q.n))&&(decide (q.n<=(1000000:Int)))) with hg2|hg2
  ·skip
   refine AC.retell (k:=11) (u:=Value.bool true) O (by rw [hg2]) ?_
   have hg2':=hg2
   simp only [Bool.and_eq_true,Bool.or_eq_true,Bool.and_eq_false_iff,Bool.or_eq_false_iff,Bool.not_eq_true',Bool.not_eq_false',decide_eq_true_eq,decide_eq_false_iff_not] at hg2'
   exact AC.step (v:=(pP b1 1)) (AA O) (AB O underlying53 O sizeOf50 O) O (AV O) (AC.step (v:=(vK .u32 q.d)) (AA O) (AN (i:=0) (v:=(vK .u32 q.d)) O O YA.a O) O (AV O) (AC.step (v:=(Value.bool (decide (q.d<=1000000)))) (AA O) (Eq (c:=(decide (q.d<=1000000))) O O (SW (a:=q.d) (b:=1000000))) O (AV O) (AK (v:=(Value.bool (decide (q.d<=1000000)))) (AR O O) O (AC.nil (OkQ.mid (sS O (sS O (sS O (sS O (sS O (sS O (sS O (sS (by first|rfl|(rw [hg2];rfl)|rw [hg2]) (sS (by first|rfl|(rw [hg2];rfl)|rw [hg2]) (sN)))))))))) (List.Sublist.refl _))))))
  ·skip
   refine AC.retell (k:=11) (u:=Value.bool false) O (by rw [hg2]) ?_
   have hg2':=hg2
   simp only [Bool.and_eq_true,Bool.or_eq_true,Bool.and_eq_false_iff,Bool.or_eq_false_iff,Bool.not_eq_true',Bool.not_eq_false',decide_eq_true_eq,decide_eq_false_iff_not] at hg2'
   exact AC.skip (AD O) O (AV O) (AC.skip (AD O) O (AV O) (AC.skip (AD O) O (AV O) (AK (v:=(Value.bool false)) (AO O O) O (AC.nil (OkQ.mid (sS O (sS O (sS O (sS O (sS O (sS O (sS O (sS (by first|rfl|(rw [hg2];rfl)|rw [hg2]) (sS (by first|rfl|(rw [hg2];rfl)|rw [hg2]) (sN)))))))))) (List.Sublist.refl _))))))
 exact AI O (AC.nil (OkQ.subF (sL [2] O) (OkQ.then_ (AE.ret (AS O (AZ (v:=(Value.bool (((decide ((-1000000:Int)<=q.n))&&(decide (q.n<=(1000000:Int))))&&(decide (q.d<=1000000))))) O) (λw hw=>⟨by unfold Di;simp [Bool.and_assoc],hw.out⟩))))))
theorem Mt (r:RW) (w:World) {S:Nat->Prop} (hr:Ro S w r):Calls prog 10 #[(aG (G8 r))] w (Ak w (Value.bool (Ha r))):=by
 have lr:=CV (W:=w) hr
 refine Ag (args:=[(aG (G8 r))]) (L:=[AJ r.a.p (rowsL Gj r.ds),AJ r.b.p (rowsL Bg r.ts),AJ r.c.p (rowsL Bg r.ss)]) func10 O O (AV O) (C4 hr Ao) (AE.subF (sL [0] O) (q4 (B0 (cs:=G8 r) O λb1=>AI O (q6 (sL [1,2] O) (q4 (AK (v:=(pP b1 0)) (AB O underlying44 O sizeOf42 O) O (BL 0 (Value.slice r.a.p r.ds.length r.a.c) Nq O (AK (v:=(vN r.ds.length)) (AF O underlying42) O (AK (CC (c:=(decide (24<r.ds.length))) O O (B7 (a:=24) (b:=r.ds.length))) O (AM O ?_))))))))))
 refine AC.mid (FM:=[(1,(pP b1 0)),(2,(Value.bool false)),(4,(pP b1 0)),(5,(Value.slice r.a.p r.ds.length r.a.c)),(6,(vN r.ds.length)),(7,(Value.bool (decide (24<r.ds.length)))),(8,(Value.bool (decide (24<r.ds.length)))),(13,(Value.bool ((decide (24<r.ds.length))||(decide (24<r.ts.length)))))]) (LM:=[Ah b1 44 (G8 r),AJ r.a.p (rowsL Gj r.ds),AJ r.b.p (rowsL Bg r.ts),AJ r.c.p (rowsL Bg r.ss)]) 5 ?_ ?_
 ·rcases Bool.eq_false_or_eq_true (decide (24<r.ds.length)) with hg1|hg1
  ·skip
   refine AC.retell (k:=8) (u:=Value.bool true) O (by rw [hg1]) ?_
   have hg1':=hg1
   replace hg1':=of_decide_eq_true hg1'
   exact AC.skip (AD O) O (AV O) (AC.skip (AD O) O (AV O) (AC.skip (AD O) O (AV O) (AC.skip (AD O) O (AV O) (AK (v:=(Value.bool true)) (AR O O) O (AC.nil (OkQ.mid (sS O (sS O (sS O (sS O (sS O (sS O (sS (by first|rfl|(rw [hg1];rfl)|rw [hg1]) (sS (by first|rfl|(rw [hg1];rfl)|rw [hg1]) (sN))))))))) (List.Sublist.refl _)))))))
  ·skip
   refine AC.retell (k:=8) (u:=Value.bool false) O (by rw [hg1]) ?_
   have hg1':=hg1
   replace hg1':=of_decide_eq_false hg1'
   exact AC.step (v:=(pP b1 1)) (AA O) (AB O underlying44 O sizeOf28 O) O (AV O) (AC.step (v:=(Value.slice r.b.p r.ts.length r.b.c)) (AA O) (AN (i:=0) (v:=(Value.slice r.b.p r.ts.length r.b.c)) O O Bp.a O) O (AV O) (AC.step (v:=(vN r.ts.length)) (AA O) (AF O underlying28) O (AV O) (AC.step (v:=(Value.bool (decide (24<r.ts.length)))) (AA O) (CC (c:=(decide (24<r.ts.length))) O O (B7 (a:=24) (b:=r.ts.length))) O (AV O) (AK (v:=(Value.bool (decide (24<r.ts.length)))) (AO O O) O (AC.nil (OkQ.mid (sS O (sS O (sS O (sS O (sS O (sS O (sS (by first|rfl|(rw [hg1];rfl)|rw [hg1]) (sS (by first|rfl|(rw [hg1];rfl)|rw [hg1]) (sN))))))))) (List.Sublist.refl _)))))))
 refine AM O ?_
 refine AC.mid (FM:=[(1,(pP b1 0)),(2,(Value.bool false)),(4,(pP b1 0)),(5,(Value.slice r.a.p r.ds.length r.a.c)),(6,(vN r.ds.length)),(7,(Value.bool (decide (24<r.ds.length)))),(8,(Value.bool (decide (24<r.ds.length)))),(13,(Value.bool ((decide (24<r.ds.length))||(decide (24<r.ts.length))))),(14,(Value.bool ((decide (24<r.ds.length))||(decide (24<r.ts.length))))),(19,(Value.bool (((decide (24<r.ds.length))||(decide (24<r.ts.length)))||(decide (60<r.ss.length)))))]) (LM:=[Ah b1 44 (G8 r),AJ r.a.p (rowsL Gj r.ds),AJ r.b.p (rowsL Bg r.ts),AJ r.c.p (rowsL Bg r.ss)]) 5 ?_ ?_
 ·rcases Bool.eq_false_or_eq_true ((decide (24<r.ds.length))||(decide (24<r.ts.length))) with hg2|hg2
  ·skip
   refine AC.retell (k:=14) (u:=Value.bool true) O (by rw [hg2]) ?_
   have hg2':=hg2
   simp only [Bool.and_eq_true,Bool.or_eq_true,Bool.and_eq_false_iff,Bool.or_eq_false_iff,Bool.not_eq_true',Bool.not_eq_false',decide_eq_true_eq,decide_eq_false_iff_not] at hg2'
   exact AC.skip (AD O) O (AV O) (AC.skip (AD O) O (AV O) (AC.skip (AD O) O (AV O) (AC.skip (AD O) O (AV O) (AK (v:=(Value.bool true)) (AR O O) O (AC.nil (OkQ.mid (sS O (sS O (sS O (sS O (sS O (sS O (sS O (sS O (sS (by first|rfl|(rw [hg2];rfl)|rw [hg2]) (sS (by first|rfl|(rw [hg2];rfl)|rw [hg2]) (sN))))))))))) (List.Sublist.refl _)))))))
  ·skip
   refine AC.retell (k:=14) (u:=Value.bool false) O (by rw [hg2]) ?_
   have hg2':=hg2
   simp only [Bool.and_eq_true,Bool.or_eq_true,Bool.and_eq_false_iff,Bool.or_eq_false_iff,Bool.not_eq_true',Bool.not_eq_false',decide_eq_true_eq,decide_eq_false_iff_not] at hg2'
   exact AC.step (v:=(pP b1 2)) (AA O) (AB O underlying44 O sizeOf29 O) O (AV O) (AC.step (v:=(Value.slice r.c.p r.ss.length r.c.c)) (AA O) (AN (i:=0) (v:=(Value.slice r.c.p r.ss.length r.c.c)) O O RJ.a O) O (AV O) (AC.step (v:=(vN r.ss.length)) (AA O) (AF O underlying29) O (AV O) (AC.step (v:=(Value.bool (decide (60<r.ss.length)))) (AA O) (CC (c:=(decide (60<r.ss.length))) O O (B7 (a:=60) (b:=r.ss.length))) O (AV O) (AK (v:=(Value.bool (decide (60<r.ss.length)))) (AO O O) O (AC.nil (OkQ.mid (sS O (sS O (sS O (sS O (sS O (sS O (sS O (sS O (sS (by first|rfl|(rw [hg2];rfl)|rw [hg2]) (sS (by first|rfl|(rw [hg2];rfl)|rw [hg2]) (sN))))))))))) (List.Sublist.refl _)))))))
 refine AC.nil (OkQ.subF (sL [1,2,19] O) (OkQ.then_ ?_))
 refine AE.cond O (λhc0=>?_) (λhc0=>?_)
 ·simp only [Bool.and_eq_true,Bool.or_eq_true,Bool.and_eq_false_iff,Bool.or_eq_false_iff,Bool.not_eq_true',Bool.not_eq_false',decide_eq_true_eq,decide_eq_false_iff_not] at hc0
  have hgr:Ha r=true:=RV (by grind)
  exact q4 (AI O (AC.nil (OkQ.then_ (AE.ret (OkQ.then_ret (AS O (AZ (v:=(Value.bool true)) O) (λw hw=>⟨by rw [hgr],hw.out⟩)))))))
 ·simp only [Bool.and_eq_true,Bool.or_eq_true,Bool.and_eq_false_iff,Bool.or_eq_false_iff,Bool.not_eq_true',Bool.not_eq_false',decide_eq_true_eq,decide_eq_false_iff_not] at hc0
  have hgl:¬(24<r.ds.length\/24<r.ts.length\/60<r.ss.length):=by grind
  refine AE.skip (q1 (q4 (AI O (AC.nil (OkQ.then_ (AE.block ?_))))))
  refine AE.lp1 (tg λ(i:Nat)=>i<=r.ds.length/\∀j,j<i->(Di (r.ds.getD j EQ).x&&Di (r.ds.getD j EQ).y)=true) (tg λ(i:Nat)=>[(1,(pP b1 0)),(3,(vN i))]) (tg λ(i:Nat)=>[Ah b1 44 (G8 r),AJ r.a.p (rowsL Gj r.ds),AJ r.b.p (rowsL Bg r.ts),AJ r.c.p (rowsL Bg r.ss)]) (tg λ(i:Nat)=>r.ds.length-i) 0 (⟨Nat.zero_le _,λj h=>absurd h (Nat.not_lt_zero _)⟩) (sF O) sr (λi hJ=>?_)
  obtain ⟨hi,hs⟩:=hJ
  refine AE.seq (q4 (AM O (AK (v:=(pP b1 0)) (AB O underlying44 O sizeOf42 O) O (BL 0 (Value.slice r.a.p r.ds.length r.a.c) Nq O (AK (v:=(vN r.ds.length)) (AF O underlying42) O (AK (Ad (c:=(decide (i<r.ds.length))) O O (B7 (a:=i) (b:=r.ds.length))) O (AC.nil (OkQ.subF (sL [1,3,24] O) (OkQ.then_ ?_)))))))))
  refine AE.cond O (λhc1=>?_) (λhc1=>?_)
  ·replace hc1:=of_decide_eq_true hc1
   refine AE.skip (q1 (AE.block (q4 (AK (v:=(pP b1 0)) (AB O underlying44 O sizeOf42 O) O (BL 0 (Value.slice r.a.p r.ds.length r.a.c) Nq O (AM O (AK (v:=(pP (pB r.a.p) (pO r.a.p+i*4))) (AH (j:=i) O O r.a.ok underlying42 sizeOf55 O Z) O (AK (v:=(pP (pB r.a.p) (pO r.a.p+(i*4+0)))) (AB O underlying55 O sizeOf53 (Nat.add_assoc _ _ _)) O (AK (v:=(aG (HZ ((r.ds.getD i EQ).x)))) (Ai (vs:=HZ ((r.ds.getD i EQ).x)) (i:=1) O O (Ar.ne r.a.ok Z) RF (Jh FJ EQ _ _ 0 2 Z (by decide) O) O) O (ck' call30 (Li ((r.ds.getD i EQ).x)) O (AK (BF (c:=(!(Di ((r.ds.getD i EQ).x)))) O O) O ?_)))))))))))
   refine AM O ?_
   refine AC.mid (FM:=[(1,(pP b1 0)),(3,(vN i)),(27,(pP b1 0)),(28,(Value.slice r.a.p r.ds.length r.a.c)),(29,(vN i)),(30,(pP (pB r.a.p) (pO r.a.p+i*4))),(31,(pP (pB r.a.p) (pO r.a.p+(i*4+0)))),(32,(aG (HZ ((r.ds.getD i EQ).x)))),(33,(Value.bool (Di ((r.ds.getD i EQ).x)))),(34,(Value.bool (!(Di ((r.ds.getD i EQ).x))))),(35,(Value.bool (!(Di ((r.ds.getD i EQ).x))))),(44,(Value.bool ((!(Di ((r.ds.getD i EQ).x)))||(!(Di ((r.ds.getD i EQ).y))))))]) (LM:=[Ah b1 44 (G8 r),AJ r.a.p (rowsL Gj r.ds),AJ r.b.p (rowsL Bg r.ts),AJ r.c.p (rowsL Bg r.ss)]) 9 ?_ ?_
   ·rcases Bool.eq_false_or_eq_true (!(Di ((r.ds.getD i EQ).x))) with hg3|hg3
    ·skip
     refine AC.retell (k:=35) (u:=Value.bool true) O (by rw [hg3]) ?_
     have hg3':=hg3
     simp only [Bool.and_eq_true,Bool.or_eq_true,Bool.and_eq_false_iff,Bool.or_eq_false_iff,Bool.not_eq_true',Bool.not_eq_false',decide_eq_true_eq,decide_eq_false_iff_not] at hg3'
     exact AC.skip (AD O) O (AV O) (AC.skip (AD O) O (AV O) (AC.skip (AD O) O (AV O) (AC.skip (AD O) O (AV O) (AC.skip (AD O) O (AV O) (AC.skip (AD O) O (AV O) (AC.skip (AD O) O (AV O) (AC.skip (AD O) O (AV O) (AK (v:=(Value.bool true)) (AR O O) O (AC.nil (OkQ.mid (sS O (sS O (sS O (sS O (sS O (sS O (sS O (sS O (sS O (sS O (sS (by first|rfl|(rw [hg3];rfl)|rw [hg3]) (sS (by first|rfl|(rw [hg3];rfl)|rw [hg3]) (sN))))))))))))) (List.Sublist.refl _)))))))))))
    ·skip
     refine AC.retell (k:=35) (u:=Value.bool false) O (by rw [hg3]) ?_
     have hg3':=hg3
     simp only [Bool.and_eq_true,Bool.or_eq_true,Bool.and_eq_false_iff,Bool.or_eq_false_iff,Bool.not_eq_true',Bool.not_eq_false',decide_eq_true_eq,decide_eq_false_iff_not] at hg3'
     exact AC.step (v:=(pP b1 0)) (AA O) (AB O underlying44 O sizeOf42 O) O (AV O) (AC.step (v:=(Value.slice r.a.p r.ds.length r.a.c)) (AA O) (AN (i:=0) (v:=(Value.slice r.a.p r.ds.length r.a.c)) O O Nq.a O) O (AV O) (AC.step (v:=(vN i)) (AA O) (AW O) O (AV O) (AC.step (v:=(pP (pB r.a.p) (pO r.a.p+i*4))) (AA O) (AH (j:=i) O O r.a.ok underlying42 sizeOf55 O Z) O (AV O) (AC.step (v:=(pP (pB r.a.p) (pO r.a.p+(i*4+2)))) (AA O) (AB O underlying55 O sizeOf53 (Nat.add_assoc _ _ _)) O (AV O) (AC.step (v:=(aG (HZ ((r.ds.getD i EQ).y)))) (AA O) (Ai (vs:=HZ ((r.ds.getD i EQ).y)) (i:=1) O O (Ar.ne r.a.ok Z) RF (Jh FJ EQ _ _ 2 2 Z (by decide) O) O) O (AV O) (AC.call (v:=(Value.bool (Di ((r.ds.getD i EQ).y)))) (AA O) (Aw (args:=[(aG (HZ ((r.ds.getD i EQ).y)))]) O O call30) (λw hw=>Li ((r.ds.getD i EQ).y) w) O (AV O) (AC.step (v:=(Value.bool (!(Di ((r.ds.getD i EQ).y))))) (AA O) (BF (c:=(!(Di ((r.ds.getD i EQ).y)))) O O) O (AV O) (AK (v:=(Value.bool (!(Di ((r.ds.getD i EQ).y))))) (AO O O) O (AC.nil (OkQ.mid (sS O (sS O (sS O (sS O (sS O (sS O (sS O (sS O (sS O (sS O (sS (by first|rfl|(rw [hg3];rfl)|rw [hg3]) (sS (by first|rfl|(rw [hg3];rfl)|rw [hg3]) (sN))))))))))))) (List.Sublist.refl _)))))))))))
   refine AC.nil (OkQ.subF (sL [1,3,44] O) (OkQ.then_ ?_))
   refine AE.cond O (λhc2=>?_) (λhc2=>?_)
   ·simp only [Bool.and_eq_true,Bool.or_eq_true,Bool.and_eq_false_iff,Bool.or_eq_false_iff,Bool.not_eq_true',Bool.not_eq_false',decide_eq_true_eq,decide_eq_false_iff_not] at hc2
    have hgr:Ha r=true:=Sq Z (by grind)
    exact q4 (AI O (AC.nil (OkQ.then_ (AE.ret (OkQ.in_ret (OkQ.then_ret (OkQ.round1_ret (OkQ.in_ret (OkQ.then_ret (AS O (AZ (v:=(Value.bool true)) O) (λw hw=>⟨by rw [hgr],hw.out⟩)))))))))))
   ·simp only [Bool.and_eq_true,Bool.or_eq_true,Bool.and_eq_false_iff,Bool.or_eq_false_iff,Bool.not_eq_true',Bool.not_eq_false',decide_eq_true_eq,decide_eq_false_iff_not] at hc2
    have hsj:(Di (r.ds.getD i EQ).x&&Di (r.ds.getD i EQ).y)=true:=by grind
    exact AE.skip (OkQ.in_normal (OkQ.then_ (AE.region (AM O (AK (AY (c:=((i+1:Nat):Int)) O O (AU (a:=i) (b:=1) Z)) O (AI O (AC.nil (OkQ.subF (sL [1,3] O) (OkQ.round1 (i+1) (⟨Z,λj hj=>by rcases Nat.lt_or_ge j i with k|k;exact hs j k;rw [show j=i by omega];exact hsj⟩) Z (sF O) sr)))))))))
  ·replace hc1:=of_decide_eq_false hc1
   have hgr:Ha r=false:=RG hgl λj hj=>hs j Z
   exact AE.exit (OkQ.then_exit (OkQ.round1_exit (OkQ.in_exit (q2 (AI O (AC.nil (OkQ.then_ (AE.ret (AS O (AZ (v:=(Value.bool false)) O) (λw hw=>⟨by rw [hgr],hw.out⟩))))))))))
theorem KI (x0:Pt):Instr.fill (λi=>some (i*10,10)) ((Array.range (1*10)).map ((Value.agg (CG (⟨0,0⟩:Pt)).toArray).cells[·%(Value.agg (CG (⟨0,0⟩:Pt)).toArray).cells.size]!)) [(0,.agg (CG x0).toArray)]=some (CG x0).toArray:=by kernel_rfl
set_option maxHeartbeats 1000000 in
theorem Ul (r:RW) (hl1:r.ds.length<=24) (hl2:r.ts.length<=24) (hl3:r.ss.length<=60) (w:World) {S:Nat->Prop} (hr:Ro S w r):Calls prog 11 #[(aG (G8 r))] w (Al (MZ r.ps r.ts r.ss) S w):=by
 have lr:=CV (W:=w) hr
 refine Ag (args:=[(aG (G8 r))]) (L:=[AJ r.a.p (rowsL Gj r.ds),AJ r.b.p (rowsL Bg r.ts),AJ r.c.p (rowsL Bg r.ss)]) func11 O O (AV O) (C4 hr Ao) (AE.subF (sL [0] O) (q4 (B0 (cs:=G8 r) O λb1=>al WE O λb2=>q6 (sL [1,2] O) (rN [(0,true),(1,true),(3,true),(4,true),(2,false),(5,false),(6,true)] [⟨7,3,31,[(Value.slice none 0 0),(Value.slice none 0 0),(Value.slice none 0 0)]⟩] [(8,false)] sr (by kernel_rfl) (λ_ _ d _ _ h=>by cases d<;>exact h) (OW O O WE O (Q7)) O (OI (v:=(pP b1 1)) O (AB O underlying44 O sizeOf28 O) O (T9 1 (Value.slice r.b.p r.ts.length r.b.c) Bp O (OI (v:=(pP b1 2)) O (AB O underlying44 O sizeOf29 O) O (T9 1 (Value.slice r.c.p r.ss.length r.c.c) RJ O (Ci.imp O λEF EL=>?_)))))))))
 refine AC.nilRow 68 3 (AC.appendE0 ZR O OwnOk.none O (R6 (k:=4) O r.b.ok) (A6 CQ _) (GO MW _) (Fl Z) Z O λptb ctb otb=>Ci.back1 (sl sr) O (Ci.imp O λEF EL=>AC.nilRow 70 3 (AC.appendE0 ZI O OwnOk.none O (R6 (k:=6) O r.c.ok) (A6 CQ _) (GO MW _) (Fl Z) Z O λpsb csb osb=>Ci.back1 (sl (sl sr)) O (OI (v:=(aG ([(Value.slice none 0 0),(Value.slice ptb r.ts.length ctb),(Value.slice psb r.ss.length csb)]))) O (Aa (zs:=[(Value.slice none 0 0),(Value.slice none 0 0),(Value.slice none 0 0)]) (vs:=[(Value.slice none 0 0),(Value.slice ptb r.ts.length ctb),(Value.slice psb r.ss.length csb)]) (pv:=[(1,(Value.slice ptb r.ts.length ctb)),(2,(Value.slice psb r.ss.length csb))]) (places:=[(0,1),(1,1),(2,1)]) zeroValue31 underlying31 (λw=>by simp [sizeOf27,sizeOf28,sizeOf29]) O O) O (Ci.news1 λb3=>OkE.imp O (BP O sizeOf31 O (AC.nilRow 66 10 ?_)))))))
 refine OkE.back (sl (sl (sl (sl sr)))) (OkE.nil (OkQ.subF (sL [1,2,3] O) (q1 (q4 (AI O (AC.nil (OkQ.then_ (AE.block ?_))))))))
 refine AE.lp4 (tg λ(i:Nat) (p1:Option Addr) (c1:Nat) (ps:List Pt)=>i<=r.ds.length/\OwnOk p1 ps.length c1/\ps=r.ps.take i) (tg λ(i:Nat) (p1:Option Addr) (c1:Nat) (ps:List Pt)=>[(1,(pP b1 0)),(2,(pP b2 0)),(3,(pP b3 0)),(4,(vN i))]) (tg λ(i:Nat) (p1:Option Addr) (c1:Nat) (ps:List Pt)=>[rowW p1 66 10 ps.length c1 (rowsL CG ps),Ah b3 31 ([(Value.slice p1 ps.length c1),(Value.slice ptb r.ts.length ctb),(Value.slice psb r.ss.length csb)]),rowW psb 70 3 r.ss.length csb (rowsL Bg r.ss),rowW ptb 68 3 r.ts.length ctb (rowsL Bg r.ts),Ah b2 31 ([(Value.slice none 0 0),(Value.slice none 0 0),(Value.slice none 0 0)]),Ah b1 44 (G8 r),AJ r.a.p (rowsL Gj r.ds),AJ r.b.p (rowsL Bg r.ts),AJ r.c.p (rowsL Bg r.ss)]) (tg λ(i:Nat) (p1:Option Addr) (c1:Nat) (ps:List Pt)=>r.ds.length-i) 0 none 0 ([]:List Pt) (⟨Nat.zero_le _,OwnOk.none,rfl⟩) (sF O) sr (λi p1 c1 ps hJ=>?_)
 obtain ⟨hi,h1,hps⟩:=hJ
 have hpl:ps.length<=24:=by rw [hps,List.length_take];omega
 refine AE.seq (q4 (AM O (AK (v:=(pP b1 0)) (AB O underlying44 O sizeOf42 O) O (BL 5 (Value.slice r.a.p r.ds.length r.a.c) Nq O (AK (v:=(vN r.ds.length)) (AF O underlying42) O (AK (Ad (c:=(decide (i<r.ds.length))) O O (B7 (a:=i) (b:=r.ds.length))) O (AC.nil (OkQ.subF (sL [1,2,3,4,16] O) (OkQ.then_ ?_)))))))))
 refine AE.cond O (λhc0=>?_) (λhc0=>?_)
 ·replace hc0:=of_decide_eq_true hc0
  refine AE.skip (q1 (AE.block (rC [(0,true),(1,true),(2,true),(3,true),(4,true),(5,true),(6,true),(7,false),(8,false),(9,false),(10,true)] 11 [] (sl sr) (sl sr) (by kernel_rfl) (λ_ _ d _ _ h=>by cases d<;>exact h) (vE (v:=(pP b3 0)) O (AB O underlying31 O sizeOf27 O) O (vE O (AN (i:=0) (v:=(Value.slice p1 ps.length c1)) O O WJ.a O) O (vE (v:=(pP b1 0)) O (AB O underlying44 O sizeOf42 O) O (vE O (AN (i:=4) (v:=(Value.slice r.a.p r.ds.length r.a.c)) O O Nq.a O) O (vM O O O (vE (v:=(pP (pB r.a.p) (pO r.a.p+i*4))) O (AH (j:=i) O O r.a.ok underlying42 sizeOf55 O Z) O (vE (v:=(aG (Gj (r.ds.getD i EQ)))) O (Ai (vs:=Gj (r.ds.getD i EQ)) (i:=5) O O (Ar.ne r.a.ok Z) Zz (A8 FJ _ _ _ Z) (FJ _)) O (Dc.imp O ?_)))))))))))
  refine ck' call14 (Xf (r.ds.getD i EQ) (r.ok Z)) O (Dc.back (sl sr) (Dc.imp O (AC.openV (V:=λb4=>(Value.slice (some ⟨b4,0,none⟩) 1 1)) (T:=66) (cs:=CG (HB (r.ds.getD i EQ))) (AT O) (Ap (z:=.agg (CG (⟨0,0⟩:Pt)).toArray) (cs:=CG (HB (r.ds.getD i EQ))) (pv:=[(0,(aG (CG (HB (r.ds.getD i EQ)))))]) underlying27 sizeOf66 zeroValue66 (by decide) (by decide) O (KI (HB (r.ds.getD i EQ)))) O (AV O) λb4=>Dc.back (sl (sl sr)) (Dc.imp O (AC.append1 (j:=0) (cs2:=rowsL CG (ps++[HB (r.ds.getD i EQ)])) bE O h1 (A6 Ps _) O O O O (by decide) (Fl Z) Z (by rw [Bk];rfl) O λp_1 c_1 ho_1 hne_1=>Dc.back (sl (sl sr)) (vE (v:=(pP b3 0)) O (AB O underlying31 O sizeOf27 O) O (Dc.cut O (JZ 2 (off:=0) (vs:=[(Value.slice p_1 (ps.length+1) c_1)]) (cs':=[(Value.slice p_1 (ps.length+1) c_1),(Value.slice ptb r.ts.length ctb),(Value.slice psb r.ss.length csb)]) (AT O) O sizeOf27 O (OkE.back (sl (sl (sl sr))) ?_)))))))))
  refine OkE.nil (OkQ.subF (sL [1,2,3,4] O) (OkQ.in_normal (OkQ.then_ (AE.region (AM O (AK (AY (c:=((i+1:Nat):Int)) O O (AU (a:=i) (b:=1) Z)) O (AI O (AC.nil (OkQ.subF (sL [1,2,3,4] O) ?_)))))))))
  rw [show ps.length+1=(ps++[HB (r.ds.getD i EQ)]).length by simp]
  exact OkQ.round4 (i+1) p_1 c_1 (ps++[HB (r.ds.getD i EQ)]) (⟨Z,(by simpa using ho_1),by rw [hps,M9 r Z]⟩) Z (sF O) (sl sr)
 ·replace hc0:=of_decide_eq_false hc0
  exact AE.exit (OkQ.then_exit (OkQ.round4_exit (OkQ.in_exit (q2 (BC 1 CF O (JZ 4 (off:=0) (vs:=[(Value.slice p1 ps.length c1),(Value.slice ptb r.ts.length ctb),(Value.slice psb r.ss.length csb)]) (cs':=[(Value.slice p1 ps.length c1),(Value.slice ptb r.ts.length ctb),(Value.slice psb r.ss.length csb)]) (AT O) O sizeOf31 O (AC.nil (OkQ.subF (sL [1,2,3,4] O) (OkQ.then_ (AE.ret (AS O (BH (i:=4) (cs:=[(Value.slice p1 ps.length c1),(Value.slice ptb r.ts.length ctb),(Value.slice psb r.ss.length csb)]) O O isAgg31 sizeOf31 O) (λw hw=>(by have hpf:ps=r.ps:=(by rw [hps,show i=r.ds.length by omega,<-r.pl,List.take_length]);subst hpf;exact Zx hw 0 3 2 O O O h1 otb osb O O O O)))))))))))))
theorem Iy (x0:Z3):Instr.fill (λi=>some (i*3,3)) ((Array.range (1*3)).map ((Value.agg (Bg ((0,0,0):Z3)).toArray).cells[·%(Value.agg (Bg ((0,0,0):Z3)).toArray).cells.size]!)) [(0,.agg (Bg x0).toArray)]=some (Bg x0).toArray:=by kernel_rfl
set_option maxHeartbeats 1000000 in
theorem Wo (r:RW) (hl1:r.ds.length<=24) (hl2:r.ts.length<=24) (hl3:r.ss.length<=60) (w:World) {S:Nat->Prop} (hr:Ro S w r):Calls prog 12 #[(aG (G8 r))] w (Al (Sd r.ps r.ts r.ss) S w):=by
 have lr:=CV (W:=w) hr
 refine Ag (args:=[(aG (G8 r))]) (L:=[AJ r.a.p (rowsL Gj r.ds),AJ r.b.p (rowsL Bg r.ts),AJ r.c.p (rowsL Bg r.ss)]) func12 O O (AV O) (C4 hr Ao) (AE.subF (sL [0] O) (q4 (B0 (cs:=G8 r) O λb1=>al Zv O λb2=>q3 (sL [1,2] O) (AK (v:=(pP b1 1)) (AB O underlying44 O sizeOf28 O) O (BL 1 (Value.slice r.b.p r.ts.length r.b.c) Bp O (AC.nilRow 68 3 (AC.appendE0 ZR O OwnOk.none O (R6 (k:=4) O r.b.ok) (A6 CQ _) (GO MW _) (Fl Z) Z O λptb ctb otb=>AK (v:=(aG ([(Value.slice none 0 0),(Value.slice ptb r.ts.length ctb),(Value.slice none 0 0)]))) (Aa (zs:=[(Value.slice none 0 0),(Value.slice none 0 0),(Value.slice none 0 0)]) (vs:=[(Value.slice none 0 0),(Value.slice ptb r.ts.length ctb),(Value.slice none 0 0)]) (pv:=[(1,(Value.slice ptb r.ts.length ctb))]) (places:=[(0,1),(1,1),(2,1)]) zeroValue38 underlying38 (λw=>by simp [sizeOf28,sizeOf35,sizeOf36]) O O) O (al Zv O λb3=>?_))))))))
 refine BP O sizeOf38 O (AC.nilRow 99 6 (AC.nilRow 101 3 (q6 (sL [1,2,3] O) (q4 (AI O (AC.nil (OkQ.then_ (AE.block ?_))))))))
 refine AE.lp4 (tg λ(i:Nat) (p2:Option Addr) (c2:Nat) (ss:List Z3)=>i<=r.ss.length/\OwnOk p2 ss.length c2/\ss=r.ss.take i) (tg λ(i:Nat) (p2:Option Addr) (c2:Nat) (ss:List Z3)=>[(1,(pP b1 0)),(2,(pP b2 0)),(3,(pP b3 0)),(4,(vN i))]) (tg λ(i:Nat) (p2:Option Addr) (c2:Nat) (ss:List Z3)=>[rowW p2 101 3 ss.length c2 (rowsL Bg ss),rowW none 99 6 0 0 (rowsL QX ([]:List RP)),Ah b3 38 ([(Value.slice none 0 0),(Value.slice ptb r.ts.length ctb),(Value.slice p2 ss.length c2)]),rowW ptb 68 3 r.ts.length ctb (rowsL Bg r.ts),Ah b2 38 ([(Value.slice none 0 0),(Value.slice none 0 0),(Value.slice none 0 0)]),Ah b1 44 (G8 r),AJ r.a.p (rowsL Gj r.ds),AJ r.b.p (rowsL Bg r.ts),AJ r.c.p (rowsL Bg r.ss)]) (tg λ(i:Nat) (p2:Option Addr) (c2:Nat) (ss:List Z3)=>r.ss.length-i) 0 none 0 ([]:List Z3) (⟨Nat.zero_le _,OwnOk.none,rfl⟩) (sF O) sr (λi p2 c2 ss hJ=>?_)
 obtain ⟨hi,h2,hss⟩:=hJ
 have hsl:ss.length<=60:=by rw [hss,List.length_take];omega
 refine AE.seq (q4 (AM O (AK (v:=(pP b1 2)) (AB O underlying44 O sizeOf29 O) O (BL 5 (Value.slice r.c.p r.ss.length r.c.c) RJ O (AK (v:=(vN r.ss.length)) (AF O underlying29) O (AK (Ad (c:=(decide (i<r.ss.length))) O O (B7 (a:=i) (b:=r.ss.length))) O (AC.nil (OkQ.subF (sL [1,2,3,4,14] O) (OkQ.then_ ?_)))))))))
 refine AE.cond O (λhc0=>?_) (λhc0=>?_)
 ·replace hc0:=of_decide_eq_true hc0
  refine AE.skip (q1 (AE.block (rC [(0,true),(1,true),(2,true),(3,true),(4,true),(5,true),(6,true),(7,true),(8,true),(9,true),(10,true),(11,true),(12,true),(13,true),(14,true),(15,true),(16,true),(17,true),(18,true),(19,true),(20,true),(21,false),(22,false),(23,true)] 24 [] (sl sr) (sk (sl sr)) (by kernel_rfl) (λ_ _ d _ _ h=>by cases d<;>exact h) (vE (v:=(pP b3 2)) O (AB O underlying38 O sizeOf36 O) O (vE O (AN (i:=1) (v:=(Value.slice p2 ss.length c2)) O O a8.a O) O (vE (v:=(pP b1 2)) O (AB O underlying44 O sizeOf29 O) O (vE O (AN (i:=4) (v:=(Value.slice r.c.p r.ss.length r.c.c)) O O RJ.a O) O (vM O O O (vE (v:=(pP (pB r.c.p) (pO r.c.p+i*3))) O (AH (j:=i) O O r.c.ok underlying29 sizeOf70 O Z) O (vE (v:=(pP (pB r.c.p) (pO r.c.p+(i*3+0)))) O (AB O underlying70 O sizeOf3 (Nat.add_assoc _ _ _)) O (vE O (AL (v:=(vI ((r.ss.getD i ((0,0,0):Z3)).1))) (i:=7) O O (Ar.ne r.c.ok Z) BR (Az CQ ((0,0,0):Z3) _ _ 0 Z (by decide) O)) O ?_)))))))))))
  refine vE (v:=(pP b1 2)) O (AB O underlying44 O sizeOf29 O) O (vE O (AN (i:=4) (v:=(Value.slice r.c.p r.ss.length r.c.c)) O O RJ.a O) O (vM O O O (vE (v:=(pP (pB r.c.p) (pO r.c.p+i*3))) O (AH (j:=i) O O r.c.ok underlying29 sizeOf70 O Z) O (vE (v:=(pP (pB r.c.p) (pO r.c.p+(i*3+1)))) O (AB O underlying70 O sizeOf3 (Nat.add_assoc _ _ _)) O (vE O (AL (v:=(vI ((r.ss.getD i ((0,0,0):Z3)).2.1))) (i:=7) O O (Ar.ne r.c.ok Z) BR (Az CQ ((0,0,0):Z3) _ _ 1 Z (by decide) O)) O (vE (v:=(pP b1 2)) O (AB O underlying44 O sizeOf29 O) O (vE O (AN (i:=4) (v:=(Value.slice r.c.p r.ss.length r.c.c)) O O RJ.a O) O (vM O O O (vE (v:=(pP (pB r.c.p) (pO r.c.p+i*3))) O (AH (j:=i) O O r.c.ok underlying29 sizeOf70 O Z) O (vE (v:=(pP (pB r.c.p) (pO r.c.p+(i*3+2)))) O (AB O underlying70 O sizeOf3 (Nat.add_assoc _ _ _)) O (vE O (AL (v:=(vI ((r.ss.getD i ((0,0,0):Z3)).2.2))) (i:=7) O O (Ar.ne r.c.ok Z) BR (Az CQ ((0,0,0):Z3) _ _ 2 Z (by decide) O)) O ?_)))))))))))
  refine vE (v:=(aG ([(vI ((r.ss.getD i ((0,0,0):Z3)).1)),(vI ((r.ss.getD i ((0,0,0):Z3)).2.1)),(vI ((r.ss.getD i ((0,0,0):Z3)).2.2))]))) O (Aa (zs:=Bg ((0,0,0):Z3)) (vs:=[(vI ((r.ss.getD i ((0,0,0):Z3)).1)),(vI ((r.ss.getD i ((0,0,0):Z3)).2.1)),(vI ((r.ss.getD i ((0,0,0):Z3)).2.2))]) (pv:=[(0,(vI ((r.ss.getD i ((0,0,0):Z3)).1))),(1,(vI ((r.ss.getD i ((0,0,0):Z3)).2.1))),(2,(vI ((r.ss.getD i ((0,0,0):Z3)).2.2)))]) (places:=[(0,1),(1,1),(2,1)]) zeroValue101 underlying101 (λw=>by simp [sizeOf3]) O O) O (Dc.imp O (AC.openV (V:=λb4=>(Value.slice (some ⟨b4,0,none⟩) 1 1)) (T:=101) (cs:=Bg ((((r.ss.getD i ((0,0,0):Z3)).1),((r.ss.getD i ((0,0,0):Z3)).2.1),((r.ss.getD i ((0,0,0):Z3)).2.2)):Z3)) (AT O) (Ap (z:=.agg (Bg ((0,0,0):Z3)).toArray) (cs:=Bg ((((r.ss.getD i ((0,0,0):Z3)).1),((r.ss.getD i ((0,0,0):Z3)).2.1),((r.ss.getD i ((0,0,0):Z3)).2.2)):Z3)) (pv:=[(0,(aG ([(vI ((r.ss.getD i ((0,0,0):Z3)).1)),(vI ((r.ss.getD i ((0,0,0):Z3)).2.1)),(vI ((r.ss.getD i ((0,0,0):Z3)).2.2))])))]) underlying36 sizeOf101 zeroValue101 (by decide) (by decide) O (Iy ((((r.ss.getD i ((0,0,0):Z3)).1),((r.ss.getD i ((0,0,0):Z3)).2.1),((r.ss.getD i ((0,0,0):Z3)).2.2)):Z3))) O (AV O) λb4=>Dc.back (sl (sl sr)) (Dc.imp O (AC.append1 (j:=0) (cs2:=rowsL Bg (ss++[((((r.ss.getD i ((0,0,0):Z3)).1),((r.ss.getD i ((0,0,0):Z3)).2.1),((r.ss.getD i ((0,0,0):Z3)).2.2)):Z3)])) Zs O h2 (A6 CQ _) O O O O (by decide) (Fl Z) Z (by rw [Bk];rfl) O λp_1 c_1 ho_1 hne_1=>Dc.back (sl (sl sr)) (vE (v:=(pP b3 2)) O (AB O underlying38 O sizeOf36 O) O (Dc.cut O (JZ 3 (off:=2) (vs:=[(Value.slice p_1 (ss.length+1) c_1)]) (cs':=[(Value.slice none 0 0),(Value.slice ptb r.ts.length ctb),(Value.slice p_1 (ss.length+1) c_1)]) (AT O) O sizeOf36 O (OkE.back (sl (sl (sk (sl sr)))) (OkE.nil ?_)))))))))
  refine OkQ.subF (sL [1,2,3,4] O) (OkQ.in_normal (OkQ.then_ (AE.region (AM O (AK (AY (c:=((i+1:Nat):Int)) O O (AU (a:=i) (b:=1) Z)) O (AI O (AC.nil (OkQ.subF (sL [1,2,3,4] O) ?_))))))))
  rw [show ss.length+1=(ss++[((((r.ss.getD i ((0,0,0):Z3)).1),((r.ss.getD i ((0,0,0):Z3)).2.1),((r.ss.getD i ((0,0,0):Z3)).2.2)):Z3)]).length by simp]
  exact OkQ.round4 (i+1) p_1 c_1 (ss++[((((r.ss.getD i ((0,0,0):Z3)).1),((r.ss.getD i ((0,0,0):Z3)).2.1),((r.ss.getD i ((0,0,0):Z3)).2.2)):Z3)]) (⟨Z,(by simpa using ho_1),by rw [hss,DR (d:=(0,0,0)) Z]⟩) Z (sF O) (sl sr)
 ·replace hc0:=of_decide_eq_false hc0
  have hsf:ss=r.ss:=by rw [hss,show i=r.ss.length by omega,List.take_length]
  refine AE.exit (OkQ.then_exit (OkQ.round4_exit (OkQ.in_exit (q1 (q4 (AI O (AC.nil (OkQ.then_ (AE.block ?_)))))))))
  refine AE.lp4 (tg λ(i:Nat) (p1:Option Addr) (c1:Nat) (rs:List RP)=>i<=r.ds.length/\OwnOk p1 rs.length c1/\rs.map (·.p)=r.ps.take i/\∀y∈Kn rs,∀b,y.foot=some b->Nw ⟨w,none⟩ S b) (tg λ(i:Nat) (p1:Option Addr) (c1:Nat) (rs:List RP)=>[(1,(pP b1 0)),(2,(pP b2 0)),(3,(pP b3 0)),(5,(vN i))]) (tg λ(i:Nat) (p1:Option Addr) (c1:Nat) (rs:List RP)=>(rowW p2 101 3 ss.length c2 (rowsL Bg ss)::rowW p1 99 6 rs.length c1 (rowsL QX rs)::Ah b3 38 ([(Value.slice p1 rs.length c1),(Value.slice ptb r.ts.length ctb),(Value.slice p2 ss.length c2)])::rowW ptb 68 3 r.ts.length ctb (rowsL Bg r.ts)::Ah b2 38 ([(Value.slice none 0 0),(Value.slice none 0 0),(Value.slice none 0 0)])::Ah b1 44 (G8 r)::AJ r.a.p (rowsL Gj r.ds)::AJ r.b.p (rowsL Bg r.ts)::AJ r.c.p (rowsL Bg r.ss)::Kn rs)) (tg λ(i:Nat) (p1:Option Addr) (c1:Nat) (rs:List RP)=>r.ds.length-i) 0 none 0 ([]:List RP) (⟨Nat.zero_le _,OwnOk.none,rfl,(λy hy=>by cases hy)⟩) (sF O) sr (λi p1 c1 rs hJ=>?_)
  obtain ⟨hi,h1,hps,hat⟩:=hJ
  have hpl:rs.length<=24:=by rw [<-List.length_map (f:=(·.p)),hps,List.length_take];omega
  refine AE.seq (q4 (AM O (AK (v:=(pP b1 0)) (AB O underlying44 O sizeOf42 O) O (BL 5 (Value.slice r.a.p r.ds.length r.a.c) Nq O (AK (v:=(vN r.ds.length)) (AF O underlying42) O (AK (Ad (c:=(decide (i<r.ds.length))) O O (B7 (a:=i) (b:=r.ds.length))) O (AC.nil (OkQ.subF (sL [1,2,3,5,45] O) (OkQ.then_ ?_)))))))))
  refine AE.cond O (λhc1=>?_) (λhc1=>?_)
  ·replace hc1:=of_decide_eq_true hc1
   refine AE.skip (q1 (AE.block (rC [(0,true),(1,true),(2,true),(3,true),(4,true),(5,true),(6,true),(7,false),(8,false),(9,false),(10,true)] 11 [] (sk (sl sr)) (sk (sl sr)) (by kernel_rfl) (λ_ _ d _ _ h=>by cases d<;>exact h) (vE (v:=(pP b3 0)) O (AB O underlying38 O sizeOf35 O) O (vE O (AN (i:=1) (v:=(Value.slice p1 rs.length c1)) O O N5.a O) O (vE (v:=(pP b1 0)) O (AB O underlying44 O sizeOf42 O) O (vE O (AN (i:=4) (v:=(Value.slice r.a.p r.ds.length r.a.c)) O O Nq.a O) O (vM O O O (vE (v:=(pP (pB r.a.p) (pO r.a.p+i*4))) O (AH (j:=i) O O r.a.ok underlying42 sizeOf55 O Z) O (vE (v:=(aG (Gj (r.ds.getD i EQ)))) O (Ai (vs:=Gj (r.ds.getD i EQ)) (i:=5) O O (Ar.ne r.a.ok Z) Zz (A8 FJ _ _ _ Z) (FJ _)) O (Dc.imp O ?_)))))))))))
   refine cP (S:=S) (x:=(HB (r.ds.getD i EQ))) (args:=[(aG (Gj (r.ds.getD i EQ)))]) call28 (λw hw=>Wg (r.ds.getD i EQ) (r.ok Z) w) O O O λg1 lg1=>Dc.back (sl (sl (sl (sl (sk (sl sr)))))) (Dc.imp O (AC.openV (V:=λb4=>(Value.slice (some ⟨b4,0,none⟩) 1 1)) (T:=99) (cs:=XW g1) (AT O) (Ap (z:=.agg #[(Value.bool false),(Value.slice none 0 0),(Value.slice none 0 0),(Value.bool false),(Value.slice none 0 0),(Value.slice none 0 0)]) (cs:=XW g1) (pv:=[(0,(aG (XW g1)))]) underlying35 sizeOf99 zeroValue99 (by decide) (by decide) O (Yg g1)) O (AV O) λb4=>Dc.back (sl (sl (sl (sl (sl (sk (sl sr))))))) (Dc.imp O (AC.appendAt 6 (j:=0) (cs2:=rowsL QX (rs++[(⟨_,g1⟩:RP)])) av O h1 (A6 Qs _) O O O O O (by decide) (Fl Z) Z (by rw [Bk];rfl) O λp_2 c_2 ho_2 hne_2=>Dc.back (sl (sl (sl (sl (sl (sk (sl sr))))))) (vE (v:=(pP b3 0)) O (AB O underlying38 O sizeOf35 O) O (Dc.cut O (JZ 7 (off:=0) (vs:=[(Value.slice p_2 (rs.length+1) c_2)]) (cs':=[(Value.slice p_2 (rs.length+1) c_2),(Value.slice ptb r.ts.length ctb),(Value.slice p2 ss.length c2)]) (AT O) O sizeOf35 O (OkE.back (sl (sl (sl (sl (sl (sk (sl (sl sr)))))))) ?_))))))))
   refine OkE.nil (OkQ.subF (sL [1,2,3,5] O) (OkQ.in_normal (OkQ.then_ (AE.region (AM O (AC.subL (sl sr) (AC.permR (show List.Perm _ (rowW p2 101 3 ss.length c2 (rowsL Bg ss)::rowW p_2 99 6 (rs.length+1) c_2 (rowsL QX (rs++[(⟨_,g1⟩:RP)]))::Ah b3 38 ([(Value.slice p_2 (rs.length+1) c_2),(Value.slice ptb r.ts.length ctb),(Value.slice p2 ss.length c2)])::rowW ptb 68 3 r.ts.length ctb (rowsL Bg r.ts)::Ah b2 38 ([(Value.slice none 0 0),(Value.slice none 0 0),(Value.slice none 0 0)])::Ah b1 44 (G8 r)::AJ r.a.p (rowsL Gj r.ds)::AJ r.b.p (rowsL Bg r.ts)::AJ r.c.p (rowsL Bg r.ss)::Kn (rs++[(⟨_,g1⟩:RP)])) from X0 (⟨_,g1⟩:RP) [rowW p2 101 3 ss.length c2 (rowsL Bg ss),rowW p_2 99 6 (rs.length+1) c_2 (rowsL QX (rs++[(⟨_,g1⟩:RP)])),Ah b3 38 ([(Value.slice p_2 (rs.length+1) c_2),(Value.slice ptb r.ts.length ctb),(Value.slice p2 ss.length c2)]),rowW ptb 68 3 r.ts.length ctb (rowsL Bg r.ts),Ah b2 38 ([(Value.slice none 0 0),(Value.slice none 0 0),(Value.slice none 0 0)]),Ah b1 44 (G8 r),AJ r.a.p (rowsL Gj r.ds),AJ r.b.p (rowsL Bg r.ts),AJ r.c.p (rowsL Bg r.ss)] rs) (AK (AY (c:=((i+1:Nat):Int)) O O (AU (a:=i) (b:=1) Z)) O (AI O (AC.nil (OkQ.subF (sL [1,2,3,5] O) ?_)))))))))))
   rw [show rs.length+1=(rs++[(⟨_,g1⟩:RP)]).length by simp]
   exact OkQ.round4 (i+1) p_2 c_2 (rs++[(⟨_,g1⟩:RP)]) (⟨Z,(by simpa using ho_2),by rw [List.map_append,hps,M9 r Z];rfl,At.snoc hat lg1⟩) Z (sF O) sr
  ·replace hc1:=of_decide_eq_false hc1
   exact AE.exit (OkQ.then_exit (OkQ.round4_exit (OkQ.in_exit (q2 (BC 2 CH O (JZ 4 (off:=0) (vs:=[(Value.slice p1 rs.length c1),(Value.slice ptb r.ts.length ctb),(Value.slice p2 ss.length c2)]) (cs':=[(Value.slice p1 rs.length c1),(Value.slice ptb r.ts.length ctb),(Value.slice p2 ss.length c2)]) (AT O) O sizeOf38 O (AC.nil (OkQ.subF (sL [1,2,3,5] O) (OkQ.then_ (AE.ret (AS O (BH (i:=4) (cs:=[(Value.slice p1 rs.length c1),(Value.slice ptb r.ts.length ctb),(Value.slice p2 ss.length c2)]) O O isAgg38 sizeOf38 O) (λw hw=>(by rw [<-hsf];exact Ys (A:=[rowW p2 101 3 ss.length c2 (rowsL Bg ss),rowW p1 99 6 rs.length c1 (rowsL QX rs),Ah b3 38 ([(Value.slice p1 rs.length c1),(Value.slice ptb r.ts.length ctb),(Value.slice p2 ss.length c2)]),rowW ptb 68 3 r.ts.length ctb (rowsL Bg r.ts),Ah b2 38 ([(Value.slice p1 rs.length c1),(Value.slice ptb r.ts.length ctb),(Value.slice p2 ss.length c2)]),Ah b1 44 (G8 r),AJ r.a.p (rowsL Gj r.ds),AJ r.b.p (rowsL Bg r.ts),AJ r.c.p (rowsL Bg r.ss)]) hw 1 3 0 O O O h1 otb h2 O O O (by rw [hps,show i=r.ds.length by omega,<-r.pl,List.take_length]) hat O)))))))))))))
end
end Go.Proofs.YtpgncndhhhllfaaGreat
