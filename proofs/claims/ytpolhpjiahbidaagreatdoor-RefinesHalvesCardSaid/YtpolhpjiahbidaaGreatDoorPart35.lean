import Derived.Test.YtpolhpjiahbidaaGreatDoorPart05
import Derived.Test.YtpolhpjiahbidaaGreatDoorPart18
import Derived.Test.YtpolhpjiahbidaaGreatDoorPart21
import Derived.Test.YtpolhpjiahbidaaGreatDoorPart22
import Derived.Test.YtpolhpjiahbidaaGreatDoorPart23
import Derived.Test.YtpolhpjiahbidaaGreatDoorPart32
import Derived.Test.YtpolhpjiahbidaaGreatDoorPart33
import Derived.Test.YtpolhpjiahbidaaGreatDoorPart34
namespace Go.Proofs.YtpolhpjiahbidaaGreatDoor
open Go Go.RowKit Go.Proofs.Tryz
set_option linter.unusedVariables false
set_option linter.unusedSimpArgs false
section
set_option maxRecDepth 100000
theorem VE (x y:Pt):x+Bc (y-x) ((((1:Int):Int):Rat)/(((2:Int):Int):Rat))=Bc (x+y) (1/2):=by
 have h:((((1:Int):Int):Rat)/(((2:Int):Int):Rat))=1/2:=rfl
 rw [h]
 obtain ⟨a,b⟩:=x
 obtain ⟨c,d⟩:=y
 refine Pt.ext ?_ ?_
 ·show a+(c-a)*(1/2)=(a+c)*(1/2);grind
 ·show b+(d-b)*(1/2)=(b+d)*(1/2);grind
theorem R_ (x y:Pt):D9 (Bc (x+y) (1/2))<=D9 x+D9 y+8:=by
 have h1:=FE (x+y) (1/2)
 have h2:=G_ x y
 have h3:Sz (1/2:Rat)<=4:=by decide +kernel
 omega
theorem S9 {x y:Pt} (a:PX x) (b:PX y) (hs:D9 x+D9 y<=4096) (w:World) {S:Nat->Prop} (ha:Ro S w a) (hb:Ro S w b)  :Calls Tryz.prog 58 #[(aG (D7 a)),(aG (D7 b))] w (Ah (PX (Bc (x+y) (1/2))) S w):=by
 have hsz:Sz ((((1:Int):Int):Rat)/(((2:Int):Int):Rat))<=4:=by decide +kernel
 have la:=CU (W:=w) ha
 have lb:=CU (W:=w) hb
 refine Aa (args:=[(aG (D7 a)),(aG (D7 b))]) (L:=[By a.x.z.n,By a.x.m,By a.y.z.n,By a.y.m,By b.x.z.n,By b.x.m,By b.y.z.n,By b.y.m]) Tryz.func58 rfl rfl (AK rfl) (V3 ha (V3 hb Al)) (OkC.subF (sL [0,1] rfl) (q4 (Bg (cs:=D7 a) rfl λb1=>Bg (cs:=D7 b) rfl λb2=>al MU rfl λb3=>q6 (sL [2,3,4] rfl) (CV [(0,true),(1,true),(2,true),(3,false),(4,false),(5,false),(6,false),(7,false)] (sl sr) (Ec 1 KX rfl (Ec 0 KX rfl (Ec 1 KX rfl (OkE.imp rfl ?_))))))))
 have hz1:=VG y x
 refine cP (S:=S) (x:=(y-x)) (args:=[(aG (D7 b)),(aG (D7 a))]) Tryz.call116 (λw hw=>RD b a (by omega) w (inS hw 7 rfl lb) (inS hw 3 rfl la)) rfl rfl rfl λg1 lg1=>OkE.back (sl (sl (sl (sl (sl sr))))) (OkE.imp rfl (cF (S:=S) (x:=((((1:Int):Int):Rat)/(((2:Int):Int):Rat))) (args:=[(vI 1),(vI 2)]) Tryz.call117 (λw hw=>TW (1:Int) (2:Int) (by omega) (by omega) (by omega) (by omega) w) rfl rfl rfl λg2 lg2=>OkE.back (sl (sl (sl (sl (sl (sl (sl sr))))))) (OkE.imp rfl ?_)))
 have hz2:=FE (y-x) ((((1:Int):Int):Rat)/(((2:Int):Int):Rat))
 refine cP (S:=S) (x:=(Bc (y-x) ((((1:Int):Int):Rat)/(((2:Int):Int):Rat)))) (args:=[(aG (D7 g1)),(aG (fxL g2))]) Tryz.call115 (λw hw=>Nf g1 g2 (by omega) w (inS hw 2 rfl lg1) (inS hw 0 rfl lg2)) rfl rfl rfl λg3 lg3=>OkE.back (sl (sl (sl (sl (sl (sl (sl (sl (sl (sl (sl sr))))))))))) (OkE.imp rfl ?_)
 have hz3:=G_ x (Bc (y-x) ((((1:Int):Int):Rat)/(((2:Int):Int):Rat)))
 exact cP (S:=S) (x:=(Bc (x+y) (1/2))) (args:=[(aG (D7 a)),(aG (D7 g3))]) Tryz.call114 (λw hw=>(Ah.cast (T:=λi=>PX i) (VE x y) (Sw a g3 (by omega) w (inS hw 13 rfl la) (inS hw 0 rfl lg3)))) rfl rfl rfl λg4 lg4=>OkE.back (sl (sl (sl (sl (sl (sl (sl (sl (sl (sl (sl (sl (sl (sl (sl sr))))))))))))))) (OkE.imp rfl (FZ 14 (off:=0) (vs:=D7 g4) (cs':=D7 g4) (AP rfl) rfl Tryz.sizeOf121 rfl (OkE.back (sl (sl (sl (sl (sl (sl (sl (sl (sl (sl (sl (sl (sl (sl (sl sr))))))))))))))) (OkE.nil (OkQ.subF (sL [4] rfl) (OkQ.then_ (OkC.ret (ret_one rfl (Aj (i:=14) (cs:=D7 g4) rfl rfl Tryz.isAgg121 Tryz.sizeOf121 rfl) (λw hw=>Df (a:=(g4:PX (Bc (x+y) (1/2)))) hw (inS hw 0 rfl lg4) rfl)))))))))
theorem Iv {N M K:Nat} (x:RU N M K) (p:Int) (w:World) {S:Nat->Prop} (hx:Ro S w x):Calls Tryz.prog 57 #[(aG (U9 x)),(vI p)] w (Ai w (Value.bool (Ao N p))):=by
 have lx:=CU (W:=w) hx
 refine Aa (args:=[(aG (U9 x)),(vI p)]) (L:=[AF x.a.p (x.cs),AF x.b.p (x.es),AF x.c.p (x.ds)]) Tryz.func57 rfl rfl (AK rfl) (Ee hx Al) (OkC.subF (sL [0,1] rfl) (q4 (Bg (cs:=U9 x) rfl λb1=>asg' rfl (q3 (sL [1,2,4] rfl) (AO rfl (AG (B_ (c:=(decide ((0:Int)<=p))) rfl rfl rfl) rfl (AO rfl ?_)))))))
 refine OkL.mid (FM:=[(1,(vI p)),(2,(pP b1 0)),(4,(Value.bool false)),(5,(vI p)),(6,(Value.bool (decide ((0:Int)<=p)))),(7,(Value.bool (decide ((0:Int)<=p)))),(13,(Value.bool ((decide ((0:Int)<=p))&&(decide (p<((N:Nat):Int))))))]) (LM:=[AX b1 39 (U9 x),AF x.a.p (x.cs),AF x.b.p (x.es),AF x.c.p (x.ds)]) 6 ?_ ?_
 ·rcases Bool.eq_false_or_eq_true (decide ((0:Int)<=p)) with hg1|hg1
  ·skip
   refine OkL.retell (k:=7) (u:=Value.bool true) rfl (by rw [hg1]) ?_
   have hg1':=hg1
   replace hg1':=of_decide_eq_true hg1'
   exact OkL.step (v:=(vI p)) (AB rfl) (Ac rfl) rfl (AK rfl) (OkL.step (v:=(pP b1 0)) (AB rfl) (AA rfl Tryz.underlying39 rfl Tryz.sizeOf36 rfl) rfl (AK rfl) (OkL.step (v:=(Value.slice x.a.p N x.a.c)) (AB rfl) (AE (i:=0) (v:=(Value.slice x.a.p N x.a.c)) rfl rfl G1.a rfl) rfl (AK rfl) (OkL.step (v:=(vN N)) (AB rfl) (AD rfl Tryz.underlying36) rfl (AK rfl) (OkL.step (v:=(Value.bool (decide (p<((N:Nat):Int))))) (AB rfl) (Af (c:=(decide (p<((N:Nat):Int)))) rfl rfl rfl) rfl (AK rfl) (AG (v:=(Value.bool (decide (p<((N:Nat):Int))))) (AN rfl rfl) rfl (OkL.nil (OkQ.mid (sS rfl (sS rfl (sS rfl (sS rfl (sS rfl (sS (by first|rfl|(rw [hg1];rfl)|rw [hg1]) (sS (by first|rfl|(rw [hg1];rfl)|rw [hg1]) (sN)))))))) (List.Sublist.refl _))))))))
  ·skip
   refine OkL.retell (k:=7) (u:=Value.bool false) rfl (by rw [hg1]) ?_
   have hg1':=hg1
   replace hg1':=of_decide_eq_false hg1'
   exact OkL.skip (AC rfl) rfl (AK rfl) (OkL.skip (AC rfl) rfl (AK rfl) (OkL.skip (AC rfl) rfl (AK rfl) (OkL.skip (AC rfl) rfl (AK rfl) (OkL.skip (AC rfl) rfl (AK rfl) (AG (v:=(Value.bool false)) (AJ rfl rfl) rfl (OkL.nil (OkQ.mid (sS rfl (sS rfl (sS rfl (sS rfl (sS rfl (sS (by first|rfl|(rw [hg1];rfl)|rw [hg1]) (sS (by first|rfl|(rw [hg1];rfl)|rw [hg1]) (sN)))))))) (List.Sublist.refl _))))))))
 exact asg' rfl (OkL.nil (OkQ.subF (sL [4] rfl) (OkQ.then_ (OkC.ret (ret_one rfl (rd_tmp (v:=(Value.bool ((decide ((0:Int)<=p))&&(decide (p<((N:Nat):Int)))))) rfl) (λw hw=>⟨by unfold Ao;first|rfl|simp,hw.out⟩))))))
theorem TA {N M K:Nat} (x:RU N M K) (hu:∀(S:Nat->Prop) (w:World),Ro S w x->Calls Tryz.prog 45 #[(aG (U9 x))] w (Ai w (Value.bool false))) (w:World) {S:Nat->Prop} (hx:Ro S w x):Calls Tryz.prog 59 #[(aG (U9 x))] w (DJ (Tx (T:=119) (z:=3) (cs:=rowsL Ad ([]:List Z3)) (n:=0)) (NC (T:=119) (z:=3) (cs:=rowsL Ad ([]:List Z3)) (n:=0)) S w):=by
 have lx:=CU (W:=w) hx
 refine Aa (args:=[(aG (U9 x))]) (L:=[AF x.a.p (x.cs),AF x.b.p (x.es),AF x.c.p (x.ds)]) Tryz.func59 rfl rfl (AK rfl) (Ee hx Al) (OkC.subF (sL [0] rfl) (q4 (Bg (cs:=U9 x) rfl λb1=>asg' rfl (q3 (sL [1,2] rfl) (asg' rfl (OkL.nilRow 119 3 (OkL.nil (q1 (q4 (BU 1 D_ rfl ?_))))))))))
 refine Cq Tryz.call45 (λw hw=>hu _ w (inS hw 2 rfl lx)) rfl (AG (Be (c:=true) rfl rfl) rfl (OkL.nil (OkQ.subF (sL [1,2,3,10] rfl) (OkQ.then_ (OkC.cond_true rfl (q4 (AO rfl (asg' rfl (OkL.nil (OkQ.subF (sL [1,2,3] rfl) (OkQ.then_ ?_)))))))))))
 exact OkC.ret (OkQ.then_ret (ret_one rfl (rd_tmp (v:=(Value.slice none 0 0)) rfl) (λw hw=>(J7 hw (OX.mk none 0 OwnOk.none) (sk (sl (sl (sl (sl sr))))) (G0.own rfl G0.nil) rfl))))
theorem Ss {N K:Nat} {us:List Z3} (x:RQ N K us) (hl:us.length<=1000000) (hN:N<=4096) (w:World) {S:Nat->Prop} (hx:Ro S w x):Calls Tryz.prog 59 #[(aG (Ht x))] w (DJ (Tx (T:=119) (z:=3) (cs:=rowsL Ad ((A9 N us).map H7)) (n:=(A9 N us).length)) (NC (T:=119) (z:=3) (cs:=rowsL Ad ((A9 N us).map H7)) (n:=(A9 N us).length)) S w):=by
 cases h:Fd N us with
 | true =>
  obtain ⟨y,h1,h2,h3⟩:=Wy x h
  have k:=Sl y h1 (by rw [List.length_map];exact hl) hN w (h3 hx)
  rw [h2] at k
  unfold A9
  rw [if_pos h,<-KZ]
  exact k
 | false =>
  have k:=TA x.ru (λS w hh=>by have h9:=RZ x hl w (S:=S) (λy hy=>hh y hy);rw [h] at h9;exact h9) w (WP hx)
  unfold A9
  rw [h]
  exact k
set_option maxHeartbeats 1000000 in
theorem Jc {N M:Nat} {ss:List Z3} (x:Vx N M ss) (a b:Int) (hl:ss.length<=1000000) (w:World) {S:Nat->Prop} (hx:Ro S w x):Calls Tryz.prog 60 #[(aG (L4 x)),(vI a),(vI b)] w (Ai w (vI (C4 N a b ss))):=by
 have lx:=CU (W:=w) hx
 refine Aa (args:=[(aG (L4 x)),(vI a),(vI b)]) (L:=[AF x.a.p (x.cs),AF x.b.p (x.es),AF x.c.p (rowsL Ad ss)]) Tryz.func60 rfl rfl (AK rfl) (Ee hx Al) (OkC.subF (sL [0,1,2] rfl) (q4 (Bg (cs:=L4 x) rfl λb1=>asg' rfl (q6 (sL [1,2,3,6] rfl) (q4 (asg' rfl (OkL.nil (OkQ.then_ (OkC.block ?_)))))))))
 refine OkC.lp1 (tg λ(i:Nat)=>i<=ss.length/\C4 N a b ss=C4 N a b (ss.drop i)) (tg λ(i:Nat)=>[(1,(vI a)),(2,(vI b)),(3,(pP b1 0)),(7,(vN i))]) (tg λ(i:Nat)=>[AX b1 39 (L4 x),AF x.a.p (x.cs),AF x.b.p (x.es),AF x.c.p (rowsL Ad ss)]) (tg λ(i:Nat)=>ss.length-i) 0 (⟨Nat.zero_le _,rfl⟩) (sF rfl) sr (λi hJ=>?_)
 obtain ⟨hi,he⟩:=hJ
 refine OkC.seq (q4 (AO rfl (AG (v:=(pP b1 2)) (AA rfl Tryz.underlying39 rfl Tryz.sizeOf37 rfl) rfl (Aw 0 (Value.slice x.c.p ss.length x.c.c) GX rfl (AG (v:=(vN ss.length)) (AD rfl Tryz.underlying37) rfl (AG (Af (c:=(decide (i<ss.length))) rfl rfl (B9 (a:=i) (b:=ss.length))) rfl (OkL.nil (OkQ.subF (sL [1,2,3,7,13] rfl) (OkQ.then_ ?_)))))))))
 refine OkC.cond rfl (λhc0=>?_) (λhc0=>?_)
 ·replace hc0:=of_decide_eq_true hc0
  obtain ⟨T,hT⟩:∃q,q=ss.getD i (0,0,0):=⟨_,rfl⟩
  refine OkC.skip (q1 (OkC.block (q4 (AG (v:=(pP b1 2)) (AA rfl Tryz.underlying39 rfl Tryz.sizeOf37 rfl) rfl (Aw 0 (Value.slice x.c.p ss.length x.c.c) GX rfl (AO rfl (AG (v:=(pP (pB x.c.p) (pO x.c.p+i*3))) (AI (j:=i) rfl rfl x.c.ok Tryz.underlying37 Tryz.sizeOf119 rfl (by omega)) rfl (AG (v:=(aG (Ad (ss.getD i ((0,0,0):Z3))))) (AU (vs:=Ad (ss.getD i ((0,0,0):Z3))) (i:=3) rfl rfl (Ak.ne x.c.ok (by omega)) XV (An Au _ _ _ (by omega)) (Au _)) rfl (OkL.retell (k:=20) (u:=(aG (Ad T))) rfl (by rw [hT]) (al X7 rfl λb2=>Ay rfl Tryz.sizeOf119 rfl ?_))))))))))
  refine q3 (sL [1,2,3,7,8] rfl) (BU 1 D_ rfl (AO rfl (Cq Tryz.call57 (λw hw=>Iv x.ru a w (Xt (inS hw 2 rfl lx))) rfl (AO rfl ?_))))
  refine OkL.mid (FM:=[(1,(vI a)),(2,(vI b)),(3,(pP b1 0)),(7,(vN i)),(8,(pP b2 0)),(21,(aG (L4 x))),(22,(vI a)),(23,(Value.bool (Ao N a))),(24,(Value.bool (Ao N a))),(28,(Value.bool ((Ao N a)&&(Ao N b))))]) (LM:=[AX b2 119 (Ad T),AX b1 39 (L4 x),AF x.a.p (x.cs),AF x.b.p (x.es),AF x.c.p (rowsL Ad ss)]) 4 ?_ ?_
  ·rcases Bool.eq_false_or_eq_true (Ao N a) with hg1|hg1
   ·skip
    refine OkL.retell (k:=24) (u:=Value.bool true) rfl (by rw [hg1]) ?_
    have hg1':=hg1
    skip
    exact OkL.step (v:=(aG (L4 x))) (AB rfl) (BA (i:=1) (vs:=L4 x) rfl rfl D_.a D_.s rfl rfl) rfl (AK rfl) (OkL.step (v:=(vI b)) (AB rfl) (Ac rfl) rfl (AK rfl) (OkL.call (v:=(Value.bool (Ao N b))) (AB rfl) (Ap (args:=[(aG (L4 x)),(vI b)]) rfl rfl Tryz.call57) (λw hw=>Iv x.ru b w (Xt (inS hw 2 rfl lx))) rfl (AK rfl) (AG (v:=(Value.bool (Ao N b))) (AN rfl rfl) rfl (OkL.nil (OkQ.mid (sS rfl (sS rfl (sS rfl (sS rfl (sS rfl (sS rfl (sS rfl (sS rfl (sS (by first|rfl|(rw [hg1];rfl)|rw [hg1]) (sS (by first|rfl|(rw [hg1];rfl)|rw [hg1]) (sN))))))))))) (List.Sublist.refl _))))))
   ·skip
    refine OkL.retell (k:=24) (u:=Value.bool false) rfl (by rw [hg1]) ?_
    have hg1':=hg1
    skip
    exact OkL.skip (AC rfl) rfl (AK rfl) (OkL.skip (AC rfl) rfl (AK rfl) (OkL.skip (AC rfl) rfl (AK rfl) (AG (v:=(Value.bool false)) (AJ rfl rfl) rfl (OkL.nil (OkQ.mid (sS rfl (sS rfl (sS rfl (sS rfl (sS rfl (sS rfl (sS rfl (sS rfl (sS (by first|rfl|(rw [hg1];rfl)|rw [hg1]) (sS (by first|rfl|(rw [hg1];rfl)|rw [hg1]) (sN))))))))))) (List.Sublist.refl _))))))
  refine AO rfl ?_
  refine OkL.mid (FM:=[(1,(vI a)),(2,(vI b)),(3,(pP b1 0)),(7,(vN i)),(8,(pP b2 0)),(21,(aG (L4 x))),(22,(vI a)),(23,(Value.bool (Ao N a))),(24,(Value.bool (Ao N a))),(28,(Value.bool ((Ao N a)&&(Ao N b)))),(29,(Value.bool ((Ao N a)&&(Ao N b)))),(52,(Value.bool (((Ao N a)&&(Ao N b))&&(((decide (T.1=a))&&(decide (T.2.1=b)))||((decide (T.1=b))&&(decide (T.2.1=a)))))))]) (LM:=[AX b2 119 (Ad T),AX b1 39 (L4 x),AF x.a.p (x.cs),AF x.b.p (x.es),AF x.c.p (rowsL Ad ss)]) 23 ?_ ?_
  ·rcases Bool.eq_false_or_eq_true ((Ao N a)&&(Ao N b)) with hg2|hg2
   ·skip
    refine OkL.retell (k:=29) (u:=Value.bool true) rfl (by rw [hg2]) ?_
    have hg2':=hg2
    simp only [Bool.and_eq_true,Bool.or_eq_true,Bool.and_eq_false_iff,Bool.or_eq_false_iff,Bool.not_eq_true',Bool.not_eq_false',decide_eq_true_eq,decide_eq_false_iff_not] at hg2'
    refine OkL.step (v:=(pP b2 0)) (AB rfl) (AA rfl Tryz.underlying119 rfl Tryz.sizeOf3 rfl) rfl (AK rfl) (OkL.step (v:=(vI T.1)) (AB rfl) (AE (i:=0) (v:=(vI T.1)) rfl rfl BH.a rfl) rfl (AK rfl) (OkL.step (v:=(vI a)) (AB rfl) (Ac rfl) rfl (AK rfl) (OkL.step (v:=(Value.bool (decide (T.1=a)))) (AB rfl) (BE (c:=(decide (T.1=a))) rfl rfl rfl) rfl (AK rfl) (OkL.step (v:=(Value.bool (decide (T.1=a)))) (AB rfl) (Ac rfl) rfl (AK rfl) ?_))))
    refine OkL.mid (FM:=[(1,(vI a)),(2,(vI b)),(3,(pP b1 0)),(7,(vN i)),(8,(pP b2 0)),(21,(aG (L4 x))),(22,(vI a)),(23,(Value.bool (Ao N a))),(24,(Value.bool (Ao N a))),(28,(Value.bool ((Ao N a)&&(Ao N b)))),(29,(Value.bool true)),(30,(pP b2 0)),(31,(vI T.1)),(32,(vI a)),(33,(Value.bool (decide (T.1=a)))),(34,(Value.bool (decide (T.1=a)))),(39,(Value.bool ((decide (T.1=a))&&(decide (T.2.1=b)))))]) (LM:=[AX b2 119 (Ad T),AX b1 39 (L4 x),AF x.a.p (x.cs),AF x.b.p (x.es),AF x.c.p (rowsL Ad ss)]) 5 ?_ ?_
    ·rcases Bool.eq_false_or_eq_true (decide (T.1=a)) with hg3|hg3
     ·skip
      refine OkL.retell (k:=34) (u:=Value.bool true) rfl (by rw [hg3]) ?_
      have hg3':=hg3
      replace hg3':=of_decide_eq_true hg3'
      exact OkL.step (v:=(pP b2 1)) (AB rfl) (AA rfl Tryz.underlying119 rfl Tryz.sizeOf3 rfl) rfl (AK rfl) (OkL.step (v:=(vI T.2.1)) (AB rfl) (AE (i:=0) (v:=(vI T.2.1)) rfl rfl BH.a rfl) rfl (AK rfl) (OkL.step (v:=(vI b)) (AB rfl) (Ac rfl) rfl (AK rfl) (OkL.step (v:=(Value.bool (decide (T.2.1=b)))) (AB rfl) (BE (c:=(decide (T.2.1=b))) rfl rfl rfl) rfl (AK rfl) (OkL.step (v:=(Value.bool (decide (T.2.1=b)))) (AB rfl) (AN rfl rfl) rfl (AK rfl) (OkL.nil (OkQ.mid (sS rfl (sS rfl (sS rfl (sS rfl (sS rfl (sS rfl (sS rfl (sS rfl (sS rfl (sS rfl (sS rfl (sS rfl (sS rfl (sS rfl (sS rfl (sS (by first|rfl|(rw [hg3];rfl)|rw [hg3]) (sS (by first|rfl|(rw [hg3];rfl)|rw [hg3]) (sN)))))))))))))))))) (List.Sublist.refl _)))))))
     ·skip
      refine OkL.retell (k:=34) (u:=Value.bool false) rfl (by rw [hg3]) ?_
      have hg3':=hg3
      replace hg3':=of_decide_eq_false hg3'
      exact OkL.skip (AC rfl) rfl (AK rfl) (OkL.skip (AC rfl) rfl (AK rfl) (OkL.skip (AC rfl) rfl (AK rfl) (OkL.skip (AC rfl) rfl (AK rfl) (OkL.step (v:=(Value.bool false)) (AB rfl) (AJ rfl rfl) rfl (AK rfl) (OkL.nil (OkQ.mid (sS rfl (sS rfl (sS rfl (sS rfl (sS rfl (sS rfl (sS rfl (sS rfl (sS rfl (sS rfl (sS rfl (sS rfl (sS rfl (sS rfl (sS rfl (sS (by first|rfl|(rw [hg3];rfl)|rw [hg3]) (sS (by first|rfl|(rw [hg3];rfl)|rw [hg3]) (sN)))))))))))))))))) (List.Sublist.refl _)))))))
    refine OkL.step (v:=(Value.bool ((decide (T.1=a))&&(decide (T.2.1=b))))) (AB rfl) (Ac rfl) rfl (AK rfl) ?_
    refine OkL.mid (FM:=[(1,(vI a)),(2,(vI b)),(3,(pP b1 0)),(7,(vN i)),(8,(pP b2 0)),(21,(aG (L4 x))),(22,(vI a)),(23,(Value.bool (Ao N a))),(24,(Value.bool (Ao N a))),(28,(Value.bool ((Ao N a)&&(Ao N b)))),(29,(Value.bool true)),(30,(pP b2 0)),(31,(vI T.1)),(32,(vI a)),(33,(Value.bool (decide (T.1=a)))),(34,(Value.bool (decide (T.1=a)))),(39,(Value.bool ((decide (T.1=a))&&(decide (T.2.1=b))))),(40,(Value.bool ((decide (T.1=a))&&(decide (T.2.1=b))))),(51,(Value.bool (((decide (T.1=a))&&(decide (T.2.1=b)))||((decide (T.1=b))&&(decide (T.2.1=a))))))]) (LM:=[AX b2 119 (Ad T),AX b1 39 (L4 x),AF x.a.p (x.cs),AF x.b.p (x.es),AF x.c.p (rowsL Ad ss)]) 11 ?_ ?_
    ·rcases Bool.eq_false_or_eq_true ((decide (T.1=a))&&(decide (T.2.1=b))) with hg4|hg4
     ·skip
      refine OkL.retell (k:=40) (u:=Value.bool true) rfl (by rw [hg4]) ?_
      have hg4':=hg4
      simp only [Bool.and_eq_true,Bool.or_eq_true,Bool.and_eq_false_iff,Bool.or_eq_false_iff,Bool.not_eq_true',Bool.not_eq_false',decide_eq_true_eq,decide_eq_false_iff_not] at hg4'
      exact OkL.skip (AC rfl) rfl (AK rfl) (OkL.skip (AC rfl) rfl (AK rfl) (OkL.skip (AC rfl) rfl (AK rfl) (OkL.skip (AC rfl) rfl (AK rfl) (OkL.skip (AC rfl) rfl (AK rfl) (OkL.skip (BM rfl rfl rfl) rfl (AK rfl) (OkL.skip (BM rfl rfl rfl) rfl (AK rfl) (OkL.skip (BM rfl rfl rfl) rfl (AK rfl) (OkL.skip (BM rfl rfl rfl) rfl (AK rfl) (OkL.skip (AC rfl) rfl (AK rfl) (OkL.step (v:=(Value.bool true)) (AB rfl) (AN rfl rfl) rfl (AK rfl) (OkL.nil (OkQ.mid (sS rfl (sS rfl (sS rfl (sS rfl (sS rfl (sS rfl (sS rfl (sS rfl (sS rfl (sS rfl (sS rfl (sS rfl (sS rfl (sS rfl (sS rfl (sS rfl (sS rfl (sS (by first|rfl|(rw [hg4];rfl)|rw [hg4]) (sS (by first|rfl|(rw [hg4];rfl)|rw [hg4]) (sN)))))))))))))))))))) (List.Sublist.refl _)))))))))))))
     ·skip
      refine OkL.retell (k:=40) (u:=Value.bool false) rfl (by rw [hg4]) ?_
      have hg4':=hg4
      simp only [Bool.and_eq_true,Bool.or_eq_true,Bool.and_eq_false_iff,Bool.or_eq_false_iff,Bool.not_eq_true',Bool.not_eq_false',decide_eq_true_eq,decide_eq_false_iff_not] at hg4'
      refine OkL.step (v:=(pP b2 0)) (AB rfl) (AA rfl Tryz.underlying119 rfl Tryz.sizeOf3 rfl) rfl (AK rfl) (OkL.step (v:=(vI T.1)) (AB rfl) (AE (i:=0) (v:=(vI T.1)) rfl rfl BH.a rfl) rfl (AK rfl) (OkL.step (v:=(vI b)) (AB rfl) (Ac rfl) rfl (AK rfl) (OkL.step (v:=(Value.bool (decide (T.1=b)))) (AB rfl) (BE (c:=(decide (T.1=b))) rfl rfl rfl) rfl (AK rfl) (OkL.step (v:=(Value.bool (decide (T.1=b)))) (AB rfl) (Ac rfl) rfl (AK rfl) ?_))))
      refine OkL.mid (FM:=[(1,(vI a)),(2,(vI b)),(3,(pP b1 0)),(7,(vN i)),(8,(pP b2 0)),(21,(aG (L4 x))),(22,(vI a)),(23,(Value.bool (Ao N a))),(24,(Value.bool (Ao N a))),(28,(Value.bool ((Ao N a)&&(Ao N b)))),(29,(Value.bool true)),(30,(pP b2 0)),(31,(vI T.1)),(32,(vI a)),(33,(Value.bool (decide (T.1=a)))),(34,(Value.bool (decide (T.1=a)))),(39,(Value.bool ((decide (T.1=a))&&(decide (T.2.1=b))))),(40,(Value.bool false)),(41,(pP b2 0)),(42,(vI T.1)),(43,(vI b)),(44,(Value.bool (decide (T.1=b)))),(45,(Value.bool (decide (T.1=b)))),(50,(Value.bool ((decide (T.1=b))&&(decide (T.2.1=a)))))]) (LM:=[AX b2 119 (Ad T),AX b1 39 (L4 x),AF x.a.p (x.cs),AF x.b.p (x.es),AF x.c.p (rowsL Ad ss)]) 5 ?_ ?_
      ·rcases Bool.eq_false_or_eq_true (decide (T.1=b)) with hg5|hg5
       ·skip
        refine OkL.retell (k:=45) (u:=Value.bool true) rfl (by rw [hg5]) ?_
        have hg5':=hg5
        replace hg5':=of_decide_eq_true hg5'
        exact OkL.step (v:=(pP b2 1)) (AB rfl) (AA rfl Tryz.underlying119 rfl Tryz.sizeOf3 rfl) rfl (AK rfl) (OkL.step (v:=(vI T.2.1)) (AB rfl) (AE (i:=0) (v:=(vI T.2.1)) rfl rfl BH.a rfl) rfl (AK rfl) (OkL.step (v:=(vI a)) (AB rfl) (Ac rfl) rfl (AK rfl) (OkL.step (v:=(Value.bool (decide (T.2.1=a)))) (AB rfl) (BE (c:=(decide (T.2.1=a))) rfl rfl rfl) rfl (AK rfl) (OkL.step (v:=(Value.bool (decide (T.2.1=a)))) (AB rfl) (AN rfl rfl) rfl (AK rfl) (OkL.nil (OkQ.mid (sS rfl (sS rfl (sS rfl (sS rfl (sS rfl (sS rfl (sS rfl (sS rfl (sS rfl (sS rfl (sS rfl (sS rfl (sS rfl (sS rfl (sS rfl (sS rfl (sS rfl (sS rfl (sS rfl (sS rfl (sS rfl (sS rfl (sS (by first|rfl|(rw [hg5];rfl)|rw [hg5]) (sS (by first|rfl|(rw [hg5];rfl)|rw [hg5]) (sN))))))))))))))))))))))))) (List.Sublist.refl _)))))))
       ·skip
        refine OkL.retell (k:=45) (u:=Value.bool false) rfl (by rw [hg5]) ?_
        have hg5':=hg5
        replace hg5':=of_decide_eq_false hg5'
        exact OkL.skip (AC rfl) rfl (AK rfl) (OkL.skip (AC rfl) rfl (AK rfl) (OkL.skip (AC rfl) rfl (AK rfl) (OkL.skip (AC rfl) rfl (AK rfl) (OkL.step (v:=(Value.bool false)) (AB rfl) (AJ rfl rfl) rfl (AK rfl) (OkL.nil (OkQ.mid (sS rfl (sS rfl (sS rfl (sS rfl (sS rfl (sS rfl (sS rfl (sS rfl (sS rfl (sS rfl (sS rfl (sS rfl (sS rfl (sS rfl (sS rfl (sS rfl (sS rfl (sS rfl (sS rfl (sS rfl (sS rfl (sS rfl (sS (by first|rfl|(rw [hg5];rfl)|rw [hg5]) (sS (by first|rfl|(rw [hg5];rfl)|rw [hg5]) (sN))))))))))))))))))))))))) (List.Sublist.refl _)))))))
      exact OkL.step (v:=(Value.bool ((decide (T.1=b))&&(decide (T.2.1=a))))) (AB rfl) (AJ rfl rfl) rfl (AK rfl) (OkL.nil (OkQ.mid (sS rfl (sS rfl (sS rfl (sS rfl (sS rfl (sS rfl (sS rfl (sS rfl (sS rfl (sS rfl (sS rfl (sS rfl (sS rfl (sS rfl (sS rfl (sS rfl (sS rfl (sS (by first|rfl|(rw [hg4];rfl)|rw [hg4]) (sS (by first|rfl|(rw [hg4];rfl)|rw [hg4]) (sN)))))))))))))))))))) (List.Sublist.refl _)))
    exact AG (v:=(Value.bool (((decide (T.1=a))&&(decide (T.2.1=b)))||((decide (T.1=b))&&(decide (T.2.1=a)))))) (AN rfl rfl) rfl (OkL.nil (OkQ.mid (sS rfl (sS rfl (sS rfl (sS rfl (sS rfl (sS rfl (sS rfl (sS rfl (sS rfl (sS rfl (sS (by first|rfl|(rw [hg2];rfl)|rw [hg2]) (sS (by first|rfl|(rw [hg2];rfl)|rw [hg2]) (sN))))))))))))) (List.Sublist.refl _)))
   ·skip
    refine OkL.retell (k:=29) (u:=Value.bool false) rfl (by rw [hg2]) ?_
    have hg2':=hg2
    simp only [Bool.and_eq_true,Bool.or_eq_true,Bool.and_eq_false_iff,Bool.or_eq_false_iff,Bool.not_eq_true',Bool.not_eq_false',decide_eq_true_eq,decide_eq_false_iff_not] at hg2'
    refine OkL.skip (AC rfl) rfl (AK rfl) (OkL.skip (AC rfl) rfl (AK rfl) (OkL.skip (AC rfl) rfl (AK rfl) (OkL.skip (AC rfl) rfl (AK rfl) (OkL.skip (AC rfl) rfl (AK rfl) (OkL.skip (BM rfl rfl rfl) rfl (AK rfl) (OkL.skip (BM rfl rfl rfl) rfl (AK rfl) (OkL.skip (BM rfl rfl rfl) rfl (AK rfl) (OkL.skip (BM rfl rfl rfl) rfl (AK rfl) (OkL.skip (AC rfl) rfl (AK rfl) (OkL.skip (AC rfl) rfl (AK rfl) (OkL.skip (BM rfl rfl rfl) rfl (AK rfl) ?_)))))))))))
    exact OkL.skip (BM rfl rfl rfl) rfl (AK rfl) (OkL.skip (BM rfl rfl rfl) rfl (AK rfl) (OkL.skip (BM rfl rfl rfl) rfl (AK rfl) (OkL.skip (BM rfl rfl rfl) rfl (AK rfl) (OkL.skip (BM rfl rfl rfl) rfl (AK rfl) (OkL.skip (BM rfl rfl rfl) rfl (AK rfl) (OkL.skip (BM rfl rfl rfl) rfl (AK rfl) (OkL.skip (BM rfl rfl rfl) rfl (AK rfl) (OkL.skip (BM rfl rfl rfl) rfl (AK rfl) (OkL.skip (AC rfl) rfl (AK rfl) (AG (v:=(Value.bool false)) (AJ rfl rfl) rfl (OkL.nil (OkQ.mid (sS rfl (sS rfl (sS rfl (sS rfl (sS rfl (sS rfl (sS rfl (sS rfl (sS rfl (sS rfl (sS (by first|rfl|(rw [hg2];rfl)|rw [hg2]) (sS (by first|rfl|(rw [hg2];rfl)|rw [hg2]) (sN))))))))))))) (List.Sublist.refl _)))))))))))))
  refine OkL.nil (OkQ.subF (sL [1,2,3,7,8,52] rfl) (OkQ.then_ ?_))
  refine OkC.cond rfl (λhc1=>?_) (λhc1=>?_)
  ·simp only [Bool.and_eq_true,Bool.or_eq_true,Bool.and_eq_false_iff,Bool.or_eq_false_iff,Bool.not_eq_true',Bool.not_eq_false',decide_eq_true_eq,decide_eq_false_iff_not] at hc1
   have hfin:=he.trans (RY (by omega) hT (by grind))
   refine q4 (AG (v:=(pP b2 2)) (AA rfl Tryz.underlying119 rfl Tryz.sizeOf3 rfl) rfl (Aw 0 (vI T.2.2) BH rfl (asg' rfl (OkL.nil (OkQ.subF (sL [1,2,3,7,8,6] rfl) (OkQ.then_ (OkC.ret (OkQ.in_ret (OkQ.then_ret (OkQ.round1_ret (OkQ.in_ret ?_)))))))))))
   exact OkQ.then_ret (ret_one rfl (rd_tmp (v:=(vI T.2.2)) rfl) (λw hw=>⟨by rw [hfin]<;>rfl,hw.out⟩))
  ·simp only [Bool.and_eq_true,Bool.or_eq_true,Bool.and_eq_false_iff,Bool.or_eq_false_iff,Bool.not_eq_true',Bool.not_eq_false',decide_eq_true_eq,decide_eq_false_iff_not] at hc1
   exact OkC.skip (OkQ.in_normal (OkQ.then_ (OkC.region (AO rfl (AG (AY (c:=((i+1:Nat):Int)) rfl rfl (AT (a:=i) (b:=1) (by omega))) rfl (asg' rfl (OkL.nil (OkQ.subF (sL [1,2,3,7,8] rfl) (OkQ.round1 (i+1) (⟨by omega,he.trans (UJ (by omega) hT (by grind))⟩) (by omega) (sF rfl) (sl sr))))))))))
 ·replace hc0:=of_decide_eq_false hc0
  have hfin:C4 N a b ss=0:=by rw [he,List.drop_of_length_le (by omega)];rfl
  exact OkC.exit (OkQ.then_exit (OkQ.round1_exit (OkQ.in_exit (q2 (asg' rfl (OkL.nil (OkQ.then_ (OkC.ret (ret_one rfl (rd_tmp (v:=(vI 0)) rfl) (λw hw=>⟨by rw [hfin]<;>rfl,hw.out⟩))))))))))
end
section
set_option maxRecDepth 100000
end
end Go.Proofs.YtpolhpjiahbidaaGreatDoor
