import Derived.Test.YtpolhpjiahbidaaGreatDoorPart19
import Derived.Test.YtpolhpjiahbidaaGreatDoorPart21
namespace Go.Proofs.YtpolhpjiahbidaaGreatDoor
open Go Go.RowKit Go.Proofs.Tryz
open Go.Value renaming slice→qw,bool→qa
set_option linter.unusedVariables false
set_option linter.unusedSimpArgs false
section
set_option maxRecDepth 100000
theorem Y0 (x y:Pt):x+CE (y-x) ((((1:Int):Int):Rat)/(((2:Int):Int):Rat))=CE (x+y) (1/2):=by
 have h:((((1:Int):Int):Rat)/(((2:Int):Int):Rat))=1/2:=rfl
 rw [h]
 obtain ⟨a,b⟩:=x
 obtain ⟨c,d⟩:=y
 refine Pt.ext ?_ ?_
 ·show a+(c-a)*(1/2)=(a+c)*(1/2);grind
 ·show b+(d-b)*(1/2)=(b+d)*(1/2);grind
theorem Ux (x y:Pt):DU (CE (x+y) (1/2))<=DU x+DU y+8:=by
 have h1:=He (x+y) (1/2)
 have h2:=Kg x y
 have h3:Sz (1/2:Rat)<=4:=by decide +kernel
 omega
theorem Vm {x y:Pt} (a:PX x) (b:PX y) (hs:DU x+DU y<=4096) (w:World) {S:Nat->Prop} (ha:Ro S w a) (hb:Ro S w b)  :Calls prog 58 #[(aG (C2 a)),(aG (C2 b))] w (Ad (PX (CE (x+y) (1/2))) S w):=by
 have hsz:Sz ((((1:Int):Int):Rat)/(((2:Int):Int):Rat))<=4:=by decide +kernel
 have la:=Bx (W:=w) ha
 have lb:=Bx (W:=w) hb
 refine AX (args:=[(aG (C2 a)),(aG (C2 b))]) (L:=[Bj a.x.z.n,Bj a.x.m,Bj a.y.z.n,Bj a.y.m,Bj b.x.z.n,Bj b.x.m,Bj b.y.z.n,Bj b.y.m]) func58 O O (Av O) (US ha (US hb Ah)) (zN (sL [0,1] O) (q4 (Bb (cs:=C2 a) O λb1=>Bb (cs:=C2 b) O λb2=>al P6 O λb3=>q6 (sL [2,3,4] O) (CQ [(0,true),(1,true),(2,true),(3,false),(4,false),(5,false),(6,false),(7,false)] (sl sr) (EC 1 FE O (EC 0 FE O (EC 1 FE O (zK O ?_))))))))
 have hz1:=FK y x
 refine cP (S:=S) (x:=(y-x)) (args:=[(aG (C2 b)),(aG (C2 a))]) call116 (λw hw=>LD b a Z w (inS hw 7 O lb) (inS hw 3 O la)) O O O λg1 lg1=>zD (sl (sl (sl (sl (sl sr))))) (zK O (cF (S:=S) (x:=((((1:Int):Int):Rat)/(((2:Int):Int):Rat))) (args:=[(vI 1),(vI 2)]) call117 (λw hw=>Us (1:Int) (2:Int) Z Z Z Z w) O O O λg2 lg2=>zD (sl (sl (sl (sl (sl (sl (sl sr))))))) (zK O ?_)))
 have hz2:=He (y-x) ((((1:Int):Int):Rat)/(((2:Int):Int):Rat))
 refine cP (S:=S) (x:=(CE (y-x) ((((1:Int):Int):Rat)/(((2:Int):Int):Rat)))) (args:=[(aG (C2 g1)),(aG (fxL g2))]) call115 (λw hw=>RJ g1 g2 Z w (inS hw 2 O lg1) (inS hw 0 O lg2)) O O O λg3 lg3=>zD (sl (sl (sl (sl (sl (sl (sl (sl (sl (sl (sl sr))))))))))) (zK O ?_)
 have hz3:=Kg x (CE (y-x) ((((1:Int):Int):Rat)/(((2:Int):Int):Rat)))
 exact cP (S:=S) (x:=(CE (x+y) (1/2))) (args:=[(aG (C2 a)),(aG (C2 g3))]) call114 (λw hw=>(Ad.cast (T:=λi=>PX i) (Y0 x y) (Vw a g3 Z w (inS hw 13 O la) (inS hw 0 O lg3)))) O O O λg4 lg4=>zD (sl (sl (sl (sl (sl (sl (sl (sl (sl (sl (sl (sl (sl (sl (sl sr))))))))))))))) (zK O (Ek 14 (off:=0) (vs:=C2 g4) (cs':=C2 g4) (AJ O) O sizeOf121 O (zD (sl (sl (sl (sl (sl (sl (sl (sl (sl (sl (sl (sl (sl (sl (sl sr))))))))))))))) (zT (zB (sL [4] O) (zA (zF (ret_one O (Ai (i:=14) (cs:=C2 g4) O O isAgg121 sizeOf121 O) (λw hw=>EH (a:=(g4:PX (CE (x+y) (1/2)))) hw (inS hw 0 O lg4) O)))))))))
theorem Kp {N M K:Nat} (x:RU N M K) (p:Int) (w:World) {S:Nat->Prop} (hx:Ro S w x):Calls prog 57 #[(aG (FF x)),(vI p)] w (Ak w (qa (Ay N p))):=by
 have lx:=Bx (W:=w) hx
 refine AX (args:=[(aG (FF x)),(vI p)]) (L:=[AB x.a.p (x.cs),AB x.b.p (x.es),AB x.c.p (x.ds)]) func57 O O (Av O) (DF hx Ah) (zN (sL [0,1] O) (q4 (Bb (cs:=FF x) O λb1=>asg' O (q3 (sL [1,2,4] O) (AM O (AG (Bp (c:=(decide ((0:Int)<=p))) O O O) O (AM O ?_)))))))
 refine zX (FM:=[(1,(vI p)),(2,(pP b1 0)),(4,(qa false)),(5,(vI p)),(6,(qa (decide ((0:Int)<=p)))),(7,(qa (decide ((0:Int)<=p)))),(13,(qa ((decide ((0:Int)<=p))&&(decide (p<((N:Nat):Int))))))]) (LM:=[AR b1 39 (FF x),AB x.a.p (x.cs),AB x.b.p (x.es),AB x.c.p (x.ds)]) 6 ?_ ?_
 ·rcases xO (decide ((0:Int)<=p)) with hg1|hg1
  ·refine zC (k:=7) (u:=qa true) O (by rw [hg1]) ?_
   have hg1':=xR hg1
   exact Ds O (Au (v:=(pP b1 0)) O (AA O underlying39 O sizeOf36 O) (Au (v:=(qw x.a.p N x.a.c)) O (AE (i:=0) (v:=(qw x.a.p N x.a.c)) O O Ez.a O) (Au (v:=(vN N)) O (AC O underlying36) (Au (v:=(qa (decide (p<((N:Nat):Int))))) O (Ae (c:=(decide (p<((N:Nat):Int)))) O O O) (AG (v:=(qa (decide (p<((N:Nat):Int))))) (AN O O) O (oNl' (zR Bg (xP _))))))))
  ·refine zC (k:=7) (u:=qa false) O (by rw [hg1]) ?_
   have hg1':=xQ hg1
   exact Ar O (Ar O (Ar O (Ar O (Ar O (AG (v:=(qa false)) (AI O O) O (oNl' (zR Bg (xP _))))))))
 exact asg' O (oNl' (zB (sL [4] O) (zA (zF (ret_one O (rd_tmp (v:=(qa ((decide ((0:Int)<=p))&&(decide (p<((N:Nat):Int)))))) O) (λw hw=>⟨by unfold Ay;first|rfl|simp,hw.out⟩))))))
theorem V3 {N M K:Nat} (x:RU N M K) (hu:∀(S:Nat->Prop) (w:World),Ro S w x->Calls prog 45 #[(aG (FF x))] w (Ak w (qa false))) (w:World) {S:Nat->Prop} (hx:Ro S w x):Calls prog 59 #[(aG (FF x))] w (CS (MO (T:=119) (z:=3) (cs:=rowsL AS ([]:List Z3)) (n:=0)) (Oy (T:=119) (z:=3) (cs:=rowsL AS ([]:List Z3)) (n:=0)) S w):=by
 have lx:=Bx (W:=w) hx
 refine AX (args:=[(aG (FF x))]) (L:=[AB x.a.p (x.cs),AB x.b.p (x.es),AB x.c.p (x.ds)]) func59 O O (Av O) (DF hx Ah) (zN (sL [0] O) (q4 (Bb (cs:=FF x) O λb1=>asg' O (q3 (sL [1,2] O) (asg' O (zf 119 3 (oNl' (q1 (q4 (BD 1 Cp O ?_))))))))))
 refine Ct call45 (λw hw=>hu _ w (inS hw 2 O lx)) O (AG (BQ (c:=true) O O) O (oNl' (zB (sL [1,2,3,10] O) (zA (ze O (q4 (AM O (asg' O (oNl' (zB (sL [1,2,3] O) (zA ?_)))))))))))
 exact zF (zO (ret_one O (rd_tmp (v:=jj) O) (λw hw=>(J6 hw (OX.mk none 0 OwnOk.none) (sk (sl (sl (sl (sl sr))))) (GL.own O GL.nil) O))))
theorem Wd {N K:Nat} {us:List Z3} (x:RQ N K us) (hl:us.length<=1000000) (hN:N<=4096) (w:World) {S:Nat->Prop} (hx:Ro S w x):Calls prog 59 #[(aG (Hr x))] w (CS (MO (T:=119) (z:=3) (cs:=rowsL AS ((BM N us).map Ba)) (n:=(BM N us).length)) (Oy (T:=119) (z:=3) (cs:=rowsL AS ((BM N us).map Ba)) (n:=(BM N us).length)) S w):=by
 cases h:DG N us with
 | true =>
  obtain ⟨y,h1,h2,h3⟩:=aP x h
  have k:=Wh y h1 (by rw [xI];exact hl) hN w (h3 hx)
  rw [h2] at k
  unfold BM
  rw [if_pos h,<-CR]
  exact k
 | false =>
  have k:=V3 x.ru (λS w hh=>by have h9:=GJ x hl w (S:=S) (λy hy=>hh y hy);rw [h] at h9;exact h9) w (N1 hx)
  unfold BM
  rw [h]
  exact k
set_option maxHeartbeats 1000000 in
theorem LE {N M:Nat} {ss:List Z3} (x:ZV N M ss) (a b:Int) (hl:ss.length<=1000000) (w:World) {S:Nat->Prop} (hx:Ro S w x):Calls prog 60 #[(aG (Oo x)),(vI a),(vI b)] w (Ak w (vI (Dx N a b ss))):=by
 have lx:=Bx (W:=w) hx
 refine AX (args:=[(aG (Oo x)),(vI a),(vI b)]) (L:=[AB x.a.p (x.cs),AB x.b.p (x.es),AB x.c.p (rowsL AS ss)]) func60 O O (Av O) (DF hx Ah) (zN (sL [0,1,2] O) (q4 (Bb (cs:=Oo x) O λb1=>asg' O (q6 (sL [1,2,3,6] O) (q4 (asg' O (oNl' (zA (zI ?_)))))))))
 refine zo (tg λ(i:Nat)=>i<=ss.length/\Dx N a b ss=Dx N a b (ss.drop i)) (tg λ(i:Nat)=>[(1,(vI a)),(2,(vI b)),(3,(pP b1 0)),(7,(vN i))]) (tg λ(i:Nat)=>[AR b1 39 (Oo x),AB x.a.p (x.cs),AB x.b.p (x.es),AB x.c.p (rowsL AS ss)]) (tg λ(i:Nat)=>ss.length-i) 0 (⟨xH _,rfl⟩) (sF O) sr (λi hJ=>?_)
 obtain ⟨hi,he⟩:=hJ
 refine zV (q4 (AM O (AG (v:=(pP b1 2)) (AA O underlying39 O sizeOf37 O) O (Az 0 (qw x.c.p ss.length x.c.c) HN O (AG (v:=(vN ss.length)) (AC O underlying37) O (AG (Ae (c:=(decide (i<ss.length))) O O (CM (a:=i) (b:=ss.length))) O (oNl' (zB (sL [1,2,3,7,13] O) (zA ?_)))))))))
 refine zM O (λhc0=>?_) (λhc0=>?_)
 ·replace hc0:=xR hc0
  obtain ⟨T,hT⟩:∃q,q=ss.getD i (0,0,0):=⟨_,rfl⟩
  refine zG (q1 (zI (q4 (AG (v:=(pP b1 2)) (AA O underlying39 O sizeOf37 O) O (Az 0 (qw x.c.p ss.length x.c.c) HN O (AM O (AG (v:=(pP (pB x.c.p) (pO x.c.p+i*3))) (AF (j:=i) O O x.c.ok underlying37 sizeOf119 O Z) O (AG (v:=(aG (AS (ss.getD i ((0,0,0):Z3))))) (AQ (vs:=AS (ss.getD i ((0,0,0):Z3))) (i:=3) O O (An.ne x.c.ok Z) dL (Al A7 _ _ _ Z) (A7 _)) O (zC (k:=20) (u:=(aG (AS T))) O (by rw [hT]) (al bq O λb2=>Ax O sizeOf119 O ?_))))))))))
  refine q3 (sL [1,2,3,7,8] O) (BD 1 Cp O (AM O (Ct call57 (λw hw=>Kp x.ru a w (cC (inS hw 2 O lx))) O (AM O ?_))))
  refine zX (FM:=[(1,(vI a)),(2,(vI b)),(3,(pP b1 0)),(7,(vN i)),(8,(pP b2 0)),(21,(aG (Oo x))),(22,(vI a)),(23,(qa (Ay N a))),(24,(qa (Ay N a))),(28,(qa ((Ay N a)&&(Ay N b))))]) (LM:=[AR b2 119 (AS T),AR b1 39 (Oo x),AB x.a.p (x.cs),AB x.b.p (x.es),AB x.c.p (rowsL AS ss)]) 4 ?_ ?_
  ·rcases xO (Ay N a) with hg1|hg1
   ·refine zC (k:=24) (u:=qa true) O (by rw [hg1]) ?_
    have hg1':=hg1
    skip
    exact Au (v:=(aG (Oo x))) O (A_ (i:=1) (vs:=Oo x) O O Cp.a Cp.s O O) (Ds O (zd (v:=(qa (Ay N b))) (AH O) (Aw (args:=[(aG (Oo x)),(vI b)]) O O call57) (λw hw=>Kp x.ru b w (cC (inS hw 2 O lx))) O (Av O) (AG (v:=(qa (Ay N b))) (AN O O) O (oNl' (zR Bg (xP _))))))
   ·refine zC (k:=24) (u:=qa false) O (by rw [hg1]) ?_
    have hg1':=hg1
    skip
    exact Ar O (Ar O (Ar O (AG (v:=(qa false)) (AI O O) O (oNl' (zR Bg (xP _))))))
  refine AM O ?_
  refine zX (FM:=[(1,(vI a)),(2,(vI b)),(3,(pP b1 0)),(7,(vN i)),(8,(pP b2 0)),(21,(aG (Oo x))),(22,(vI a)),(23,(qa (Ay N a))),(24,(qa (Ay N a))),(28,(qa ((Ay N a)&&(Ay N b)))),(29,(qa ((Ay N a)&&(Ay N b)))),(52,(qa (((Ay N a)&&(Ay N b))&&(((decide (T.1=a))&&(decide (T.2.1=b)))||((decide (T.1=b))&&(decide (T.2.1=a)))))))]) (LM:=[AR b2 119 (AS T),AR b1 39 (Oo x),AB x.a.p (x.cs),AB x.b.p (x.es),AB x.c.p (rowsL AS ss)]) 23 ?_ ?_
  ·rcases xO ((Ay N a)&&(Ay N b)) with hg2|hg2
   ·refine zC (k:=29) (u:=qa true) O (by rw [hg2]) ?_
    have hg2':=hg2
    simp only [jK] at hg2'
    refine Au (v:=(pP b2 0)) O (AA O underlying119 O sizeOf3 O) (Au (v:=(vI T.1)) O (AE (i:=0) (v:=(vI T.1)) O O BN.a O) (Ds O (Au (v:=(qa (decide (T.1=a)))) O (BO (c:=(decide (T.1=a))) O O O) (Ds O ?_))))
    refine zX (FM:=[(1,(vI a)),(2,(vI b)),(3,(pP b1 0)),(7,(vN i)),(8,(pP b2 0)),(21,(aG (Oo x))),(22,(vI a)),(23,(qa (Ay N a))),(24,(qa (Ay N a))),(28,(qa ((Ay N a)&&(Ay N b)))),(29,(qa true)),(30,(pP b2 0)),(31,(vI T.1)),(32,(vI a)),(33,(qa (decide (T.1=a)))),(34,(qa (decide (T.1=a)))),(39,(qa ((decide (T.1=a))&&(decide (T.2.1=b)))))]) (LM:=[AR b2 119 (AS T),AR b1 39 (Oo x),AB x.a.p (x.cs),AB x.b.p (x.es),AB x.c.p (rowsL AS ss)]) 5 ?_ ?_
    ·rcases xO (decide (T.1=a)) with hg3|hg3
     ·refine zC (k:=34) (u:=qa true) O (by rw [hg3]) ?_
      have hg3':=xR hg3
      exact Au (v:=(pP b2 1)) O (AA O underlying119 O sizeOf3 O) (Au (v:=(vI T.2.1)) O (AE (i:=0) (v:=(vI T.2.1)) O O BN.a O) (Ds O (Au (v:=(qa (decide (T.2.1=b)))) O (BO (c:=(decide (T.2.1=b))) O O O) (Au (v:=(qa (decide (T.2.1=b)))) O (AN O O) (oNl' (zR Hz (xP _)))))))
     ·refine zC (k:=34) (u:=qa false) O (by rw [hg3]) ?_
      have hg3':=xQ hg3
      exact Ar O (Ar O (Ar O (Ar O (Au (v:=(qa false)) O (AI O O) (oNl' (zR Hz (xP _)))))))
    refine Ds O ?_
    refine zX (FM:=[(1,(vI a)),(2,(vI b)),(3,(pP b1 0)),(7,(vN i)),(8,(pP b2 0)),(21,(aG (Oo x))),(22,(vI a)),(23,(qa (Ay N a))),(24,(qa (Ay N a))),(28,(qa ((Ay N a)&&(Ay N b)))),(29,(qa true)),(30,(pP b2 0)),(31,(vI T.1)),(32,(vI a)),(33,(qa (decide (T.1=a)))),(34,(qa (decide (T.1=a)))),(39,(qa ((decide (T.1=a))&&(decide (T.2.1=b))))),(40,(qa ((decide (T.1=a))&&(decide (T.2.1=b))))),(51,(qa (((decide (T.1=a))&&(decide (T.2.1=b)))||((decide (T.1=b))&&(decide (T.2.1=a))))))]) (LM:=[AR b2 119 (AS T),AR b1 39 (Oo x),AB x.a.p (x.cs),AB x.b.p (x.es),AB x.c.p (rowsL AS ss)]) 11 ?_ ?_
    ·rcases xO ((decide (T.1=a))&&(decide (T.2.1=b))) with hg4|hg4
     ·refine zC (k:=40) (u:=qa true) O (by rw [hg4]) ?_
      have hg4':=hg4
      simp only [jK] at hg4'
      exact Ar O (Ar O (Ar O (Ar O (Ar O (zg (BJ O O O) O (Av O) (zg (BJ O O O) O (Av O) (zg (BJ O O O) O (Av O) (zg (BJ O O O) O (Av O) (Ar O (Au (v:=(qa true)) O (AN O O) (oNl' (zR KN (xP _)))))))))))))
     ·refine zC (k:=40) (u:=qa false) O (by rw [hg4]) ?_
      have hg4':=hg4
      simp only [jK] at hg4'
      refine Au (v:=(pP b2 0)) O (AA O underlying119 O sizeOf3 O) (Au (v:=(vI T.1)) O (AE (i:=0) (v:=(vI T.1)) O O BN.a O) (Ds O (Au (v:=(qa (decide (T.1=b)))) O (BO (c:=(decide (T.1=b))) O O O) (Ds O ?_))))
      refine zX (FM:=[(1,(vI a)),(2,(vI b)),(3,(pP b1 0)),(7,(vN i)),(8,(pP b2 0)),(21,(aG (Oo x))),(22,(vI a)),(23,(qa (Ay N a))),(24,(qa (Ay N a))),(28,(qa ((Ay N a)&&(Ay N b)))),(29,(qa true)),(30,(pP b2 0)),(31,(vI T.1)),(32,(vI a)),(33,(qa (decide (T.1=a)))),(34,(qa (decide (T.1=a)))),(39,(qa ((decide (T.1=a))&&(decide (T.2.1=b))))),(40,(qa false)),(41,(pP b2 0)),(42,(vI T.1)),(43,(vI b)),(44,(qa (decide (T.1=b)))),(45,(qa (decide (T.1=b)))),(50,(qa ((decide (T.1=b))&&(decide (T.2.1=a)))))]) (LM:=[AR b2 119 (AS T),AR b1 39 (Oo x),AB x.a.p (x.cs),AB x.b.p (x.es),AB x.c.p (rowsL AS ss)]) 5 ?_ ?_
      ·rcases xO (decide (T.1=b)) with hg5|hg5
       ·refine zC (k:=45) (u:=qa true) O (by rw [hg5]) ?_
        have hg5':=xR hg5
        exact Au (v:=(pP b2 1)) O (AA O underlying119 O sizeOf3 O) (Au (v:=(vI T.2.1)) O (AE (i:=0) (v:=(vI T.2.1)) O O BN.a O) (Ds O (Au (v:=(qa (decide (T.2.1=a)))) O (BO (c:=(decide (T.2.1=a))) O O O) (Au (v:=(qa (decide (T.2.1=a)))) O (AN O O) (oNl' (zR J5 (xP _)))))))
       ·refine zC (k:=45) (u:=qa false) O (by rw [hg5]) ?_
        have hg5':=xQ hg5
        exact Ar O (Ar O (Ar O (Ar O (Au (v:=(qa false)) O (AI O O) (oNl' (zR J5 (xP _)))))))
      exact Au (v:=(qa ((decide (T.1=b))&&(decide (T.2.1=a))))) O (AI O O) (oNl' (zR KN (xP _)))
    exact AG (v:=(qa (((decide (T.1=a))&&(decide (T.2.1=b)))||((decide (T.1=b))&&(decide (T.2.1=a)))))) (AN O O) O (oNl' (zR EQ (xP _)))
   ·refine zC (k:=29) (u:=qa false) O (by rw [hg2]) ?_
    have hg2':=hg2
    simp only [jK] at hg2'
    refine Ar O (Ar O (Ar O (Ar O (Ar O (zg (BJ O O O) O (Av O) (zg (BJ O O O) O (Av O) (zg (BJ O O O) O (Av O) (zg (BJ O O O) O (Av O) (Ar O (Ar O (zg (BJ O O O) O (Av O) ?_)))))))))))
    exact zg (BJ O O O) O (Av O) (zg (BJ O O O) O (Av O) (zg (BJ O O O) O (Av O) (zg (BJ O O O) O (Av O) (zg (BJ O O O) O (Av O) (zg (BJ O O O) O (Av O) (zg (BJ O O O) O (Av O) (zg (BJ O O O) O (Av O) (zg (BJ O O O) O (Av O) (Ar O (AG (v:=(qa false)) (AI O O) O (oNl' (zR EQ (xP _)))))))))))))
  refine oNl' (zB (sL [1,2,3,7,8,52] O) (zA ?_))
  refine zM O (λhc1=>?_) (λhc1=>?_)
  ·simp only [jK] at hc1
   have hfin:=he.trans (Wg Z hT (by grind))
   refine q4 (AG (v:=(pP b2 2)) (AA O underlying119 O sizeOf3 O) O (Az 0 (vI T.2.2) BN O (asg' O (oNl' (zB (sL [1,2,3,7,8,6] O) (zA (zF (zY (zO (zk (zY ?_)))))))))))
   exact zO (ret_one O (rd_tmp (v:=(vI T.2.2)) O) (λw hw=>⟨by rw [hfin]<;>rfl,hw.out⟩))
  ·simp only [jK] at hc1
   exact zG (zJ (zA (zH (AM O (AG (AW (c:=((i+1:Nat):Int)) O O (AU (a:=i) (b:=1) Z)) O (asg' O (oNl' (zB (sL [1,2,3,7,8] O) (zc (i+1) (⟨Z,he.trans (Yt Z hT (by grind))⟩) Z (sF O) (sl sr))))))))))
 ·replace hc0:=xQ hc0
  have hfin:Dx N a b ss=0:=by rw [he,List.drop_of_length_le Z];rfl
  exact zU (zP (za (zS (q2 (asg' O (oNl' (zA (zF (ret_one O (rd_tmp (v:=(vI 0)) O) (λw hw=>⟨by rw [hfin]<;>rfl,hw.out⟩))))))))))
end
section
set_option maxRecDepth 100000
end
end Go.Proofs.YtpolhpjiahbidaaGreatDoor
