import Derived.Test.YtcpkbjjmcleplaaGreatDoorPart26
import Derived.Test.YtcpkbjjmcleplaaGreatDoorPart30
namespace Go.Proofs.YtcpkbjjmcleplaaGreatDoor
open Go Go.RowKit Go.Proofs.Tryz
open Go.Value renaming slice→qz,bool→qa
set_option linter.unusedVariables false
set_option linter.unusedSimpArgs false
section
set_option maxRecDepth 100000
theorem JV (p:Int) (n:Nat) (w:World)  :Calls prog 118 #[(vI p),(vN n)] w (AY w (qa (BH n p))):=by
 refine AS (args:=[(vI p),(vN n)]) func118 O O (leB O) (zG (sL [0,1] O) (q4 (asg' O (oNl' (q2 (AL O (st' (CW (c:=(decide ((0:Int)<=p))) O O O) O (AL O ?_))))))))
 refine zg (FM:=[(0,(vI p)),(1,(vN n)),(4,(qa false)),(5,(vI p)),(6,(qa (decide ((0:Int)<=p)))),(7,(qa (decide ((0:Int)<=p)))),(11,(qa ((decide ((0:Int)<=p))&&(decide (p<((n:Nat):Int))))))]) (LM:=[]) 4 ?_ ?_
 ·rcases xO (decide ((0:Int)<=p)) with hg1|hg1
  ·refine zJ (k:=7) (u:=qa true) O (by rw [hg1]) ?_
   have hg1':=xR hg1
   exact FV O (FV O (BN (v:=(qa (decide (p<((n:Nat):Int))))) O (Ag (c:=(decide (p<((n:Nat):Int)))) O O O) (st' (v:=(qa (decide (p<((n:Nat):Int))))) (ex_pick_true O O) O (oNl' (zS CK (xP _))))))
  ·refine zJ (k:=7) (u:=qa false) O (by rw [hg1]) ?_
   have hg1':=xQ hg1
   exact BF O (BF O (BF O (st' (v:=(qa false)) (AN O O) O (oNl' (zS CK (xP _))))))
 exact asg' O (oNl' (zB (sL [4] O) (zA (zF (ret_one O (rd_tmp (v:=(qa ((decide ((0:Int)<=p))&&(decide (p<((n:Nat):Int)))))) O) (λw hw=>⟨by unfold BH;first|rfl|simp,hw.out⟩))))))
theorem TQ (t:Z3) (n:Nat) (bo:BX [vN n]) (w:World) {S:Nat->Prop} (hbo:Ro S w bo):Calls prog 171 #[(aG (BB t)),(pP bo.b 0)] w (AY w (qa (!M2 n t))):=by
 have lbo:=Bs (W:=w) hbo
 refine AX (args:=[(aG (BB t)),(pP bo.b 0)]) (L:=[AI (some ⟨bo.b,0,none⟩) ([(vN n)])]) func171 O O (leB O) (GN hbo Al) (zG (sL [0,1] O) (q4 (A9 (cs:=BB t) O λb1=>asg' O (q3 (sL [1,2,3] O) (st' (v:=(pP b1 0)) (AC (j:=0) O O underlying64 sizeOf3 O jY O) O (BZ 0 (vI t.1) Dr O (st' (Aj (q:=some ⟨bo.b,0,none⟩) (v:=(vN n)) (off:=0) (i:=1) O O (λe=>by cases e) Dr O) O (ck' call118 (JV t.1 n) O (st' (Bh (c:=(!(BH n t.1))) O O) O (AL O ?_))))))))))
 refine zg (FM:=[(1,(pP bo.b 0)),(2,(pP b1 0)),(3,(qa false)),(4,(pP b1 0)),(5,(vI t.1)),(6,(vN n)),(7,(qa (BH n t.1))),(8,(qa (!(BH n t.1)))),(9,(qa (!(BH n t.1)))),(15,(qa ((!(BH n t.1))||(!(BH n t.2.1)))))]) (LM:=[AQ b1 64 (BB t),AI (some ⟨bo.b,0,none⟩) ([(vN n)])]) 6 ?_ ?_
 ·rcases xO (!(BH n t.1)) with hg1|hg1
  ·refine zJ (k:=9) (u:=qa true) O (by rw [hg1]) ?_
   have hg1':=hg1
   simp only [jK] at hg1'
   exact BF O (BF O (BF O (BF O (BF O (st' (v:=(qa true)) (ex_pick_true O O) O (oNl' (zS CK (xP _))))))))
  ·refine zJ (k:=9) (u:=qa false) O (by rw [hg1]) ?_
   have hg1':=hg1
   simp only [jK] at hg1'
   exact BN (v:=(pP b1 1)) O (AC (j:=1) O O underlying64 sizeOf3 O jY O) (BN (v:=(vI t.2.1)) O (AP (i:=0) (v:=(vI t.2.1)) O O Dr.a O) (BN (v:=(vN n)) O (Aj (q:=some ⟨bo.b,0,none⟩) (v:=(vN n)) (off:=0) (i:=1) O O (λe=>by cases e) Dr O) (zc (v:=(qa (BH n t.2.1))) (AE O) (Ac (args:=[(vI t.2.1),(vN n)]) O O call118) (λw hw=>JV t.2.1 n w) O (leB O) (BN (v:=(qa (!(BH n t.2.1)))) O (Bh (c:=(!(BH n t.2.1))) O O) (st' (v:=(qa (!(BH n t.2.1)))) (AN O O) O (oNl' (zS CK (xP _))))))))
 refine AL O ?_
 refine zg (FM:=[(1,(pP bo.b 0)),(2,(pP b1 0)),(3,(qa false)),(4,(pP b1 0)),(5,(vI t.1)),(6,(vN n)),(7,(qa (BH n t.1))),(8,(qa (!(BH n t.1)))),(9,(qa (!(BH n t.1)))),(15,(qa ((!(BH n t.1))||(!(BH n t.2.1))))),(16,(qa ((!(BH n t.1))||(!(BH n t.2.1))))),(22,(qa (((!(BH n t.1))||(!(BH n t.2.1)))||(!(BH n t.2.2)))))]) (LM:=[AQ b1 64 (BB t),AI (some ⟨bo.b,0,none⟩) ([(vN n)])]) 6 ?_ ?_
 ·rcases xO ((!(BH n t.1))||(!(BH n t.2.1))) with hg2|hg2
  ·refine zJ (k:=16) (u:=qa true) O (by rw [hg2]) ?_
   have hg2':=hg2
   simp only [jK] at hg2'
   exact BF O (BF O (BF O (BF O (BF O (st' (v:=(qa true)) (ex_pick_true O O) O (oNl' (zS Hw (xP _))))))))
  ·refine zJ (k:=16) (u:=qa false) O (by rw [hg2]) ?_
   have hg2':=hg2
   simp only [jK] at hg2'
   exact BN (v:=(pP b1 2)) O (AC (j:=2) O O underlying64 sizeOf3 O jY O) (BN (v:=(vI t.2.2)) O (AP (i:=0) (v:=(vI t.2.2)) O O Dr.a O) (BN (v:=(vN n)) O (Aj (q:=some ⟨bo.b,0,none⟩) (v:=(vN n)) (off:=0) (i:=1) O O (λe=>by cases e) Dr O) (zc (v:=(qa (BH n t.2.2))) (AE O) (Ac (args:=[(vI t.2.2),(vN n)]) O O call118) (λw hw=>JV t.2.2 n w) O (leB O) (BN (v:=(qa (!(BH n t.2.2)))) O (Bh (c:=(!(BH n t.2.2))) O O) (st' (v:=(qa (!(BH n t.2.2)))) (AN O O) O (oNl' (zS Hw (xP _))))))))
 refine AL O ?_
 refine zg (FM:=[(1,(pP bo.b 0)),(2,(pP b1 0)),(3,(qa false)),(4,(pP b1 0)),(5,(vI t.1)),(6,(vN n)),(7,(qa (BH n t.1))),(8,(qa (!(BH n t.1)))),(9,(qa (!(BH n t.1)))),(15,(qa ((!(BH n t.1))||(!(BH n t.2.1))))),(16,(qa ((!(BH n t.1))||(!(BH n t.2.1))))),(22,(qa (((!(BH n t.1))||(!(BH n t.2.1)))||(!(BH n t.2.2))))),(23,(qa (((!(BH n t.1))||(!(BH n t.2.1)))||(!(BH n t.2.2))))),(29,(qa ((((!(BH n t.1))||(!(BH n t.2.1)))||(!(BH n t.2.2)))||(decide (t.1=t.2.1)))))]) (LM:=[AQ b1 64 (BB t),AI (some ⟨bo.b,0,none⟩) ([(vN n)])]) 6 ?_ ?_
 ·rcases xO (((!(BH n t.1))||(!(BH n t.2.1)))||(!(BH n t.2.2))) with hg3|hg3
  ·refine zJ (k:=23) (u:=qa true) O (by rw [hg3]) ?_
   have hg3':=hg3
   simp only [jK] at hg3'
   exact BF O (BF O (BF O (BF O (BF O (st' (v:=(qa true)) (ex_pick_true O O) O (oNl' (zS Mc (xP _))))))))
  ·refine zJ (k:=23) (u:=qa false) O (by rw [hg3]) ?_
   have hg3':=hg3
   simp only [jK] at hg3'
   exact BN (v:=(pP b1 0)) O (AC (j:=0) O O underlying64 sizeOf3 O jY O) (BN (v:=(vI t.1)) O (AP (i:=0) (v:=(vI t.1)) O O Dr.a O) (BN (v:=(pP b1 1)) O (AC (j:=1) O O underlying64 sizeOf3 O jY O) (BN (v:=(vI t.2.1)) O (AP (i:=0) (v:=(vI t.2.1)) O O Dr.a O) (BN (v:=(qa (decide (t.1=t.2.1)))) O (Az (c:=(decide (t.1=t.2.1))) O O O) (st' (v:=(qa (decide (t.1=t.2.1)))) (AN O O) O (oNl' (zS Mc (xP _))))))))
 refine AL O ?_
 refine zg (FM:=[(1,(pP bo.b 0)),(2,(pP b1 0)),(3,(qa false)),(4,(pP b1 0)),(5,(vI t.1)),(6,(vN n)),(7,(qa (BH n t.1))),(8,(qa (!(BH n t.1)))),(9,(qa (!(BH n t.1)))),(15,(qa ((!(BH n t.1))||(!(BH n t.2.1))))),(16,(qa ((!(BH n t.1))||(!(BH n t.2.1))))),(22,(qa (((!(BH n t.1))||(!(BH n t.2.1)))||(!(BH n t.2.2))))),(23,(qa (((!(BH n t.1))||(!(BH n t.2.1)))||(!(BH n t.2.2))))),(29,(qa ((((!(BH n t.1))||(!(BH n t.2.1)))||(!(BH n t.2.2)))||(decide (t.1=t.2.1))))),(30,(qa ((((!(BH n t.1))||(!(BH n t.2.1)))||(!(BH n t.2.2)))||(decide (t.1=t.2.1))))),(36,(qa (((((!(BH n t.1))||(!(BH n t.2.1)))||(!(BH n t.2.2)))||(decide (t.1=t.2.1)))||(decide (t.2.1=t.2.2)))))]) (LM:=[AQ b1 64 (BB t),AI (some ⟨bo.b,0,none⟩) ([(vN n)])]) 6 ?_ ?_
 ·rcases xO ((((!(BH n t.1))||(!(BH n t.2.1)))||(!(BH n t.2.2)))||(decide (t.1=t.2.1))) with hg4|hg4
  ·refine zJ (k:=30) (u:=qa true) O (by rw [hg4]) ?_
   have hg4':=hg4
   simp only [jK] at hg4'
   exact BF O (BF O (BF O (BF O (BF O (st' (v:=(qa true)) (ex_pick_true O O) O (oNl' (zS Pl (xP _))))))))
  ·refine zJ (k:=30) (u:=qa false) O (by rw [hg4]) ?_
   have hg4':=hg4
   simp only [jK] at hg4'
   exact BN (v:=(pP b1 1)) O (AC (j:=1) O O underlying64 sizeOf3 O jY O) (BN (v:=(vI t.2.1)) O (AP (i:=0) (v:=(vI t.2.1)) O O Dr.a O) (BN (v:=(pP b1 2)) O (AC (j:=2) O O underlying64 sizeOf3 O jY O) (BN (v:=(vI t.2.2)) O (AP (i:=0) (v:=(vI t.2.2)) O O Dr.a O) (BN (v:=(qa (decide (t.2.1=t.2.2)))) O (Az (c:=(decide (t.2.1=t.2.2))) O O O) (st' (v:=(qa (decide (t.2.1=t.2.2)))) (AN O O) O (oNl' (zS Pl (xP _))))))))
 refine AL O ?_
 refine zg (FM:=[(1,(pP bo.b 0)),(2,(pP b1 0)),(3,(qa false)),(4,(pP b1 0)),(5,(vI t.1)),(6,(vN n)),(7,(qa (BH n t.1))),(8,(qa (!(BH n t.1)))),(9,(qa (!(BH n t.1)))),(15,(qa ((!(BH n t.1))||(!(BH n t.2.1))))),(16,(qa ((!(BH n t.1))||(!(BH n t.2.1))))),(22,(qa (((!(BH n t.1))||(!(BH n t.2.1)))||(!(BH n t.2.2))))),(23,(qa (((!(BH n t.1))||(!(BH n t.2.1)))||(!(BH n t.2.2))))),(29,(qa ((((!(BH n t.1))||(!(BH n t.2.1)))||(!(BH n t.2.2)))||(decide (t.1=t.2.1))))),(30,(qa ((((!(BH n t.1))||(!(BH n t.2.1)))||(!(BH n t.2.2)))||(decide (t.1=t.2.1))))),(36,(qa (((((!(BH n t.1))||(!(BH n t.2.1)))||(!(BH n t.2.2)))||(decide (t.1=t.2.1)))||(decide (t.2.1=t.2.2))))),(37,(qa (((((!(BH n t.1))||(!(BH n t.2.1)))||(!(BH n t.2.2)))||(decide (t.1=t.2.1)))||(decide (t.2.1=t.2.2))))),(43,(qa ((((((!(BH n t.1))||(!(BH n t.2.1)))||(!(BH n t.2.2)))||(decide (t.1=t.2.1)))||(decide (t.2.1=t.2.2)))||(decide (t.2.2=t.1)))))]) (LM:=[AQ b1 64 (BB t),AI (some ⟨bo.b,0,none⟩) ([(vN n)])]) 6 ?_ ?_
 ·rcases xO (((((!(BH n t.1))||(!(BH n t.2.1)))||(!(BH n t.2.2)))||(decide (t.1=t.2.1)))||(decide (t.2.1=t.2.2))) with hg5|hg5
  ·refine zJ (k:=37) (u:=qa true) O (by rw [hg5]) ?_
   have hg5':=hg5
   simp only [jK] at hg5'
   exact BF O (BF O (BF O (BF O (BF O (st' (v:=(qa true)) (ex_pick_true O O) O (oNl' (zS Pm (xP _))))))))
  ·refine zJ (k:=37) (u:=qa false) O (by rw [hg5]) ?_
   have hg5':=hg5
   simp only [jK] at hg5'
   exact BN (v:=(pP b1 2)) O (AC (j:=2) O O underlying64 sizeOf3 O jY O) (BN (v:=(vI t.2.2)) O (AP (i:=0) (v:=(vI t.2.2)) O O Dr.a O) (BN (v:=(pP b1 0)) O (AC (j:=0) O O underlying64 sizeOf3 O jY O) (BN (v:=(vI t.1)) O (AP (i:=0) (v:=(vI t.1)) O O Dr.a O) (BN (v:=(qa (decide (t.2.2=t.1)))) O (Az (c:=(decide (t.2.2=t.1))) O O O) (st' (v:=(qa (decide (t.2.2=t.1)))) (AN O O) O (oNl' (zS Pm (xP _))))))))
 exact asg' O (oNl' (zB (sL [3] O) (zA (zF (ret_one O (rd_tmp (v:=(qa ((((((!(BH n t.1))||(!(BH n t.2.1)))||(!(BH n t.2.2)))||(decide (t.1=t.2.1)))||(decide (t.2.1=t.2.2)))||(decide (t.2.2=t.1))))) O) (λw hw=>⟨by unfold M2;generalize BH n t.1=q1;generalize BH n t.2.1=q2;generalize BH n t.2.2=q3;generalize decide (t.1=t.2.1)=q4;generalize decide (t.2.1=t.2.2)=q5;generalize decide (t.2.2=t.1)=q6;cases q1<;>cases q2<;>cases q3<;>cases q4<;>cases q5<;>cases q6<;>rfl,hw.out⟩))))))
theorem X8 (n:Nat) (bo:BX [vN n]) (ts:List Z3) (x:RX (rowsL BB ts) ts.length) (hl:ts.length<4611686018427387904) (w:World) {S:Nat->Prop} (hbo:Ro S w bo) (hx:Ro S w x):Calls prog 201 #[(qz x.p ts.length x.c),(Value.func (.func 171) #[] #[(pP bo.b 0)])] w (AY w (vI (idxZ n ts 0))):=by
 have lbo:=Bs (W:=w) hbo
 have lx:=Bs (W:=w) hx
 refine AX (args:=[(qz x.p ts.length x.c),(Value.func (.func 171) #[] #[(pP bo.b 0)])]) (L:=[AI (some ⟨bo.b,0,none⟩) ([(vN n)]),AI x.p (rowsL BB ts)]) func201 O O (leB O) (GN hbo (GN hx Al)) (zG (sL [0,1] O) (q4 (asg' O (oNl' (q1 (q4 (AL O (st' (v:=(vN ts.length)) (AD O underlying23) O (AL O (oNl' (zB (sL [0,1,4,7,8] O) ?_)))))))))))
 refine zA (zN ?_)
 refine yO (tg λ(j:Nat)=>j<=ts.length/\idxZ n ts 0=idxZ n (ts.drop j) j) (tg λ(j:Nat)=>[(0,(qz x.p ts.length x.c)),(1,(Value.func (.func 171) #[] #[(pP bo.b 0)])),(7,(vN ts.length)),(8,(vN j))]) (tg λ(j:Nat)=>[AI (some ⟨bo.b,0,none⟩) ([(vN n)]),AI x.p (rowsL BB ts)]) (tg λ(j:Nat)=>ts.length-j) 0 (⟨xH _,rfl⟩) (sF O) sr (λj hJ=>?_)
 obtain ⟨hj,he⟩:=hJ
 refine q4 (st' (Ag (c:=(decide (j<ts.length))) O O (DL (a:=j) (b:=ts.length))) O (oNl' (q1 ?_)))
 refine zK O (λhc0=>?_) (λhc0=>?_)
 ·replace hc0:=xR hc0
  refine zI (q1 (zN (q4 (AL O (asg' O (q3 (sL [0,1,7,8,5] O) (AL O (AL O (AL O (st' (v:=(pP (pB x.p) (pO x.p+j*3))) (AU (j:=j) O O x.ok underlying23 sizeOf64 O Z) O (st' (v:=(aG (BB (ts.getD j ((0,0,0):Z3))))) (Af (vs:=BB (ts.getD j ((0,0,0):Z3))) (i:=1) O O (BI.ne x.ok Z) Wl (BG Cy _ _ _ Z) (Cy _)) O ?_)))))))))))
  refine zc (v:=(qa (!M2 n (ts.getD j ((0,0,0):Z3))))) (AJ O) (Ik (args:=[(aG (BB (ts.getD j ((0,0,0):Z3))))]) (caps:=[(pP bo.b 0)]) (all:=[(aG (BB (ts.getD j ((0,0,0):Z3)))),(pP bo.b 0)]) O O O call171) (λw hw=>TQ (ts.getD j ((0,0,0):Z3)) n bo w (inS hw 0 O lbo)) O (leB O) (oNl' (zB (sL [0,1,7,8,5,16] O) (zA ?_)))
  refine zK O (λhc1=>?_) (λhc1=>?_)
  ·simp only [jK] at hc1
   have hfin:=he.trans (VN Z (by simpa using hc1))
   exact q4 (AL O (asg' O (oNl' (zB (sL [0,1,7,8,5,4] O) (zA (zF (zT (zH (zy (zT (zH (ret_one O (rd_tmp (v:=(vN j)) O) (λw hw=>⟨by rw [hfin],hw.out⟩)))))))))))))
  ·simp only [jK] at hc1
   exact zI (zM (zA (zL (st' (Ad (c:=((j+1:Nat):Int)) O O (Ab (a:=j) (b:=1) Z)) O (AL O (oNl' (zB (sL [0,1,7,8,5] O) (yC (j+1) (⟨Z,he.trans (S7 Z (by simpa using hc1))⟩) Z (sF O) sr))))))))
 ·replace hc0:=xQ hc0
  have hfin:=he.trans (VM hc0)
  exact zW (zO (zn (zR (q2 (asg' O (oNl' (zA (zF (ret_one O (rd_tmp (v:=(vI (-1:Int))) O) (λw hw=>⟨by rw [hfin],hw.out⟩))))))))))
theorem Uv (n:Nat) (bo:BX [vN n]) (ts:List Z3) (x:RX (rowsL BB ts) ts.length) (hl:ts.length<4611686018427387904) (w:World) {S:Nat->Prop} (hbo:Ro S w bo) (hx:Ro S w x):Calls prog 170 #[(qz x.p ts.length x.c),(Value.func (.func 171) #[] #[(pP bo.b 0)])] w (AY w (qa (!Du n ts))):=by
 have lbo:=Bs (W:=w) hbo
 have lx:=Bs (W:=w) hx
 refine AX (args:=[(qz x.p ts.length x.c),(Value.func (.func 171) #[] #[(pP bo.b 0)])]) (L:=[AI (some ⟨bo.b,0,none⟩) ([(vN n)]),AI x.p (rowsL BB ts)]) func170 O O (leB O) (GN hbo (GN hx Al)) (zG (sL [0,1] O) (q4 (asg' O (oNl' (q2 (AL O (AL O (CC call201 (λw hw=>X8 n bo ts x hl w (inS hw 0 O lbo) (inS hw 1 O lx)) O (st' (CW (c:=(!Du n ts)) O O (Mr n ts 0)) O (asg' O (oNl' ?_)))))))))))
 exact zB (sL [4] O) (zA (zF (ret_one O (rd_tmp (v:=(qa (!Du n ts))) O) (λw hw=>⟨rfl,hw.out⟩))))
theorem Vr (n:Nat) (ts:List Z3) (x:RX (rowsL BB ts) ts.length) (hl:ts.length<4611686018427387904) (w:World) {S:Nat->Prop} (hx:Ro S w x):Calls prog 117 #[(qz x.p ts.length x.c),(vN n)] w (AY w (qa (Du n ts))):=by
 have lx:=Bs (W:=w) hx
 refine AX (args:=[(qz x.p ts.length x.c),(vN n)]) (L:=[AI x.p (rowsL BB ts)]) func117 O O (leB O) (GN hx Al) (zG (sL [0,1] O) (q4 (A9 (cs:=[(vN n)]) O λb1=>yg 0 O O λhnb1=>asg' O (q3 (sL [0,3,4] O) (AL O (st' (v:=(Value.func (.func 171) #[] #[(pP b1 0)])) (Er (vs:=[]) (us:=[(pP b1 0)]) O O) O (CC call170 (λw hw=>Uv n ⟨b1⟩ ts x hl w (dp (x:=(⟨b1⟩:BX [vN n])) hw 0 O hnb1) (inS hw 1 O lx)) O (st' (Bh (c:=(!(!Du n ts))) O O) O (asg' O ?_)))))))))
 exact oNl' (zB (sL [4] O) (zA (zF (ret_one O (rd_tmp (v:=(qa (!(!Du n ts)))) O) (λw hw=>⟨by simp,hw.out⟩)))))
theorem UP {N K:Nat} {zs:List Z3} (x:RQ N K zs) (hl:zs.length<4611686018427387904) (w:World) {S:Nat->Prop} (hx:Ro S w x):Calls prog 68 #[(aG (IM x))] w (AY w (qa (Du N zs))):=by
 have lx:=Bs (W:=w) hx
 refine AX (args:=[(aG (IM x))]) (L:=[AI x.a.p (x.cs),AI x.b.p (rowsL BB zs),AI x.c.p (x.ds)]) func68 O O (leB O) (GN hx Al) (zG (sL [0] O) (q4 (A9 (cs:=IM x) O λb1=>asg' O (q3 (sL [1,2] O) (st' (v:=(pP b1 1)) (AA O underlying37 O sizeOf23 O) O (BZ 0 (qz x.b.p zs.length x.b.c) HY O (st' (v:=(pP b1 0)) (AA O underlying37 O sizeOf35 O) O (BZ 0 (qz x.a.p N x.a.c) KA O (st' (v:=(vN N)) (AD O underlying35) O (CC call117 (λw hw=>Vr N zs x.b hl w (e7 (inS hw 1 O lx))) O ?_))))))))))
 exact asg' O (oNl' (zB (sL [2] O) (zA (zF (ret_one O (rd_tmp (v:=(qa (Du N zs))) O) (λw hw=>⟨rfl,hw.out⟩))))))
theorem Nu {N K:Nat} {zs:List Z3} (x:RQ N K zs) (p:Int) (w:World) {S:Nat->Prop} (hx:Ro S w x):Calls prog 93 #[(aG (IM x)),(vI p)] w (AY w (qa (BH N p))):=by
 have lx:=Bs (W:=w) hx
 refine AX (args:=[(aG (IM x)),(vI p)]) (L:=[AI x.a.p (x.cs),AI x.b.p (rowsL BB zs),AI x.c.p (x.ds)]) func93 O O (leB O) (GN hx Al) (zG (sL [0,1] O) (q4 (A9 (cs:=IM x) O λb1=>asg' O (q3 (sL [1,2,4] O) (AL O (st' (CW (c:=(decide ((0:Int)<=p))) O O O) O (AL O ?_)))))))
 refine zg (FM:=[(1,(vI p)),(2,(pP b1 0)),(4,(qa false)),(5,(vI p)),(6,(qa (decide ((0:Int)<=p)))),(7,(qa (decide ((0:Int)<=p)))),(13,(qa ((decide ((0:Int)<=p))&&(decide (p<((N:Nat):Int))))))]) (LM:=[AQ b1 42 (IM x),AI x.a.p (x.cs),AI x.b.p (rowsL BB zs),AI x.c.p (x.ds)]) 6 ?_ ?_
 ·rcases xO (decide ((0:Int)<=p)) with hg1|hg1
  ·refine zJ (k:=7) (u:=qa true) O (by rw [hg1]) ?_
   have hg1':=xR hg1
   exact FV O (BN (v:=(pP b1 0)) O (AA O underlying42 O sizeOf39 O) (BN (v:=(qz x.a.p N x.a.c)) O (AP (i:=0) (v:=(qz x.a.p N x.a.c)) O O Tw.a O) (BN (v:=(vN N)) O (AD O underlying39) (BN (v:=(qa (decide (p<((N:Nat):Int))))) O (Ag (c:=(decide (p<((N:Nat):Int)))) O O O) (st' (v:=(qa (decide (p<((N:Nat):Int))))) (ex_pick_true O O) O (oNl' (zS CK (xP _))))))))
  ·refine zJ (k:=7) (u:=qa false) O (by rw [hg1]) ?_
   have hg1':=xQ hg1
   exact BF O (BF O (BF O (BF O (BF O (st' (v:=(qa false)) (AN O O) O (oNl' (zS CK (xP _))))))))
 exact asg' O (oNl' (zB (sL [4] O) (zA (zF (ret_one O (rd_tmp (v:=(qa ((decide ((0:Int)<=p))&&(decide (p<((N:Nat):Int)))))) O) (λw hw=>⟨by unfold BH;first|rfl|simp,hw.out⟩))))))
set_option maxHeartbeats 1000000 in
theorem Iv {N K:Nat} {zs:List Z3} (x:RQ N K zs) (hl:zs.length<=1000000) (w:World) {S:Nat->Prop} (hx:Ro S w x):Calls prog 51 #[(aG (IM x))] w (AY w (qa (Du N zs))):=by
 have lx:=Bs (W:=w) hx
 refine AX (args:=[(aG (IM x))]) (L:=[AI x.a.p (x.cs),AI x.b.p (rowsL BB zs),AI x.c.p (x.ds)]) func51 O O (leB O) (GN hx Al) (zG (sL [0] O) (q4 (A9 (cs:=IM x) O λb1=>asg' O (q6 (sL [1,2] O) (q4 (asg' O (oNl' (zA (zN ?_)))))))))
 refine yO (tg λ(i:Nat)=>i<=zs.length/\∀j,j<i->M2 N (zs.getD j (0,0,0))=true) (tg λ(i:Nat)=>[(1,(pP b1 0)),(3,(vN i))]) (tg λ(i:Nat)=>[AQ b1 42 (IM x),AI x.a.p (x.cs),AI x.b.p (rowsL BB zs),AI x.c.p (x.ds)]) (tg λ(i:Nat)=>zs.length-i) 0 (⟨xH _,λj h=>absurd h (Nat.not_lt_zero _)⟩) (sF O) sr (λi hJ=>?_)
 obtain ⟨hi,hok⟩:=hJ
 refine zV (q4 (AL O (st' (v:=(pP b1 1)) (AA O underlying42 O sizeOf23 O) O (BZ 0 (qz x.b.p zs.length x.b.c) HY O (st' (v:=(vN zs.length)) (AD O underlying23) O (st' (Ag (c:=(decide (i<zs.length))) O O (DL (a:=i) (b:=zs.length))) O (oNl' (zB (sL [1,3,9] O) (zA ?_)))))))))
 refine zK O (λhc0=>?_) (λhc0=>?_)
 ·replace hc0:=xR hc0
  obtain ⟨T,hT⟩:∃q,q=zs.getD i (0,0,0):=⟨_,rfl⟩
  refine zI (q1 (zN (q4 (st' (v:=(pP b1 1)) (AA O underlying42 O sizeOf23 O) O (BZ 0 (qz x.b.p zs.length x.b.c) HY O (AL O (st' (v:=(pP (pB x.b.p) (pO x.b.p+i*3))) (AU (j:=i) O O x.b.ok underlying23 sizeOf64 O Z) O (st' (v:=(aG (BB (zs.getD i ((0,0,0):Z3))))) (Af (vs:=BB (zs.getD i ((0,0,0):Z3))) (i:=2) O O (BI.ne x.b.ok Z) Wl (BG Cy _ _ _ Z) (Cy _)) O (zJ (k:=16) (u:=(aG (BB T))) O (by rw [hT]) (al bD O λb2=>Am O sizeOf64 O ?_))))))))))
  refine q3 (sL [1,3,4] O) (Ah 1 EW O (st' (v:=(pP b2 0)) (AC (j:=0) O O underlying64 sizeOf3 O jY O) O (BZ 0 (vI T.1) Dr O (CC call93 (λw hw=>Nu x T.1 w (inS hw 2 O lx)) O (st' (Bh (c:=(!(BH N T.1))) O O) O (AL O ?_))))))
  refine zg (FM:=[(1,(pP b1 0)),(3,(vN i)),(4,(pP b2 0)),(17,(aG (IM x))),(18,(pP b2 0)),(19,(vI T.1)),(20,(qa (BH N T.1))),(21,(qa (!(BH N T.1)))),(22,(qa (!(BH N T.1)))),(28,(qa ((!(BH N T.1))||(!(BH N T.2.1)))))]) (LM:=[AQ b2 64 (BB T),AQ b1 42 (IM x),AI x.a.p (x.cs),AI x.b.p (rowsL BB zs),AI x.c.p (x.ds)]) 6 ?_ ?_
  ·rcases xO (!(BH N T.1)) with hg1|hg1
   ·refine zJ (k:=22) (u:=qa true) O (by rw [hg1]) ?_
    have hg1':=hg1
    simp only [jK] at hg1'
    exact BF O (BF O (BF O (BF O (BF O (st' (v:=(qa true)) (ex_pick_true O O) O (oNl' (zS CK (xP _))))))))
   ·refine zJ (k:=22) (u:=qa false) O (by rw [hg1]) ?_
    have hg1':=hg1
    simp only [jK] at hg1'
    exact BN (v:=(aG (IM x))) O (AW (i:=1) (vs:=IM x) O O EW.a EW.s O O) (BN (v:=(pP b2 1)) O (AC (j:=1) O O underlying64 sizeOf3 O jY O) (BN (v:=(vI T.2.1)) O (AP (i:=0) (v:=(vI T.2.1)) O O Dr.a O) (zc (v:=(qa (BH N T.2.1))) (AE O) (Ac (args:=[(aG (IM x)),(vI T.2.1)]) O O call93) (λw hw=>Nu x T.2.1 w (inS hw 2 O lx)) O (leB O) (BN (v:=(qa (!(BH N T.2.1)))) O (Bh (c:=(!(BH N T.2.1))) O O) (st' (v:=(qa (!(BH N T.2.1)))) (AN O O) O (oNl' (zS CK (xP _))))))))
  refine AL O ?_
  refine zg (FM:=[(1,(pP b1 0)),(3,(vN i)),(4,(pP b2 0)),(17,(aG (IM x))),(18,(pP b2 0)),(19,(vI T.1)),(20,(qa (BH N T.1))),(21,(qa (!(BH N T.1)))),(22,(qa (!(BH N T.1)))),(28,(qa ((!(BH N T.1))||(!(BH N T.2.1))))),(29,(qa ((!(BH N T.1))||(!(BH N T.2.1))))),(35,(qa (((!(BH N T.1))||(!(BH N T.2.1)))||(!(BH N T.2.2)))))]) (LM:=[AQ b2 64 (BB T),AQ b1 42 (IM x),AI x.a.p (x.cs),AI x.b.p (rowsL BB zs),AI x.c.p (x.ds)]) 6 ?_ ?_
  ·rcases xO ((!(BH N T.1))||(!(BH N T.2.1))) with hg2|hg2
   ·refine zJ (k:=29) (u:=qa true) O (by rw [hg2]) ?_
    have hg2':=hg2
    simp only [jK] at hg2'
    exact BF O (BF O (BF O (BF O (BF O (st' (v:=(qa true)) (ex_pick_true O O) O (oNl' (zS Hw (xP _))))))))
   ·refine zJ (k:=29) (u:=qa false) O (by rw [hg2]) ?_
    have hg2':=hg2
    simp only [jK] at hg2'
    exact BN (v:=(aG (IM x))) O (AW (i:=1) (vs:=IM x) O O EW.a EW.s O O) (BN (v:=(pP b2 2)) O (AC (j:=2) O O underlying64 sizeOf3 O jY O) (BN (v:=(vI T.2.2)) O (AP (i:=0) (v:=(vI T.2.2)) O O Dr.a O) (zc (v:=(qa (BH N T.2.2))) (AE O) (Ac (args:=[(aG (IM x)),(vI T.2.2)]) O O call93) (λw hw=>Nu x T.2.2 w (inS hw 2 O lx)) O (leB O) (BN (v:=(qa (!(BH N T.2.2)))) O (Bh (c:=(!(BH N T.2.2))) O O) (st' (v:=(qa (!(BH N T.2.2)))) (AN O O) O (oNl' (zS Hw (xP _))))))))
  refine AL O ?_
  refine zg (FM:=[(1,(pP b1 0)),(3,(vN i)),(4,(pP b2 0)),(17,(aG (IM x))),(18,(pP b2 0)),(19,(vI T.1)),(20,(qa (BH N T.1))),(21,(qa (!(BH N T.1)))),(22,(qa (!(BH N T.1)))),(28,(qa ((!(BH N T.1))||(!(BH N T.2.1))))),(29,(qa ((!(BH N T.1))||(!(BH N T.2.1))))),(35,(qa (((!(BH N T.1))||(!(BH N T.2.1)))||(!(BH N T.2.2))))),(36,(qa (((!(BH N T.1))||(!(BH N T.2.1)))||(!(BH N T.2.2))))),(42,(qa ((((!(BH N T.1))||(!(BH N T.2.1)))||(!(BH N T.2.2)))||(decide (T.1=T.2.1)))))]) (LM:=[AQ b2 64 (BB T),AQ b1 42 (IM x),AI x.a.p (x.cs),AI x.b.p (rowsL BB zs),AI x.c.p (x.ds)]) 6 ?_ ?_
  ·rcases xO (((!(BH N T.1))||(!(BH N T.2.1)))||(!(BH N T.2.2))) with hg3|hg3
   ·refine zJ (k:=36) (u:=qa true) O (by rw [hg3]) ?_
    have hg3':=hg3
    simp only [jK] at hg3'
    exact BF O (BF O (BF O (BF O (BF O (st' (v:=(qa true)) (ex_pick_true O O) O (oNl' (zS Mc (xP _))))))))
   ·refine zJ (k:=36) (u:=qa false) O (by rw [hg3]) ?_
    have hg3':=hg3
    simp only [jK] at hg3'
    exact BN (v:=(pP b2 0)) O (AC (j:=0) O O underlying64 sizeOf3 O jY O) (BN (v:=(vI T.1)) O (AP (i:=0) (v:=(vI T.1)) O O Dr.a O) (BN (v:=(pP b2 1)) O (AC (j:=1) O O underlying64 sizeOf3 O jY O) (BN (v:=(vI T.2.1)) O (AP (i:=0) (v:=(vI T.2.1)) O O Dr.a O) (BN (v:=(qa (decide (T.1=T.2.1)))) O (Az (c:=(decide (T.1=T.2.1))) O O O) (st' (v:=(qa (decide (T.1=T.2.1)))) (AN O O) O (oNl' (zS Mc (xP _))))))))
  refine AL O ?_
  refine zg (FM:=[(1,(pP b1 0)),(3,(vN i)),(4,(pP b2 0)),(17,(aG (IM x))),(18,(pP b2 0)),(19,(vI T.1)),(20,(qa (BH N T.1))),(21,(qa (!(BH N T.1)))),(22,(qa (!(BH N T.1)))),(28,(qa ((!(BH N T.1))||(!(BH N T.2.1))))),(29,(qa ((!(BH N T.1))||(!(BH N T.2.1))))),(35,(qa (((!(BH N T.1))||(!(BH N T.2.1)))||(!(BH N T.2.2))))),(36,(qa (((!(BH N T.1))||(!(BH N T.2.1)))||(!(BH N T.2.2))))),(42,(qa ((((!(BH N T.1))||(!(BH N T.2.1)))||(!(BH N T.2.2)))||(decide (T.1=T.2.1))))),(43,(qa ((((!(BH N T.1))||(!(BH N T.2.1)))||(!(BH N T.2.2)))||(decide (T.1=T.2.1))))),(49,(qa (((((!(BH N T.1))||(!(BH N T.2.1)))||(!(BH N T.2.2)))||(decide (T.1=T.2.1)))||(decide (T.1=T.2.2)))))]) (LM:=[AQ b2 64 (BB T),AQ b1 42 (IM x),AI x.a.p (x.cs),AI x.b.p (rowsL BB zs),AI x.c.p (x.ds)]) 6 ?_ ?_
  ·rcases xO ((((!(BH N T.1))||(!(BH N T.2.1)))||(!(BH N T.2.2)))||(decide (T.1=T.2.1))) with hg4|hg4
   ·refine zJ (k:=43) (u:=qa true) O (by rw [hg4]) ?_
    have hg4':=hg4
    simp only [jK] at hg4'
    exact BF O (BF O (BF O (BF O (BF O (st' (v:=(qa true)) (ex_pick_true O O) O (oNl' (zS Pl (xP _))))))))
   ·refine zJ (k:=43) (u:=qa false) O (by rw [hg4]) ?_
    have hg4':=hg4
    simp only [jK] at hg4'
    exact BN (v:=(pP b2 0)) O (AC (j:=0) O O underlying64 sizeOf3 O jY O) (BN (v:=(vI T.1)) O (AP (i:=0) (v:=(vI T.1)) O O Dr.a O) (BN (v:=(pP b2 2)) O (AC (j:=2) O O underlying64 sizeOf3 O jY O) (BN (v:=(vI T.2.2)) O (AP (i:=0) (v:=(vI T.2.2)) O O Dr.a O) (BN (v:=(qa (decide (T.1=T.2.2)))) O (Az (c:=(decide (T.1=T.2.2))) O O O) (st' (v:=(qa (decide (T.1=T.2.2)))) (AN O O) O (oNl' (zS Pl (xP _))))))))
  refine AL O ?_
  refine zg (FM:=[(1,(pP b1 0)),(3,(vN i)),(4,(pP b2 0)),(17,(aG (IM x))),(18,(pP b2 0)),(19,(vI T.1)),(20,(qa (BH N T.1))),(21,(qa (!(BH N T.1)))),(22,(qa (!(BH N T.1)))),(28,(qa ((!(BH N T.1))||(!(BH N T.2.1))))),(29,(qa ((!(BH N T.1))||(!(BH N T.2.1))))),(35,(qa (((!(BH N T.1))||(!(BH N T.2.1)))||(!(BH N T.2.2))))),(36,(qa (((!(BH N T.1))||(!(BH N T.2.1)))||(!(BH N T.2.2))))),(42,(qa ((((!(BH N T.1))||(!(BH N T.2.1)))||(!(BH N T.2.2)))||(decide (T.1=T.2.1))))),(43,(qa ((((!(BH N T.1))||(!(BH N T.2.1)))||(!(BH N T.2.2)))||(decide (T.1=T.2.1))))),(49,(qa (((((!(BH N T.1))||(!(BH N T.2.1)))||(!(BH N T.2.2)))||(decide (T.1=T.2.1)))||(decide (T.1=T.2.2))))),(50,(qa (((((!(BH N T.1))||(!(BH N T.2.1)))||(!(BH N T.2.2)))||(decide (T.1=T.2.1)))||(decide (T.1=T.2.2))))),(56,(qa ((((((!(BH N T.1))||(!(BH N T.2.1)))||(!(BH N T.2.2)))||(decide (T.1=T.2.1)))||(decide (T.1=T.2.2)))||(decide (T.2.1=T.2.2)))))]) (LM:=[AQ b2 64 (BB T),AQ b1 42 (IM x),AI x.a.p (x.cs),AI x.b.p (rowsL BB zs),AI x.c.p (x.ds)]) 6 ?_ ?_
  ·rcases xO (((((!(BH N T.1))||(!(BH N T.2.1)))||(!(BH N T.2.2)))||(decide (T.1=T.2.1)))||(decide (T.1=T.2.2))) with hg5|hg5
   ·refine zJ (k:=50) (u:=qa true) O (by rw [hg5]) ?_
    have hg5':=hg5
    simp only [jK] at hg5'
    exact BF O (BF O (BF O (BF O (BF O (st' (v:=(qa true)) (ex_pick_true O O) O (oNl' (zS Pm (xP _))))))))
   ·refine zJ (k:=50) (u:=qa false) O (by rw [hg5]) ?_
    have hg5':=hg5
    simp only [jK] at hg5'
    exact BN (v:=(pP b2 1)) O (AC (j:=1) O O underlying64 sizeOf3 O jY O) (BN (v:=(vI T.2.1)) O (AP (i:=0) (v:=(vI T.2.1)) O O Dr.a O) (BN (v:=(pP b2 2)) O (AC (j:=2) O O underlying64 sizeOf3 O jY O) (BN (v:=(vI T.2.2)) O (AP (i:=0) (v:=(vI T.2.2)) O O Dr.a O) (BN (v:=(qa (decide (T.2.1=T.2.2)))) O (Az (c:=(decide (T.2.1=T.2.2))) O O O) (st' (v:=(qa (decide (T.2.1=T.2.2)))) (AN O O) O (oNl' (zS Pm (xP _))))))))
  refine oNl' (zB (sL [1,3,4,56] O) (zA ?_))
  refine zK O (λhc1=>?_) (λhc1=>?_)
  ·simp only [jK] at hc1
   exact q4 (asg' O (oNl' (zA (zF (zT (zH (zy (zT (zH (ret_one O (rd_tmp (v:=(qa false)) O) (λw hw=>⟨by rw [YS (j:=i) Z (by rw [<-hT];unfold M2;rw [Bool.eq_false_iff];intro h9;simp only [xZ,xV,xS] at h9;grind)],hw.out⟩)))))))))))
  ·simp only [jK] at hc1
   exact zI (zM (zA (zL (AL O (st' (Ad (c:=((i+1:Nat):Int)) O O (Ab (a:=i) (b:=1) Z)) O (asg' O (oNl' (zB (sL [1,3,4] O) (yC (i+1) (⟨Z,λj hj=>by rcases Nat.lt_or_ge j i with h9|h9;exact hok j h9;rw [show j=i by omega,<-hT];unfold M2;simp only [xZ,xV,xS];grind⟩) Z (sF O) (sl sr))))))))))
 ·replace hc0:=xQ hc0
  exact zW (zO (zn (zR (q2 (asg' O (oNl' (zA (zF (ret_one O (rd_tmp (v:=(qa true)) O) (λw hw=>⟨by rw [Vo λj hj=>hok j Z],hw.out⟩))))))))))
end
section
abbrev EZ:=Int×Int×Int×Int
abbrev KI:=List (P2×Int)
def HQ (s:Tq3):Z3:=((s.1:Int),(s.2.1:Int),(s.2.2:Int))
section
variable {N:Nat} {ss:List Z3} {vs:List P2} {v:P2} {es:List EZ} {i j k a b:Nat} {m:KI} {rs:List T3} {ps:List Pt}
theorem Ja (rs:List T3):rowsL Bk rs=rowsL BB (rs.map HQ):=by unfold rowsL;rw [List.flatMap_map];rfl
end
structure eB (N M:Nat) (ss:List Z3) where
  cs:List Value
  es:List Value
  a:RX cs N
  b:RX es M
  c:RX (rowsL BB ss) ss.length
def gK {N M:Nat} {ss:List Z3} (x:eB N M ss):List Value:=[x.a.val,x.b.val,x.c.val]
theorem dG {N M:Nat} {ss:List Z3} {x:eB N M ss} {y:As} (hy:y∈[x.a.row,x.b.row,x.c.row]):y.ro=true:=by
  simp only [xL,List.not_mem_nil,or_false] at hy
  rcases hy with rfl|rfl|rfl<;>rfl
instance {N M:Nat} {ss:List Z3}:CT (eB N M ss):=⟨λx=>aG (gK x),λx=>[x.a.row,x.b.row,x.c.row],λx y hy=>dG hy⟩
section
variable {S:Nat->Prop} {w:World} {N M:Nat} {zs ss:List Z3} {ps:List Pt} {a b:Int} {i:Nat}
end
section
variable {f:Nat->Nat->Int} {rs:List T3} {i:Nat}
end
section
variable {rs qs:List RP} {q:RP} {N i k:Nat} {es:List EZ}
theorem Pu.any {α:Type} {V:α->Value} {LW:α->List As} {S S':Nat->Prop} {W w:World} {e:Ending} (h:Pu V LW S W e w) (hr:∀a,∀y∈LW a,y.ro=false):Pu V LW S' W e w:=by
  obtain ⟨a,h1,h2,h3,h4⟩:=h
  refine ⟨a,h1,h2,λx hx b e=>?_,h4⟩
  obtain ⟨k1,k2⟩:=h3 x hx b e
  refine ⟨.inl ?_,k2⟩
  rcases k1 with k1|⟨k1,_⟩
  · exact k1
  · rw [hr a x hx] at k1;cases k1
end
theorem cB {w0:Av} {S:Nat->Prop} {L:List As} {w:World} {ps:List Pt} {ts ss:List Z3} {x:Ji ps ts ss} (hw:A6 w0 w L) (i:Nat) (hi:(L.drop i).take 3=[x.a.row,x.b.row,x.c.row]) (hs:∀y∈DE x.rs,y∈L) (ha:At w0 S x):Ro (SL w0 S L) w x:=λy hy=>by
  have hy':y∈[x.a.row,x.b.row,x.c.row]++DE x.rs:=hy
  have hm:y∈L:=by
    rcases List.mem_append.1 hy' with hy|hy
    · exact List.mem_of_mem_drop (List.mem_of_mem_take (hi▸hy))
    · exact hs y hy
  exact ⟨λb e=>(hw.2.1 y hm b e).2,λb e=>⟨⟨y,hm,CT.ro x y hy,e⟩,ha y hy b e⟩⟩
section
variable {N i:Nat} {es:List EZ}
end
end
section
section
variable {N:Nat} {ts:List T3} {zs ss:List Z3} {ps:List Pt}
theorem K6 (ts:List T3):(ts.map HQ).map natT=ts:=by
  rw [List.map_map]
  conv=>rhs;rw [<-List.map_id ts]
  exact List.map_congr_left λt _=>rfl
theorem YU (t:T3):M2 N (HQ t)=OJ N t:=by
  obtain ⟨a,b,c⟩:=t
  unfold M2 OJ HQ BH
  rw [Bool.eq_iff_iff]
  simp only [xZ,xV,xT,xS]
  omega
theorem M1:Du N (ts.map HQ)=EG N ts:=by
  unfold Du EG
  rw [List.all_map]
  congr 1
  funext t
  exact YU t
theorem TN {z:Z3} (h:M2 N z=true):HQ (natT z)=z:=by
  obtain ⟨a,b,c⟩:=z
  unfold M2 BH at h
  simp only [xZ,xV,xT,xS] at h
  obtain ⟨⟨⟨⟨⟨⟨h1,h2⟩,h3,h4⟩,h5,h6⟩,h7⟩,h8⟩,h9⟩:=h
  exact Prod.ext (Int.toNat_of_nonneg h1) (Prod.ext (Int.toNat_of_nonneg h3) (Int.toNat_of_nonneg h5))
theorem LJ (h:Du N zs=true):∃ts:List T3,zs=ts.map HQ/\EG N ts=true:=by
  refine ⟨zs.map natT,?_,(Vp h).1⟩
  rw [List.map_map]
  conv=>lhs;rw [<-List.map_id zs]
  exact List.map_congr_left λz hz=>(TN (List.all_eq_true.1 h z hz)).symm
end
structure MN (ps:List Pt) (ts:List T3) (ss:List Z3) where
  a:RX (rowsL Ae ps) ps.length
  b:RX (rowsL Bk ts) ts.length
  c:RX (rowsL BB ss) ss.length
def cQ {ps:List Pt} {ts:List T3} {ss:List Z3} (x:MN ps ts ss):List Value:=[x.a.val,x.b.val,x.c.val]
theorem cR {ps:List Pt} {ts:List T3} {ss:List Z3} {x:MN ps ts ss} {y:As} (hy:y∈[x.a.row,x.b.row,x.c.row]):y.ro=true:=by
  simp only [xL,List.not_mem_nil,or_false] at hy
  rcases hy with rfl|rfl|rfl<;>rfl
instance {ps:List Pt} {ts:List T3} {ss:List Z3}:CT (MN ps ts ss):=⟨λx=>aG (cQ x),λx=>[x.a.row,x.b.row,x.c.row],λx y hy=>cR hy⟩
section
variable {N:Nat} {ts:List T3} {zs ss:List Z3} {ps:List Pt}
theorem cV (x:MZ ps (ts.map HQ) ss):∃y:MN ps ts ss,cQ y=D4 x/\∀{S:Nat->Prop} {w:World},Ro S w x->Ro S w y:=by
  obtain ⟨a,⟨bp,bc,bok⟩,c⟩:=x
  have hk:(ts.map HQ).length=ts.length:=xI _
  refine ⟨⟨a,⟨bp,bc,hk▸bok⟩,c⟩,?_,λ{S w} hx y hy=>?_⟩
  · show [a.val,.slice bp ts.length bc,c.val]=[a.val,.slice bp (ts.map HQ).length bc,c.val]
    rw [hk]
  · have hy:y∈[a.row,AI bp (rowsL Bk ts),c.row]:=hy
    rw [Ja] at hy
    exact hx y hy
end
structure OG (ps:List Pt) (ts:List T3) (ss:List Z3) where
  rs:List RP
  e:rs.map (·.p)=ps
  a:RX (rowsL Dp rs) rs.length
  b:RX (rowsL Bk ts) ts.length
  c:RX (rowsL BB ss) ss.length
def Ec {ps:List Pt} {ts:List T3} {ss:List Z3} (x:OG ps ts ss):List Value:=[x.a.val,x.b.val,x.c.val]
theorem c7 {ps:List Pt} {ts:List T3} {ss:List Z3} {x:OG ps ts ss} {y:As} (hy:y∈[x.a.row,x.b.row,x.c.row]++DE x.rs):y.ro=true:=by
  rcases List.mem_append.1 hy with hy|hy
  · simp only [xL,List.not_mem_nil,or_false] at hy
    rcases hy with rfl|rfl|rfl<;>rfl
  · exact Nz hy
instance {ps:List Pt} {ts:List T3} {ss:List Z3}:CT (OG ps ts ss):=⟨λx=>aG (Ec x),λx=>[x.a.row,x.b.row,x.c.row]++DE x.rs,λx y hy=>c7 hy⟩
section
variable {N:Nat} {ts:List T3} {zs ss:List Z3} {ps:List Pt}
theorem OG.len (x:OG ps ts ss):x.rs.length=ps.length:=by
  have h:=congrArg List.length x.e
  rwa [xI] at h
theorem OG.at (x:OG ps ts ss) {i:Nat} (h:i<x.rs.length):(x.rs.getD i Dv).p=ps.getD i ⟨0,0⟩:=by
  have h1:(x.rs.map (·.p)).getD i ⟨0,0⟩=ps.getD i ⟨0,0⟩:=congrArg (λl=>l.getD i ⟨0,0⟩) x.e
  rw [<-h1]
  simp [h]
theorem At.rnt {S:Nat->Prop} {w0:Av} {x:OG ps ts ss} (h:At w0 S x):∀y∈DE x.rs,∀b,y.foot=some b->Nw w0 S b:=λy hy=>h y (xG [x.a.row,x.b.row,x.c.row] hy)
theorem Zh (x:OG ps ts ss):∃y:Ji ps (ts.map HQ) ss,G1 y=Ec x/\y.rs=x.rs/\∀{S:Nat->Prop} {w:World},Ro S w x->Ro S w y:=by
  obtain ⟨rs,e,a,⟨bp,bc,bok⟩,c⟩:=x
  have hk:ts.length=(ts.map HQ).length:=(xI _).symm
  refine ⟨⟨rs,e,a,⟨bp,bc,hk▸bok⟩,c⟩,?_,rfl,λ{S w} hx y hy=>?_⟩
  · show [a.val,.slice bp (ts.map HQ).length bc,c.val]=[a.val,.slice bp ts.length bc,c.val]
    rw [<-hk]
  · have hy:y∈[a.row,AI bp (rowsL BB (ts.map HQ)),c.row]++DE rs:=hy
    rw [<-Ja] at hy
    exact hx y hy
theorem Zi (x:Ji ps (ts.map HQ) ss):∃y:OG ps ts ss,Ec y=G1 x/\y.rs=x.rs/\∀{S:Nat->Prop} {w:World},Ro S w x->Ro S w y:=by
  obtain ⟨rs,e,a,⟨bp,bc,bok⟩,c⟩:=x
  have hk:(ts.map HQ).length=ts.length:=xI _
  refine ⟨⟨rs,e,a,⟨bp,bc,hk▸bok⟩,c⟩,?_,rfl,λ{S w} hx y hy=>?_⟩
  · show [a.val,.slice bp ts.length bc,c.val]=[a.val,.slice bp (ts.map HQ).length bc,c.val]
    rw [hk]
  · have hy:y∈[a.row,AI bp (rowsL Bk ts),c.row]++DE rs:=hy
    rw [Ja] at hy
    exact hx y hy
end
theorem X9 {w0:Av} {S:Nat->Prop} {L:List As} {w:World} {ps:List Pt} {ts:List T3} {ss:List Z3} {x:OG ps ts ss} (hw:A6 w0 w L) (i:Nat) (hi:(L.drop i).take 3=[x.a.row,x.b.row,x.c.row]) (hs:∀y∈DE x.rs,y∈L) (ha:At w0 S x):Ro (SL w0 S L) w x:=λy hy=>by
  have hy':y∈[x.a.row,x.b.row,x.c.row]++DE x.rs:=hy
  have hm:y∈L:=by
    rcases List.mem_append.1 hy' with hy|hy
    · exact List.mem_of_mem_drop (List.mem_of_mem_take (hi▸hy))
    · exact hs y hy
  exact ⟨λb e=>(hw.2.1 y hm b e).2,λb e=>⟨⟨y,hm,CT.ro x y hy,e⟩,ha y hy b e⟩⟩
structure fS (ps:List Pt) (ts ss:List Z3) where
  m:MZ ps ts ss
  ha:m.a.c=ps.length
  hb:m.b.c=ts.length
instance {ps:List Pt} {ts ss:List Z3}:CT (fS ps ts ss):=⟨λx=>aG (D4 x.m),λx=>[x.m.a.row,x.m.b.row,x.m.c.row],λx y hy=>Vg hy⟩
structure fq (ps:List Pt) (ts ss:List Z3) (l:List Nat) (e:Nat) where
  x:fS ps ts ss
  q:CX (bw l) l.length
instance {ps:List Pt} {ts ss:List Z3} {l:List Nat} {e:Nat}:CT (fq ps ts ss l e):=⟨λr=>.tuple #[aG (D4 r.x.m),.slice r.q.p l.length l.length,vN e],λr=>[r.x.m.a.row,r.x.m.b.row,r.x.m.c.row,AI r.q.p (bw l)],λr y hy=>by
  rcases List.mem_append.1 (show y∈[r.x.m.a.row,r.x.m.b.row,r.x.m.c.row]++[AI r.q.p (bw l)] from hy) with hy|hy
  · exact Vg hy
  · rcases xM.1 hy with rfl;rfl⟩
structure fp (ps:List Pt) (ts ss:List Z3) (l:List Nat) (e:Nat) where
  x:Ji ps ts ss
  q:RX (bw l) l.length
instance {ps:List Pt} {ts ss:List Z3} {l:List Nat} {e:Nat}:CT (fp ps ts ss l e):=⟨λr=>.tuple #[aG (G1 r.x),r.q.val,vN e],λr=>r.q.row::([r.x.a.row,r.x.b.row,r.x.c.row]++DE r.x.rs),λr y hy=>by
  rcases xL.1 hy with rfl|hy
  · rfl
  · exact Zj hy⟩
section
variable {N M i j a b:Nat} {ts:List T3}
end
end
end Go.Proofs.YtcpkbjjmcleplaaGreatDoor
