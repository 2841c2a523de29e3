import Derived.Test.YtcpkbjjmcleplaaGreatDoorPart30
import Derived.Test.YtcpkbjjmcleplaaGreatDoorPart34
namespace Go.Proofs.YtcpkbjjmcleplaaGreatDoor
open Go Go.RowKit Go.Proofs.Tryz
open Go.Value renaming slice→qz,bool→qa
set_option linter.unusedVariables false
set_option linter.unusedSimpArgs false
section
set_option maxRecDepth 100000
theorem J3 (p:Int) (n:Nat) (w:World)  :Calls prog 118 #[(vI p),(vN n)] w (Ac w (qa (BQ n p))):=by
 refine AV (args:=[(vI p),(vN n)]) func118 O O (leB O) (zI (sL [0,1] O) (q4 (asg' O (oNl' (q2 (AK O (st' (Cy (c:=(decide ((0:Int)<=p))) O O O) O (AK O ?_))))))))
 refine zg (FM:=[(0,(vI p)),(1,(vN n)),(4,(qa false)),(5,(vI p)),(6,(qa (decide ((0:Int)<=p)))),(7,(qa (decide ((0:Int)<=p)))),(11,(qa ((decide ((0:Int)<=p))&&(decide (p<((n:Nat):Int))))))]) (LM:=[]) 4 ?_ ?_
 ·rcases xO (decide ((0:Int)<=p)) with hg1|hg1
  ·refine zN (k:=7) (u:=qa true) O (by rw [hg1]) ?_
   have hg1':=xR hg1
   exact FR O (FR O (BV (v:=(qa (decide (p<((n:Nat):Int))))) O (Aa (c:=(decide (p<((n:Nat):Int)))) O O O) (st' (v:=(qa (decide (p<((n:Nat):Int))))) (ex_pick_true O O) O (oNl' (zT CT (xP _))))))
  ·refine zN (k:=7) (u:=qa false) O (by rw [hg1]) ?_
   have hg1':=xQ hg1
   exact BP O (BP O (BP O (st' (v:=(qa false)) (AN O O) O (oNl' (zT CT (xP _))))))
 exact asg' O (oNl' (zB (sL [4] O) (zA (zF (ret_one O (rd_tmp (v:=(qa ((decide ((0:Int)<=p))&&(decide (p<((n:Nat):Int)))))) O) (λw hw=>⟨by unfold BQ;first|rfl|simp,hw.out⟩))))))
theorem Ui (t:Z3) (n:Nat) (bo:BX [vN n]) (w:World) {S:Nat->Prop} (hbo:Ro S w bo):Calls prog 171 #[(aG (Bn t)),(pP bo.b 0)] w (Ac w (qa (!Nv n t))):=by
 have lbo:=Bx (W:=w) hbo
 refine AZ (args:=[(aG (Bn t)),(pP bo.b 0)]) (L:=[AI (some ⟨bo.b,0,none⟩) ([(vN n)])]) func171 O O (leB O) (GT hbo Ao) (zI (sL [0,1] O) (q4 (BH (cs:=Bn t) O λb1=>asg' O (q3 (sL [1,2,3] O) (st' (v:=(pP b1 0)) (AB (j:=0) O O underlying64 sizeOf3 O jY O) O (BL 0 (vI t.1) Dc O (st' (Ad (q:=some ⟨bo.b,0,none⟩) (v:=(vN n)) (off:=0) (i:=1) O O (λe=>by cases e) Dc O) O (ck' call118 (J3 t.1 n) O (st' (Bs (c:=(!(BQ n t.1))) O O) O (AK O ?_))))))))))
 refine zg (FM:=[(1,(pP bo.b 0)),(2,(pP b1 0)),(3,(qa false)),(4,(pP b1 0)),(5,(vI t.1)),(6,(vN n)),(7,(qa (BQ n t.1))),(8,(qa (!(BQ n t.1)))),(9,(qa (!(BQ n t.1)))),(15,(qa ((!(BQ n t.1))||(!(BQ n t.2.1)))))]) (LM:=[AO b1 64 (Bn t),AI (some ⟨bo.b,0,none⟩) ([(vN n)])]) 6 ?_ ?_
 ·rcases xO (!(BQ n t.1)) with hg1|hg1
  ·refine zN (k:=9) (u:=qa true) O (by rw [hg1]) ?_
   have hg1':=hg1
   simp only [jK] at hg1'
   exact BP O (BP O (BP O (BP O (BP O (st' (v:=(qa true)) (ex_pick_true O O) O (oNl' (zT CT (xP _))))))))
  ·refine zN (k:=9) (u:=qa false) O (by rw [hg1]) ?_
   have hg1':=hg1
   simp only [jK] at hg1'
   exact BV (v:=(pP b1 1)) O (AB (j:=1) O O underlying64 sizeOf3 O jY O) (BV (v:=(vI t.2.1)) O (AR (i:=0) (v:=(vI t.2.1)) O O Dc.a O) (BV (v:=(vN n)) O (Ad (q:=some ⟨bo.b,0,none⟩) (v:=(vN n)) (off:=0) (i:=1) O O (λe=>by cases e) Dc O) (zd (v:=(qa (BQ n t.2.1))) (AE O) (Ag (args:=[(vI t.2.1),(vN n)]) O O call118) (λw hw=>J3 t.2.1 n w) O (leB O) (BV (v:=(qa (!(BQ n t.2.1)))) O (Bs (c:=(!(BQ n t.2.1))) O O) (st' (v:=(qa (!(BQ n t.2.1)))) (AN O O) O (oNl' (zT CT (xP _))))))))
 refine AK O ?_
 refine zg (FM:=[(1,(pP bo.b 0)),(2,(pP b1 0)),(3,(qa false)),(4,(pP b1 0)),(5,(vI t.1)),(6,(vN n)),(7,(qa (BQ n t.1))),(8,(qa (!(BQ n t.1)))),(9,(qa (!(BQ n t.1)))),(15,(qa ((!(BQ n t.1))||(!(BQ n t.2.1))))),(16,(qa ((!(BQ n t.1))||(!(BQ n t.2.1))))),(22,(qa (((!(BQ n t.1))||(!(BQ n t.2.1)))||(!(BQ n t.2.2)))))]) (LM:=[AO b1 64 (Bn t),AI (some ⟨bo.b,0,none⟩) ([(vN n)])]) 6 ?_ ?_
 ·rcases xO ((!(BQ n t.1))||(!(BQ n t.2.1))) with hg2|hg2
  ·refine zN (k:=16) (u:=qa true) O (by rw [hg2]) ?_
   have hg2':=hg2
   simp only [jK] at hg2'
   exact BP O (BP O (BP O (BP O (BP O (st' (v:=(qa true)) (ex_pick_true O O) O (oNl' (zT IQ (xP _))))))))
  ·refine zN (k:=16) (u:=qa false) O (by rw [hg2]) ?_
   have hg2':=hg2
   simp only [jK] at hg2'
   exact BV (v:=(pP b1 2)) O (AB (j:=2) O O underlying64 sizeOf3 O jY O) (BV (v:=(vI t.2.2)) O (AR (i:=0) (v:=(vI t.2.2)) O O Dc.a O) (BV (v:=(vN n)) O (Ad (q:=some ⟨bo.b,0,none⟩) (v:=(vN n)) (off:=0) (i:=1) O O (λe=>by cases e) Dc O) (zd (v:=(qa (BQ n t.2.2))) (AE O) (Ag (args:=[(vI t.2.2),(vN n)]) O O call118) (λw hw=>J3 t.2.2 n w) O (leB O) (BV (v:=(qa (!(BQ n t.2.2)))) O (Bs (c:=(!(BQ n t.2.2))) O O) (st' (v:=(qa (!(BQ n t.2.2)))) (AN O O) O (oNl' (zT IQ (xP _))))))))
 refine AK O ?_
 refine zg (FM:=[(1,(pP bo.b 0)),(2,(pP b1 0)),(3,(qa false)),(4,(pP b1 0)),(5,(vI t.1)),(6,(vN n)),(7,(qa (BQ n t.1))),(8,(qa (!(BQ n t.1)))),(9,(qa (!(BQ n t.1)))),(15,(qa ((!(BQ n t.1))||(!(BQ n t.2.1))))),(16,(qa ((!(BQ n t.1))||(!(BQ n t.2.1))))),(22,(qa (((!(BQ n t.1))||(!(BQ n t.2.1)))||(!(BQ n t.2.2))))),(23,(qa (((!(BQ n t.1))||(!(BQ n t.2.1)))||(!(BQ n t.2.2))))),(29,(qa ((((!(BQ n t.1))||(!(BQ n t.2.1)))||(!(BQ n t.2.2)))||(decide (t.1=t.2.1)))))]) (LM:=[AO b1 64 (Bn t),AI (some ⟨bo.b,0,none⟩) ([(vN n)])]) 6 ?_ ?_
 ·rcases xO (((!(BQ n t.1))||(!(BQ n t.2.1)))||(!(BQ n t.2.2))) with hg3|hg3
  ·refine zN (k:=23) (u:=qa true) O (by rw [hg3]) ?_
   have hg3':=hg3
   simp only [jK] at hg3'
   exact BP O (BP O (BP O (BP O (BP O (st' (v:=(qa true)) (ex_pick_true O O) O (oNl' (zT Qq (xP _))))))))
  ·refine zN (k:=23) (u:=qa false) O (by rw [hg3]) ?_
   have hg3':=hg3
   simp only [jK] at hg3'
   exact BV (v:=(pP b1 0)) O (AB (j:=0) O O underlying64 sizeOf3 O jY O) (BV (v:=(vI t.1)) O (AR (i:=0) (v:=(vI t.1)) O O Dc.a O) (BV (v:=(pP b1 1)) O (AB (j:=1) O O underlying64 sizeOf3 O jY O) (BV (v:=(vI t.2.1)) O (AR (i:=0) (v:=(vI t.2.1)) O O Dc.a O) (BV (v:=(qa (decide (t.1=t.2.1)))) O (Au (c:=(decide (t.1=t.2.1))) O O O) (st' (v:=(qa (decide (t.1=t.2.1)))) (AN O O) O (oNl' (zT Qq (xP _))))))))
 refine AK O ?_
 refine zg (FM:=[(1,(pP bo.b 0)),(2,(pP b1 0)),(3,(qa false)),(4,(pP b1 0)),(5,(vI t.1)),(6,(vN n)),(7,(qa (BQ n t.1))),(8,(qa (!(BQ n t.1)))),(9,(qa (!(BQ n t.1)))),(15,(qa ((!(BQ n t.1))||(!(BQ n t.2.1))))),(16,(qa ((!(BQ n t.1))||(!(BQ n t.2.1))))),(22,(qa (((!(BQ n t.1))||(!(BQ n t.2.1)))||(!(BQ n t.2.2))))),(23,(qa (((!(BQ n t.1))||(!(BQ n t.2.1)))||(!(BQ n t.2.2))))),(29,(qa ((((!(BQ n t.1))||(!(BQ n t.2.1)))||(!(BQ n t.2.2)))||(decide (t.1=t.2.1))))),(30,(qa ((((!(BQ n t.1))||(!(BQ n t.2.1)))||(!(BQ n t.2.2)))||(decide (t.1=t.2.1))))),(36,(qa (((((!(BQ n t.1))||(!(BQ n t.2.1)))||(!(BQ n t.2.2)))||(decide (t.1=t.2.1)))||(decide (t.2.1=t.2.2)))))]) (LM:=[AO b1 64 (Bn t),AI (some ⟨bo.b,0,none⟩) ([(vN n)])]) 6 ?_ ?_
 ·rcases xO ((((!(BQ n t.1))||(!(BQ n t.2.1)))||(!(BQ n t.2.2)))||(decide (t.1=t.2.1))) with hg4|hg4
  ·refine zN (k:=30) (u:=qa true) O (by rw [hg4]) ?_
   have hg4':=hg4
   simp only [jK] at hg4'
   exact BP O (BP O (BP O (BP O (BP O (st' (v:=(qa true)) (ex_pick_true O O) O (oNl' (zT Qr (xP _))))))))
  ·refine zN (k:=30) (u:=qa false) O (by rw [hg4]) ?_
   have hg4':=hg4
   simp only [jK] at hg4'
   exact BV (v:=(pP b1 1)) O (AB (j:=1) O O underlying64 sizeOf3 O jY O) (BV (v:=(vI t.2.1)) O (AR (i:=0) (v:=(vI t.2.1)) O O Dc.a O) (BV (v:=(pP b1 2)) O (AB (j:=2) O O underlying64 sizeOf3 O jY O) (BV (v:=(vI t.2.2)) O (AR (i:=0) (v:=(vI t.2.2)) O O Dc.a O) (BV (v:=(qa (decide (t.2.1=t.2.2)))) O (Au (c:=(decide (t.2.1=t.2.2))) O O O) (st' (v:=(qa (decide (t.2.1=t.2.2)))) (AN O O) O (oNl' (zT Qr (xP _))))))))
 refine AK O ?_
 refine zg (FM:=[(1,(pP bo.b 0)),(2,(pP b1 0)),(3,(qa false)),(4,(pP b1 0)),(5,(vI t.1)),(6,(vN n)),(7,(qa (BQ n t.1))),(8,(qa (!(BQ n t.1)))),(9,(qa (!(BQ n t.1)))),(15,(qa ((!(BQ n t.1))||(!(BQ n t.2.1))))),(16,(qa ((!(BQ n t.1))||(!(BQ n t.2.1))))),(22,(qa (((!(BQ n t.1))||(!(BQ n t.2.1)))||(!(BQ n t.2.2))))),(23,(qa (((!(BQ n t.1))||(!(BQ n t.2.1)))||(!(BQ n t.2.2))))),(29,(qa ((((!(BQ n t.1))||(!(BQ n t.2.1)))||(!(BQ n t.2.2)))||(decide (t.1=t.2.1))))),(30,(qa ((((!(BQ n t.1))||(!(BQ n t.2.1)))||(!(BQ n t.2.2)))||(decide (t.1=t.2.1))))),(36,(qa (((((!(BQ n t.1))||(!(BQ n t.2.1)))||(!(BQ n t.2.2)))||(decide (t.1=t.2.1)))||(decide (t.2.1=t.2.2))))),(37,(qa (((((!(BQ n t.1))||(!(BQ n t.2.1)))||(!(BQ n t.2.2)))||(decide (t.1=t.2.1)))||(decide (t.2.1=t.2.2))))),(43,(qa ((((((!(BQ n t.1))||(!(BQ n t.2.1)))||(!(BQ n t.2.2)))||(decide (t.1=t.2.1)))||(decide (t.2.1=t.2.2)))||(decide (t.2.2=t.1)))))]) (LM:=[AO b1 64 (Bn t),AI (some ⟨bo.b,0,none⟩) ([(vN n)])]) 6 ?_ ?_
 ·rcases xO (((((!(BQ n t.1))||(!(BQ n t.2.1)))||(!(BQ n t.2.2)))||(decide (t.1=t.2.1)))||(decide (t.2.1=t.2.2))) with hg5|hg5
  ·refine zN (k:=37) (u:=qa true) O (by rw [hg5]) ?_
   have hg5':=hg5
   simp only [jK] at hg5'
   exact BP O (BP O (BP O (BP O (BP O (st' (v:=(qa true)) (ex_pick_true O O) O (oNl' (zT Qs (xP _))))))))
  ·refine zN (k:=37) (u:=qa false) O (by rw [hg5]) ?_
   have hg5':=hg5
   simp only [jK] at hg5'
   exact BV (v:=(pP b1 2)) O (AB (j:=2) O O underlying64 sizeOf3 O jY O) (BV (v:=(vI t.2.2)) O (AR (i:=0) (v:=(vI t.2.2)) O O Dc.a O) (BV (v:=(pP b1 0)) O (AB (j:=0) O O underlying64 sizeOf3 O jY O) (BV (v:=(vI t.1)) O (AR (i:=0) (v:=(vI t.1)) O O Dc.a O) (BV (v:=(qa (decide (t.2.2=t.1)))) O (Au (c:=(decide (t.2.2=t.1))) O O O) (st' (v:=(qa (decide (t.2.2=t.1)))) (AN O O) O (oNl' (zT Qs (xP _))))))))
 exact asg' O (oNl' (zB (sL [3] O) (zA (zF (ret_one O (rd_tmp (v:=(qa ((((((!(BQ n t.1))||(!(BQ n t.2.1)))||(!(BQ n t.2.2)))||(decide (t.1=t.2.1)))||(decide (t.2.1=t.2.2)))||(decide (t.2.2=t.1))))) O) (λw hw=>⟨by unfold Nv;generalize BQ n t.1=q1;generalize BQ n t.2.1=q2;generalize BQ n t.2.2=q3;generalize decide (t.1=t.2.1)=q4;generalize decide (t.2.1=t.2.2)=q5;generalize decide (t.2.2=t.1)=q6;cases q1<;>cases q2<;>cases q3<;>cases q4<;>cases q5<;>cases q6<;>rfl,hw.out⟩))))))
theorem ZW (n:Nat) (bo:BX [vN n]) (ts:List Z3) (x:RX (rowsL Bn ts) ts.length) (hl:ts.length<4611686018427387904) (w:World) {S:Nat->Prop} (hbo:Ro S w bo) (hx:Ro S w x):Calls prog 201 #[(qz x.p ts.length x.c),(Value.func (.func 171) #[] #[(pP bo.b 0)])] w (Ac w (vI (idxZ n ts 0))):=by
 have lbo:=Bx (W:=w) hbo
 have lx:=Bx (W:=w) hx
 refine AZ (args:=[(qz x.p ts.length x.c),(Value.func (.func 171) #[] #[(pP bo.b 0)])]) (L:=[AI (some ⟨bo.b,0,none⟩) ([(vN n)]),AI x.p (rowsL Bn ts)]) func201 O O (leB O) (GT hbo (GT hx Ao)) (zI (sL [0,1] O) (q4 (asg' O (oNl' (q1 (q4 (AK O (st' (v:=(vN ts.length)) (AD O underlying23) O (AK O (oNl' (zB (sL [0,1,4,7,8] O) ?_)))))))))))
 refine zA (zM ?_)
 refine yW (tg λ(j:Nat)=>j<=ts.length/\idxZ n ts 0=idxZ n (ts.drop j) j) (tg λ(j:Nat)=>[(0,(qz x.p ts.length x.c)),(1,(Value.func (.func 171) #[] #[(pP bo.b 0)])),(7,(vN ts.length)),(8,(vN j))]) (tg λ(j:Nat)=>[AI (some ⟨bo.b,0,none⟩) ([(vN n)]),AI x.p (rowsL Bn ts)]) (tg λ(j:Nat)=>ts.length-j) 0 (⟨xH _,rfl⟩) (sF O) sr (λj hJ=>?_)
 obtain ⟨hj,he⟩:=hJ
 refine q4 (st' (Aa (c:=(decide (j<ts.length))) O O (DE (a:=j) (b:=ts.length))) O (oNl' (q1 ?_)))
 refine zK O (λhc0=>?_) (λhc0=>?_)
 ·replace hc0:=xR hc0
  refine zG (q1 (zM (q4 (AK O (asg' O (q3 (sL [0,1,7,8,5] O) (AK O (AK O (AK O (st' (v:=(pP (pB x.p) (pO x.p+j*3))) (AQ (j:=j) O O x.ok underlying23 sizeOf64 O Z) O (st' (v:=(aG (Bn (ts.getD j ((0,0,0):Z3))))) (Ak (vs:=Bn (ts.getD j ((0,0,0):Z3))) (i:=1) O O (BG.ne x.ok Z) Qa (BE LE _ _ _ Z) (LE _)) O ?_)))))))))))
  refine zd (v:=(qa (!Nv n (ts.getD j ((0,0,0):Z3))))) (AG O) (JH (args:=[(aG (Bn (ts.getD j ((0,0,0):Z3))))]) (caps:=[(pP bo.b 0)]) (all:=[(aG (Bn (ts.getD j ((0,0,0):Z3)))),(pP bo.b 0)]) O O O call171) (λw hw=>Ui (ts.getD j ((0,0,0):Z3)) n bo w (inS hw 0 O lbo)) O (leB O) (oNl' (zB (sL [0,1,7,8,5,16] O) (zA ?_)))
  refine zK O (λhc1=>?_) (λhc1=>?_)
  ·simp only [jK] at hc1
   have hfin:=he.trans (WY Z (by simpa using hc1))
   exact q4 (AK O (asg' O (oNl' (zB (sL [0,1,7,8,5,4] O) (zA (zF (zV (zL (yG (zV (zL (ret_one O (rd_tmp (v:=(vN j)) O) (λw hw=>⟨by rw [hfin],hw.out⟩)))))))))))))
  ·simp only [jK] at hc1
   exact zG (zJ (zA (zH (st' (AX (c:=((j+1:Nat):Int)) O O (AU (a:=j) (b:=1) Z)) O (AK O (oNl' (zB (sL [0,1,7,8,5] O) (yJ (j+1) (⟨Z,he.trans (UK Z (by simpa using hc1))⟩) Z (sF O) sr))))))))
 ·replace hc0:=xQ hc0
  have hfin:=he.trans (WX hc0)
  exact zW (zO (zy (zR (q2 (asg' O (oNl' (zA (zF (ret_one O (rd_tmp (v:=(vI (-1:Int))) O) (λw hw=>⟨by rw [hfin],hw.out⟩))))))))))
theorem V8 (n:Nat) (bo:BX [vN n]) (ts:List Z3) (x:RX (rowsL Bn ts) ts.length) (hl:ts.length<4611686018427387904) (w:World) {S:Nat->Prop} (hbo:Ro S w bo) (hx:Ro S w x):Calls prog 170 #[(qz x.p ts.length x.c),(Value.func (.func 171) #[] #[(pP bo.b 0)])] w (Ac w (qa (!EO n ts))):=by
 have lbo:=Bx (W:=w) hbo
 have lx:=Bx (W:=w) hx
 refine AZ (args:=[(qz x.p ts.length x.c),(Value.func (.func 171) #[] #[(pP bo.b 0)])]) (L:=[AI (some ⟨bo.b,0,none⟩) ([(vN n)]),AI x.p (rowsL Bn ts)]) func170 O O (leB O) (GT hbo (GT hx Ao)) (zI (sL [0,1] O) (q4 (asg' O (oNl' (q2 (AK O (AK O (CQ call201 (λw hw=>ZW n bo ts x hl w (inS hw 0 O lbo) (inS hw 1 O lx)) O (st' (Cy (c:=(!EO n ts)) O O (Nl n ts 0)) O (asg' O (oNl' ?_)))))))))))
 exact zB (sL [4] O) (zA (zF (ret_one O (rd_tmp (v:=(qa (!EO n ts))) O) (λw hw=>⟨rfl,hw.out⟩))))
theorem W9 (n:Nat) (ts:List Z3) (x:RX (rowsL Bn ts) ts.length) (hl:ts.length<4611686018427387904) (w:World) {S:Nat->Prop} (hx:Ro S w x):Calls prog 117 #[(qz x.p ts.length x.c),(vN n)] w (Ac w (qa (EO n ts))):=by
 have lx:=Bx (W:=w) hx
 refine AZ (args:=[(qz x.p ts.length x.c),(vN n)]) (L:=[AI x.p (rowsL Bn ts)]) func117 O O (leB O) (GT hx Ao) (zI (sL [0,1] O) (q4 (BH (cs:=[(vN n)]) O λb1=>yj 0 O O λhnb1=>asg' O (q3 (sL [0,3,4] O) (AK O (st' (v:=(Value.func (.func 171) #[] #[(pP b1 0)])) (FP (vs:=[]) (us:=[(pP b1 0)]) O O) O (CQ call170 (λw hw=>V8 n ⟨b1⟩ ts x hl w (f9 (x:=(⟨b1⟩:BX [vN n])) hw 0 O hnb1) (inS hw 1 O lx)) O (st' (Bs (c:=(!(!EO n ts))) O O) O (asg' O ?_)))))))))
 exact oNl' (zB (sL [4] O) (zA (zF (ret_one O (rd_tmp (v:=(qa (!(!EO n ts)))) O) (λw hw=>⟨by simp,hw.out⟩)))))
theorem Vd {N K:Nat} {zs:List Z3} (x:RQ N K zs) (hl:zs.length<4611686018427387904) (w:World) {S:Nat->Prop} (hx:Ro S w x):Calls prog 68 #[(aG (Iu x))] w (Ac w (qa (EO N zs))):=by
 have lx:=Bx (W:=w) hx
 refine AZ (args:=[(aG (Iu x))]) (L:=[AI x.a.p (x.cs),AI x.b.p (rowsL Bn zs),AI x.c.p (x.ds)]) func68 O O (leB O) (GT hx Ao) (zI (sL [0] O) (q4 (BH (cs:=Iu x) O λb1=>asg' O (q3 (sL [1,2] O) (st' (v:=(pP b1 1)) (AA O underlying37 O sizeOf23 O) O (BL 0 (qz x.b.p zs.length x.b.c) Ez O (st' (v:=(pP b1 0)) (AA O underlying37 O sizeOf35 O) O (BL 0 (qz x.a.p N x.a.c) Kl O (st' (v:=(vN N)) (AD O underlying35) O (CQ call117 (λw hw=>W9 N zs x.b hl w (gw (inS hw 1 O lx))) O ?_))))))))))
 exact asg' O (oNl' (zB (sL [2] O) (zA (zF (ret_one O (rd_tmp (v:=(qa (EO N zs))) O) (λw hw=>⟨rfl,hw.out⟩))))))
theorem Ou {N K:Nat} {zs:List Z3} (x:RQ N K zs) (p:Int) (w:World) {S:Nat->Prop} (hx:Ro S w x):Calls prog 93 #[(aG (Iu x)),(vI p)] w (Ac w (qa (BQ N p))):=by
 have lx:=Bx (W:=w) hx
 refine AZ (args:=[(aG (Iu x)),(vI p)]) (L:=[AI x.a.p (x.cs),AI x.b.p (rowsL Bn zs),AI x.c.p (x.ds)]) func93 O O (leB O) (GT hx Ao) (zI (sL [0,1] O) (q4 (BH (cs:=Iu x) O λb1=>asg' O (q3 (sL [1,2,4] O) (AK O (st' (Cy (c:=(decide ((0:Int)<=p))) O O O) O (AK O ?_)))))))
 refine zg (FM:=[(1,(vI p)),(2,(pP b1 0)),(4,(qa false)),(5,(vI p)),(6,(qa (decide ((0:Int)<=p)))),(7,(qa (decide ((0:Int)<=p)))),(13,(qa ((decide ((0:Int)<=p))&&(decide (p<((N:Nat):Int))))))]) (LM:=[AO b1 42 (Iu x),AI x.a.p (x.cs),AI x.b.p (rowsL Bn zs),AI x.c.p (x.ds)]) 6 ?_ ?_
 ·rcases xO (decide ((0:Int)<=p)) with hg1|hg1
  ·refine zN (k:=7) (u:=qa true) O (by rw [hg1]) ?_
   have hg1':=xR hg1
   exact FR O (BV (v:=(pP b1 0)) O (AA O underlying42 O sizeOf39 O) (BV (v:=(qz x.a.p N x.a.c)) O (AR (i:=0) (v:=(qz x.a.p N x.a.c)) O O VC.a O) (BV (v:=(vN N)) O (AD O underlying39) (BV (v:=(qa (decide (p<((N:Nat):Int))))) O (Aa (c:=(decide (p<((N:Nat):Int)))) O O O) (st' (v:=(qa (decide (p<((N:Nat):Int))))) (ex_pick_true O O) O (oNl' (zT CT (xP _))))))))
  ·refine zN (k:=7) (u:=qa false) O (by rw [hg1]) ?_
   have hg1':=xQ hg1
   exact BP O (BP O (BP O (BP O (BP O (st' (v:=(qa false)) (AN O O) O (oNl' (zT CT (xP _))))))))
 exact asg' O (oNl' (zB (sL [4] O) (zA (zF (ret_one O (rd_tmp (v:=(qa ((decide ((0:Int)<=p))&&(decide (p<((N:Nat):Int)))))) O) (λw hw=>⟨by unfold BQ;first|rfl|simp,hw.out⟩))))))
set_option maxHeartbeats 1000000 in
theorem JS {N K:Nat} {zs:List Z3} (x:RQ N K zs) (hl:zs.length<=1000000) (w:World) {S:Nat->Prop} (hx:Ro S w x):Calls prog 51 #[(aG (Iu x))] w (Ac w (qa (EO N zs))):=by
 have lx:=Bx (W:=w) hx
 refine AZ (args:=[(aG (Iu x))]) (L:=[AI x.a.p (x.cs),AI x.b.p (rowsL Bn zs),AI x.c.p (x.ds)]) func51 O O (leB O) (GT hx Ao) (zI (sL [0] O) (q4 (BH (cs:=Iu x) O λb1=>asg' O (q6 (sL [1,2] O) (q4 (asg' O (oNl' (zA (zM ?_)))))))))
 refine yW (tg λ(i:Nat)=>i<=zs.length/\∀j,j<i->Nv N (zs.getD j (0,0,0))=true) (tg λ(i:Nat)=>[(1,(pP b1 0)),(3,(vN i))]) (tg λ(i:Nat)=>[AO b1 42 (Iu x),AI x.a.p (x.cs),AI x.b.p (rowsL Bn zs),AI x.c.p (x.ds)]) (tg λ(i:Nat)=>zs.length-i) 0 (⟨xH _,λj h=>absurd h (Nat.not_lt_zero _)⟩) (sF O) sr (λi hJ=>?_)
 obtain ⟨hi,hok⟩:=hJ
 refine zS (q4 (AK O (st' (v:=(pP b1 1)) (AA O underlying42 O sizeOf23 O) O (BL 0 (qz x.b.p zs.length x.b.c) Ez O (st' (v:=(vN zs.length)) (AD O underlying23) O (st' (Aa (c:=(decide (i<zs.length))) O O (DE (a:=i) (b:=zs.length))) O (oNl' (zB (sL [1,3,9] O) (zA ?_)))))))))
 refine zK O (λhc0=>?_) (λhc0=>?_)
 ·replace hc0:=xR hc0
  obtain ⟨T,hT⟩:∃q,q=zs.getD i (0,0,0):=⟨_,rfl⟩
  refine zG (q1 (zM (q4 (st' (v:=(pP b1 1)) (AA O underlying42 O sizeOf23 O) O (BL 0 (qz x.b.p zs.length x.b.c) Ez O (AK O (st' (v:=(pP (pB x.b.p) (pO x.b.p+i*3))) (AQ (j:=i) O O x.b.ok underlying23 sizeOf64 O Z) O (st' (v:=(aG (Bn (zs.getD i ((0,0,0):Z3))))) (Ak (vs:=Bn (zs.getD i ((0,0,0):Z3))) (i:=2) O O (BG.ne x.b.ok Z) Qa (BE LE _ _ _ Z) (LE _)) O (zN (k:=16) (u:=(aG (Bn T))) O (by rw [hT]) (al ax O λb2=>An O sizeOf64 O ?_))))))))))
  refine q3 (sL [1,3,4] O) (Af 1 Ey O (st' (v:=(pP b2 0)) (AB (j:=0) O O underlying64 sizeOf3 O jY O) O (BL 0 (vI T.1) Dc O (CQ call93 (λw hw=>Ou x T.1 w (inS hw 2 O lx)) O (st' (Bs (c:=(!(BQ N T.1))) O O) O (AK O ?_))))))
  refine zg (FM:=[(1,(pP b1 0)),(3,(vN i)),(4,(pP b2 0)),(17,(aG (Iu x))),(18,(pP b2 0)),(19,(vI T.1)),(20,(qa (BQ N T.1))),(21,(qa (!(BQ N T.1)))),(22,(qa (!(BQ N T.1)))),(28,(qa ((!(BQ N T.1))||(!(BQ N T.2.1)))))]) (LM:=[AO b2 64 (Bn T),AO b1 42 (Iu x),AI x.a.p (x.cs),AI x.b.p (rowsL Bn zs),AI x.c.p (x.ds)]) 6 ?_ ?_
  ·rcases xO (!(BQ N T.1)) with hg1|hg1
   ·refine zN (k:=22) (u:=qa true) O (by rw [hg1]) ?_
    have hg1':=hg1
    simp only [jK] at hg1'
    exact BP O (BP O (BP O (BP O (BP O (st' (v:=(qa true)) (ex_pick_true O O) O (oNl' (zT CT (xP _))))))))
   ·refine zN (k:=22) (u:=qa false) O (by rw [hg1]) ?_
    have hg1':=hg1
    simp only [jK] at hg1'
    exact BV (v:=(aG (Iu x))) O (AY (i:=1) (vs:=Iu x) O O Ey.a Ey.s O O) (BV (v:=(pP b2 1)) O (AB (j:=1) O O underlying64 sizeOf3 O jY O) (BV (v:=(vI T.2.1)) O (AR (i:=0) (v:=(vI T.2.1)) O O Dc.a O) (zd (v:=(qa (BQ N T.2.1))) (AE O) (Ag (args:=[(aG (Iu x)),(vI T.2.1)]) O O call93) (λw hw=>Ou x T.2.1 w (inS hw 2 O lx)) O (leB O) (BV (v:=(qa (!(BQ N T.2.1)))) O (Bs (c:=(!(BQ N T.2.1))) O O) (st' (v:=(qa (!(BQ N T.2.1)))) (AN O O) O (oNl' (zT CT (xP _))))))))
  refine AK O ?_
  refine zg (FM:=[(1,(pP b1 0)),(3,(vN i)),(4,(pP b2 0)),(17,(aG (Iu x))),(18,(pP b2 0)),(19,(vI T.1)),(20,(qa (BQ N T.1))),(21,(qa (!(BQ N T.1)))),(22,(qa (!(BQ N T.1)))),(28,(qa ((!(BQ N T.1))||(!(BQ N T.2.1))))),(29,(qa ((!(BQ N T.1))||(!(BQ N T.2.1))))),(35,(qa (((!(BQ N T.1))||(!(BQ N T.2.1)))||(!(BQ N T.2.2)))))]) (LM:=[AO b2 64 (Bn T),AO b1 42 (Iu x),AI x.a.p (x.cs),AI x.b.p (rowsL Bn zs),AI x.c.p (x.ds)]) 6 ?_ ?_
  ·rcases xO ((!(BQ N T.1))||(!(BQ N T.2.1))) with hg2|hg2
   ·refine zN (k:=29) (u:=qa true) O (by rw [hg2]) ?_
    have hg2':=hg2
    simp only [jK] at hg2'
    exact BP O (BP O (BP O (BP O (BP O (st' (v:=(qa true)) (ex_pick_true O O) O (oNl' (zT IQ (xP _))))))))
   ·refine zN (k:=29) (u:=qa false) O (by rw [hg2]) ?_
    have hg2':=hg2
    simp only [jK] at hg2'
    exact BV (v:=(aG (Iu x))) O (AY (i:=1) (vs:=Iu x) O O Ey.a Ey.s O O) (BV (v:=(pP b2 2)) O (AB (j:=2) O O underlying64 sizeOf3 O jY O) (BV (v:=(vI T.2.2)) O (AR (i:=0) (v:=(vI T.2.2)) O O Dc.a O) (zd (v:=(qa (BQ N T.2.2))) (AE O) (Ag (args:=[(aG (Iu x)),(vI T.2.2)]) O O call93) (λw hw=>Ou x T.2.2 w (inS hw 2 O lx)) O (leB O) (BV (v:=(qa (!(BQ N T.2.2)))) O (Bs (c:=(!(BQ N T.2.2))) O O) (st' (v:=(qa (!(BQ N T.2.2)))) (AN O O) O (oNl' (zT IQ (xP _))))))))
  refine AK O ?_
  refine zg (FM:=[(1,(pP b1 0)),(3,(vN i)),(4,(pP b2 0)),(17,(aG (Iu x))),(18,(pP b2 0)),(19,(vI T.1)),(20,(qa (BQ N T.1))),(21,(qa (!(BQ N T.1)))),(22,(qa (!(BQ N T.1)))),(28,(qa ((!(BQ N T.1))||(!(BQ N T.2.1))))),(29,(qa ((!(BQ N T.1))||(!(BQ N T.2.1))))),(35,(qa (((!(BQ N T.1))||(!(BQ N T.2.1)))||(!(BQ N T.2.2))))),(36,(qa (((!(BQ N T.1))||(!(BQ N T.2.1)))||(!(BQ N T.2.2))))),(42,(qa ((((!(BQ N T.1))||(!(BQ N T.2.1)))||(!(BQ N T.2.2)))||(decide (T.1=T.2.1)))))]) (LM:=[AO b2 64 (Bn T),AO b1 42 (Iu x),AI x.a.p (x.cs),AI x.b.p (rowsL Bn zs),AI x.c.p (x.ds)]) 6 ?_ ?_
  ·rcases xO (((!(BQ N T.1))||(!(BQ N T.2.1)))||(!(BQ N T.2.2))) with hg3|hg3
   ·refine zN (k:=36) (u:=qa true) O (by rw [hg3]) ?_
    have hg3':=hg3
    simp only [jK] at hg3'
    exact BP O (BP O (BP O (BP O (BP O (st' (v:=(qa true)) (ex_pick_true O O) O (oNl' (zT Qq (xP _))))))))
   ·refine zN (k:=36) (u:=qa false) O (by rw [hg3]) ?_
    have hg3':=hg3
    simp only [jK] at hg3'
    exact BV (v:=(pP b2 0)) O (AB (j:=0) O O underlying64 sizeOf3 O jY O) (BV (v:=(vI T.1)) O (AR (i:=0) (v:=(vI T.1)) O O Dc.a O) (BV (v:=(pP b2 1)) O (AB (j:=1) O O underlying64 sizeOf3 O jY O) (BV (v:=(vI T.2.1)) O (AR (i:=0) (v:=(vI T.2.1)) O O Dc.a O) (BV (v:=(qa (decide (T.1=T.2.1)))) O (Au (c:=(decide (T.1=T.2.1))) O O O) (st' (v:=(qa (decide (T.1=T.2.1)))) (AN O O) O (oNl' (zT Qq (xP _))))))))
  refine AK O ?_
  refine zg (FM:=[(1,(pP b1 0)),(3,(vN i)),(4,(pP b2 0)),(17,(aG (Iu x))),(18,(pP b2 0)),(19,(vI T.1)),(20,(qa (BQ N T.1))),(21,(qa (!(BQ N T.1)))),(22,(qa (!(BQ N T.1)))),(28,(qa ((!(BQ N T.1))||(!(BQ N T.2.1))))),(29,(qa ((!(BQ N T.1))||(!(BQ N T.2.1))))),(35,(qa (((!(BQ N T.1))||(!(BQ N T.2.1)))||(!(BQ N T.2.2))))),(36,(qa (((!(BQ N T.1))||(!(BQ N T.2.1)))||(!(BQ N T.2.2))))),(42,(qa ((((!(BQ N T.1))||(!(BQ N T.2.1)))||(!(BQ N T.2.2)))||(decide (T.1=T.2.1))))),(43,(qa ((((!(BQ N T.1))||(!(BQ N T.2.1)))||(!(BQ N T.2.2)))||(decide (T.1=T.2.1))))),(49,(qa (((((!(BQ N T.1))||(!(BQ N T.2.1)))||(!(BQ N T.2.2)))||(decide (T.1=T.2.1)))||(decide (T.1=T.2.2)))))]) (LM:=[AO b2 64 (Bn T),AO b1 42 (Iu x),AI x.a.p (x.cs),AI x.b.p (rowsL Bn zs),AI x.c.p (x.ds)]) 6 ?_ ?_
  ·rcases xO ((((!(BQ N T.1))||(!(BQ N T.2.1)))||(!(BQ N T.2.2)))||(decide (T.1=T.2.1))) with hg4|hg4
   ·refine zN (k:=43) (u:=qa true) O (by rw [hg4]) ?_
    have hg4':=hg4
    simp only [jK] at hg4'
    exact BP O (BP O (BP O (BP O (BP O (st' (v:=(qa true)) (ex_pick_true O O) O (oNl' (zT Qr (xP _))))))))
   ·refine zN (k:=43) (u:=qa false) O (by rw [hg4]) ?_
    have hg4':=hg4
    simp only [jK] at hg4'
    exact BV (v:=(pP b2 0)) O (AB (j:=0) O O underlying64 sizeOf3 O jY O) (BV (v:=(vI T.1)) O (AR (i:=0) (v:=(vI T.1)) O O Dc.a O) (BV (v:=(pP b2 2)) O (AB (j:=2) O O underlying64 sizeOf3 O jY O) (BV (v:=(vI T.2.2)) O (AR (i:=0) (v:=(vI T.2.2)) O O Dc.a O) (BV (v:=(qa (decide (T.1=T.2.2)))) O (Au (c:=(decide (T.1=T.2.2))) O O O) (st' (v:=(qa (decide (T.1=T.2.2)))) (AN O O) O (oNl' (zT Qr (xP _))))))))
  refine AK O ?_
  refine zg (FM:=[(1,(pP b1 0)),(3,(vN i)),(4,(pP b2 0)),(17,(aG (Iu x))),(18,(pP b2 0)),(19,(vI T.1)),(20,(qa (BQ N T.1))),(21,(qa (!(BQ N T.1)))),(22,(qa (!(BQ N T.1)))),(28,(qa ((!(BQ N T.1))||(!(BQ N T.2.1))))),(29,(qa ((!(BQ N T.1))||(!(BQ N T.2.1))))),(35,(qa (((!(BQ N T.1))||(!(BQ N T.2.1)))||(!(BQ N T.2.2))))),(36,(qa (((!(BQ N T.1))||(!(BQ N T.2.1)))||(!(BQ N T.2.2))))),(42,(qa ((((!(BQ N T.1))||(!(BQ N T.2.1)))||(!(BQ N T.2.2)))||(decide (T.1=T.2.1))))),(43,(qa ((((!(BQ N T.1))||(!(BQ N T.2.1)))||(!(BQ N T.2.2)))||(decide (T.1=T.2.1))))),(49,(qa (((((!(BQ N T.1))||(!(BQ N T.2.1)))||(!(BQ N T.2.2)))||(decide (T.1=T.2.1)))||(decide (T.1=T.2.2))))),(50,(qa (((((!(BQ N T.1))||(!(BQ N T.2.1)))||(!(BQ N T.2.2)))||(decide (T.1=T.2.1)))||(decide (T.1=T.2.2))))),(56,(qa ((((((!(BQ N T.1))||(!(BQ N T.2.1)))||(!(BQ N T.2.2)))||(decide (T.1=T.2.1)))||(decide (T.1=T.2.2)))||(decide (T.2.1=T.2.2)))))]) (LM:=[AO b2 64 (Bn T),AO b1 42 (Iu x),AI x.a.p (x.cs),AI x.b.p (rowsL Bn zs),AI x.c.p (x.ds)]) 6 ?_ ?_
  ·rcases xO (((((!(BQ N T.1))||(!(BQ N T.2.1)))||(!(BQ N T.2.2)))||(decide (T.1=T.2.1)))||(decide (T.1=T.2.2))) with hg5|hg5
   ·refine zN (k:=50) (u:=qa true) O (by rw [hg5]) ?_
    have hg5':=hg5
    simp only [jK] at hg5'
    exact BP O (BP O (BP O (BP O (BP O (st' (v:=(qa true)) (ex_pick_true O O) O (oNl' (zT Qs (xP _))))))))
   ·refine zN (k:=50) (u:=qa false) O (by rw [hg5]) ?_
    have hg5':=hg5
    simp only [jK] at hg5'
    exact BV (v:=(pP b2 1)) O (AB (j:=1) O O underlying64 sizeOf3 O jY O) (BV (v:=(vI T.2.1)) O (AR (i:=0) (v:=(vI T.2.1)) O O Dc.a O) (BV (v:=(pP b2 2)) O (AB (j:=2) O O underlying64 sizeOf3 O jY O) (BV (v:=(vI T.2.2)) O (AR (i:=0) (v:=(vI T.2.2)) O O Dc.a O) (BV (v:=(qa (decide (T.2.1=T.2.2)))) O (Au (c:=(decide (T.2.1=T.2.2))) O O O) (st' (v:=(qa (decide (T.2.1=T.2.2)))) (AN O O) O (oNl' (zT Qs (xP _))))))))
  refine oNl' (zB (sL [1,3,4,56] O) (zA ?_))
  refine zK O (λhc1=>?_) (λhc1=>?_)
  ·simp only [jK] at hc1
   exact q4 (asg' O (oNl' (zA (zF (zV (zL (yG (zV (zL (ret_one O (rd_tmp (v:=(qa false)) O) (λw hw=>⟨by rw [Zx (j:=i) Z (by rw [<-hT];unfold Nv;rw [Bool.eq_false_iff];intro h9;simp only [xZ,xV,xS] at h9;grind)],hw.out⟩)))))))))))
  ·simp only [jK] at hc1
   exact zG (zJ (zA (zH (AK O (st' (AX (c:=((i+1:Nat):Int)) O O (AU (a:=i) (b:=1) Z)) O (asg' O (oNl' (zB (sL [1,3,4] O) (yJ (i+1) (⟨Z,λj hj=>by rcases Nat.lt_or_ge j i with h9|h9;exact hok j h9;rw [show j=i by omega,<-hT];unfold Nv;simp only [xZ,xV,xS];grind⟩) Z (sF O) (sl sr))))))))))
 ·replace hc0:=xQ hc0
  exact zW (zO (zy (zR (q2 (asg' O (oNl' (zA (zF (ret_one O (rd_tmp (v:=(qa true)) O) (λw hw=>⟨by rw [W6 λj hj=>hok j Z],hw.out⟩))))))))))
end
section
abbrev EZ:=Int×Int×Int×Int
abbrev KI:=List (P2×Int)
def EN (s:Tq3):Z3:=((s.1:Int),(s.2.1:Int),(s.2.2:Int))
section
variable {N:Nat} {ss:List Z3} {vs:List P2} {v:P2} {es:List EZ} {i j k a b:Nat} {m:KI} {rs:List T3} {ps:List Pt}
theorem FE (rs:List T3):rowsL BC rs=rowsL Bn (rs.map EN):=by unfold rowsL;rw [List.flatMap_map];rfl
end
structure gL (N M:Nat) (ss:List Z3) where
  cs:List Value
  es:List Value
  a:RX cs N
  b:RX es M
  c:RX (rowsL Bn ss) ss.length
def i0 {N M:Nat} {ss:List Z3} (x:gL N M ss):List Value:=[x.a.val,x.b.val,x.c.val]
theorem fO {N M:Nat} {ss:List Z3} {x:gL N M ss} {y:As} (hy:y∈[x.a.row,x.b.row,x.c.row]):y.ro=true:=by
  simp only [xL,List.not_mem_nil,or_false] at hy
  rcases hy with rfl|rfl|rfl<;>rfl
instance {N M:Nat} {ss:List Z3}:Cl (gL N M ss):=⟨λx=>aG (i0 x),λx=>[x.a.row,x.b.row,x.c.row],λx y hy=>fO hy⟩
section
variable {S:Nat->Prop} {w:World} {N M:Nat} {zs ss:List Z3} {ps:List Pt} {a b:Int} {i:Nat}
end
section
variable {f:Nat->Nat->Int} {rs:List T3} {i:Nat}
end
section
variable {rs qs:List RP} {q:RP} {N i k:Nat} {es:List EZ}
theorem Q0.any {α:Type} {V:α->Value} {LW:α->List As} {S S':Nat->Prop} {W w:World} {e:Ending} (h:Q0 V LW S W e w) (hr:∀a,∀y∈LW a,y.ro=false):Q0 V LW S' W e w:=by
  obtain ⟨a,h1,h2,h3,h4⟩:=h
  refine ⟨a,h1,h2,λx hx b e=>?_,h4⟩
  obtain ⟨k1,k2⟩:=h3 x hx b e
  refine ⟨.inl ?_,k2⟩
  rcases k1 with k1|⟨k1,_⟩
  · exact k1
  · rw [hr a x hx] at k1;cases k1
end
theorem eN {w0:Ay} {S:Nat->Prop} {L:List As} {w:World} {ps:List Pt} {ts ss:List Z3} {x:Ku ps ts ss} (hw:A_ w0 w L) (i:Nat) (hi:(L.drop i).take 3=[x.a.row,x.b.row,x.c.row]) (hs:∀y∈DJ x.rs,y∈L) (ha:At w0 S x):Ro (SL w0 S L) w x:=λy hy=>by
  have hy':y∈[x.a.row,x.b.row,x.c.row]++DJ x.rs:=hy
  have hm:y∈L:=by
    rcases List.mem_append.1 hy' with hy|hy
    · exact List.mem_of_mem_drop (List.mem_of_mem_take (hi▸hy))
    · exact hs y hy
  exact ⟨λb e=>(hw.2.1 y hm b e).2,λb e=>⟨⟨y,hm,Cl.ro x y hy,e⟩,ha y hy b e⟩⟩
section
variable {N i:Nat} {es:List EZ}
end
end
section
section
variable {N:Nat} {ts:List T3} {zs ss:List Z3} {ps:List Pt}
theorem Ly (ts:List T3):(ts.map EN).map natT=ts:=by
  rw [List.map_map]
  conv=>rhs;rw [<-List.map_id ts]
  exact List.map_congr_left λt _=>rfl
theorem Z0 (t:T3):Nv N (EN t)=PP N t:=by
  obtain ⟨a,b,c⟩:=t
  unfold Nv PP EN BQ
  rw [Bool.eq_iff_iff]
  simp only [xZ,xV,xT,xS]
  omega
theorem Nu:EO N (ts.map EN)=Ek N ts:=by
  unfold EO Ek
  rw [List.all_map]
  congr 1
  funext t
  exact Z0 t
theorem Ug {z:Z3} (h:Nv N z=true):EN (natT z)=z:=by
  obtain ⟨a,b,c⟩:=z
  unfold Nv BQ at h
  simp only [xZ,xV,xT,xS] at h
  obtain ⟨⟨⟨⟨⟨⟨h1,h2⟩,h3,h4⟩,h5,h6⟩,h7⟩,h8⟩,h9⟩:=h
  exact Prod.ext (Int.toNat_of_nonneg h1) (Prod.ext (Int.toNat_of_nonneg h3) (Int.toNat_of_nonneg h5))
theorem MD (h:EO N zs=true):∃ts:List T3,zs=ts.map EN/\Ek N ts=true:=by
  refine ⟨zs.map natT,?_,(W7 h).1⟩
  rw [List.map_map]
  conv=>lhs;rw [<-List.map_id zs]
  exact List.map_congr_left λz hz=>(Ug (List.all_eq_true.1 h z hz)).symm
end
structure MN (ps:List Pt) (ts:List T3) (ss:List Z3) where
  a:RX (rowsL Ah ps) ps.length
  b:RX (rowsL BC ts) ts.length
  c:RX (rowsL Bn ss) ss.length
def cg {ps:List Pt} {ts:List T3} {ss:List Z3} (x:MN ps ts ss):List Value:=[x.a.val,x.b.val,x.c.val]
theorem ee {ps:List Pt} {ts:List T3} {ss:List Z3} {x:MN ps ts ss} {y:As} (hy:y∈[x.a.row,x.b.row,x.c.row]):y.ro=true:=by
  simp only [xL,List.not_mem_nil,or_false] at hy
  rcases hy with rfl|rfl|rfl<;>rfl
instance {ps:List Pt} {ts:List T3} {ss:List Z3}:Cl (MN ps ts ss):=⟨λx=>aG (cg x),λx=>[x.a.row,x.b.row,x.c.row],λx y hy=>ee hy⟩
section
variable {N:Nat} {ts:List T3} {zs ss:List Z3} {ps:List Pt}
theorem ec (x:MN ps ts ss):∃y:MZ ps (ts.map EN) ss,EU y=cg x/\∀{S:Nat->Prop} {w:World},Ro S w x->Ro S w y:=by
  obtain ⟨a,⟨bp,bc,bok⟩,c⟩:=x
  have hk:ts.length=(ts.map EN).length:=(xI _).symm
  refine ⟨⟨a,⟨bp,bc,hk▸bok⟩,c⟩,?_,λ{S w} hx y hy=>?_⟩
  · show [a.val,.slice bp (ts.map EN).length bc,c.val]=[a.val,.slice bp ts.length bc,c.val]
    rw [<-hk]
  · have hy:y∈[a.row,AI bp (rowsL Bn (ts.map EN)),c.row]:=hy
    rw [<-FE] at hy
    exact hx y hy
theorem ek (x:MZ ps (ts.map EN) ss):∃y:MN ps ts ss,cg y=EU x/\∀{S:Nat->Prop} {w:World},Ro S w x->Ro S w y:=by
  obtain ⟨a,⟨bp,bc,bok⟩,c⟩:=x
  have hk:(ts.map EN).length=ts.length:=xI _
  refine ⟨⟨a,⟨bp,bc,hk▸bok⟩,c⟩,?_,λ{S w} hx y hy=>?_⟩
  · show [a.val,.slice bp ts.length bc,c.val]=[a.val,.slice bp (ts.map EN).length bc,c.val]
    rw [hk]
  · have hy:y∈[a.row,AI bp (rowsL BC ts),c.row]:=hy
    rw [FE] at hy
    exact hx y hy
end
structure PJ (ps:List Pt) (ts:List T3) (ss:List Z3) where
  rs:List RP
  e:rs.map (·.p)=ps
  a:RX (rowsL EE rs) rs.length
  b:RX (rowsL BC ts) ts.length
  c:RX (rowsL Bn ss) ss.length
def E6 {ps:List Pt} {ts:List T3} {ss:List Z3} (x:PJ ps ts ss):List Value:=[x.a.val,x.b.val,x.c.val]
theorem fH {ps:List Pt} {ts:List T3} {ss:List Z3} {x:PJ ps ts ss} {y:As} (hy:y∈[x.a.row,x.b.row,x.c.row]++DJ x.rs):y.ro=true:=by
  rcases List.mem_append.1 hy with hy|hy
  · simp only [xL,List.not_mem_nil,or_false] at hy
    rcases hy with rfl|rfl|rfl<;>rfl
  · exact Oy hy
instance {ps:List Pt} {ts:List T3} {ss:List Z3}:Cl (PJ ps ts ss):=⟨λx=>aG (E6 x),λx=>[x.a.row,x.b.row,x.c.row]++DJ x.rs,λx y hy=>fH hy⟩
section
variable {N:Nat} {ts:List T3} {zs ss:List Z3} {ps:List Pt}
theorem PJ.len (x:PJ ps ts ss):x.rs.length=ps.length:=by
  have h:=congrArg List.length x.e
  rwa [xI] at h
theorem PJ.at (x:PJ ps ts ss) {i:Nat} (h:i<x.rs.length):(x.rs.getD i EP).p=ps.getD i ⟨0,0⟩:=by
  have h1:(x.rs.map (·.p)).getD i ⟨0,0⟩=ps.getD i ⟨0,0⟩:=congrArg (λl=>l.getD i ⟨0,0⟩) x.e
  rw [<-h1]
  simp [h]
theorem At.rnt {S:Nat->Prop} {w0:Ay} {x:PJ ps ts ss} (h:At w0 S x):∀y∈DJ x.rs,∀b,y.foot=some b->Nw w0 S b:=λy hy=>h y (xG [x.a.row,x.b.row,x.c.row] hy)
theorem bY (x:PJ ps ts ss):∃y:Ku ps (ts.map EN) ss,HI y=E6 x/\y.rs=x.rs/\∀{S:Nat->Prop} {w:World},Ro S w x->Ro S w y:=by
  obtain ⟨rs,e,a,⟨bp,bc,bok⟩,c⟩:=x
  have hk:ts.length=(ts.map EN).length:=(xI _).symm
  refine ⟨⟨rs,e,a,⟨bp,bc,hk▸bok⟩,c⟩,?_,rfl,λ{S w} hx y hy=>?_⟩
  · show [a.val,.slice bp (ts.map EN).length bc,c.val]=[a.val,.slice bp ts.length bc,c.val]
    rw [<-hk]
  · have hy:y∈[a.row,AI bp (rowsL Bn (ts.map EN)),c.row]++DJ rs:=hy
    rw [<-FE] at hy
    exact hx y hy
theorem bZ (x:Ku ps (ts.map EN) ss):∃y:PJ ps ts ss,E6 y=HI x/\y.rs=x.rs/\∀{S:Nat->Prop} {w:World},Ro S w x->Ro S w y:=by
  obtain ⟨rs,e,a,⟨bp,bc,bok⟩,c⟩:=x
  have hk:(ts.map EN).length=ts.length:=xI _
  refine ⟨⟨rs,e,a,⟨bp,bc,hk▸bok⟩,c⟩,?_,rfl,λ{S w} hx y hy=>?_⟩
  · show [a.val,.slice bp ts.length bc,c.val]=[a.val,.slice bp (ts.map EN).length bc,c.val]
    rw [hk]
  · have hy:y∈[a.row,AI bp (rowsL BC ts),c.row]++DJ rs:=hy
    rw [FE] at hy
    exact hx y hy
end
theorem Za {w0:Ay} {S:Nat->Prop} {L:List As} {w:World} {ps:List Pt} {ts:List T3} {ss:List Z3} {x:PJ ps ts ss} (hw:A_ w0 w L) (i:Nat) (hi:(L.drop i).take 3=[x.a.row,x.b.row,x.c.row]) (hs:∀y∈DJ x.rs,y∈L) (ha:At w0 S x):Ro (SL w0 S L) w x:=λy hy=>by
  have hy':y∈[x.a.row,x.b.row,x.c.row]++DJ x.rs:=hy
  have hm:y∈L:=by
    rcases List.mem_append.1 hy' with hy|hy
    · exact List.mem_of_mem_drop (List.mem_of_mem_take (hi▸hy))
    · exact hs y hy
  exact ⟨λb e=>(hw.2.1 y hm b e).2,λb e=>⟨⟨y,hm,Cl.ro x y hy,e⟩,ha y hy b e⟩⟩
structure iO (ps:List Pt) (ts ss:List Z3) where
  m:MZ ps ts ss
  ha:m.a.c=ps.length
  hb:m.b.c=ts.length
instance {ps:List Pt} {ts ss:List Z3}:Cl (iO ps ts ss):=⟨λx=>aG (EU x.m),λx=>[x.m.a.row,x.m.b.row,x.m.c.row],λx y hy=>Wu hy⟩
structure ii (ps:List Pt) (ts ss:List Z3) (l:List Nat) (e:Nat) where
  x:iO ps ts ss
  q:CX (eK l) l.length
instance {ps:List Pt} {ts ss:List Z3} {l:List Nat} {e:Nat}:Cl (ii ps ts ss l e):=⟨λr=>.tuple #[aG (EU r.x.m),.slice r.q.p l.length l.length,vN e],λr=>[r.x.m.a.row,r.x.m.b.row,r.x.m.c.row,AI r.q.p (eK l)],λr y hy=>by
  rcases List.mem_append.1 (show y∈[r.x.m.a.row,r.x.m.b.row,r.x.m.c.row]++[AI r.q.p (eK l)] from hy) with hy|hy
  · exact Wu hy
  · rcases xM.1 hy with rfl;rfl⟩
structure ig (ps:List Pt) (ts ss:List Z3) (l:List Nat) (e:Nat) where
  x:Ku ps ts ss
  q:RX (eK l) l.length
instance {ps:List Pt} {ts ss:List Z3} {l:List Nat} {e:Nat}:Cl (ig ps ts ss l e):=⟨λr=>.tuple #[aG (HI r.x),r.q.val,vN e],λr=>r.q.row::([r.x.a.row,r.x.b.row,r.x.c.row]++DJ r.x.rs),λr y hy=>by
  rcases xL.1 hy with rfl|hy
  · rfl
  · exact ba hy⟩
section
variable {N M i j a b:Nat} {ts:List T3}
end
end
end Go.Proofs.YtcpkbjjmcleplaaGreatDoor
