import Derived.Test.YtcpkbjjmcleplaaGreatDoorPart18
namespace Go.Proofs.YtcpkbjjmcleplaaGreatDoor
open Go Go.RowKit Go.Proofs.Tryz
open Go.Value renaming slice→qz,bool→qa
set_option linter.unusedVariables false
set_option linter.unusedSimpArgs false
section
set_option maxRecDepth 100000
theorem ET (p n:Nat) (w:World)  :Calls prog 118 #[(vN p),(vN n)] w (AY w (qa (decide (p<n)))):=by
 refine AS (args:=[(vN p),(vN n)]) func118 O O (leB O) (zG (sL [0,1] O) (q4 (asg' O (oNl' (q2 (AL O (st' (CW (c:=(decide (0<=p))) O O (Rp (a:=0) (b:=p))) O (AL O ?_))))))))
 refine zg (FM:=[(0,(vN p)),(1,(vN n)),(4,(qa false)),(5,(vN p)),(6,(qa (decide (0<=p)))),(7,(qa (decide (0<=p)))),(11,(qa ((decide (0<=p))&&(decide (p<n)))))]) (LM:=[]) 4 ?_ ?_
 ·rcases xO (decide (0<=p)) with hg1|hg1
  ·refine zJ (k:=7) (u:=qa true) O (by rw [hg1]) ?_
   have hg1':=xR hg1
   exact FV O (FV O (BN (v:=(qa (decide (p<n)))) O (Ag (c:=(decide (p<n))) O O (DL (a:=p) (b:=n))) (st' (v:=(qa (decide (p<n)))) (ex_pick_true O O) O (oNl' (zS CK (xP _))))))
  ·refine zJ (k:=7) (u:=qa false) O (by rw [hg1]) ?_
   have hg1':=xQ hg1
   exact BF O (BF O (BF O (st' (v:=(qa false)) (AN O O) O (oNl' (zS CK (xP _))))))
 exact asg' O (oNl' (zB (sL [4] O) (zA (zF (ret_one O (rd_tmp (v:=(qa ((decide (0<=p))&&(decide (p<n))))) O) (λw hw=>⟨by simp,hw.out⟩))))))
theorem Vq (t:Tq3) (n:Nat) (bo:BX [vN n]) (w:World) {S:Nat->Prop} (hbo:Ro S w bo):Calls prog 171 #[(aG (Bk t)),(pP bo.b 0)] w (AY w (qa (!OJ n t))):=by
 have lbo:=Bs (W:=w) hbo
 refine AX (args:=[(aG (Bk t)),(pP bo.b 0)]) (L:=[AI (some ⟨bo.b,0,none⟩) ([(vN n)])]) func171 O O (leB O) (GN hbo Al) (zG (sL [0,1] O) (q4 (A9 (cs:=Bk t) O λb1=>asg' O (q3 (sL [1,2,3] O) (st' (v:=(pP b1 0)) (AC (j:=0) O O underlying64 sizeOf3 O jY O) O (BZ 0 (vN t.1) Dr O (st' (Aj (q:=some ⟨bo.b,0,none⟩) (v:=(vN n)) (off:=0) (i:=1) O O (λe=>by cases e) Dr O) O (ck' call118 (ET t.1 n) O (st' (Bh (c:=(!(decide (t.1<n)))) O O) O (AL O ?_))))))))))
 refine zg (FM:=[(1,(pP bo.b 0)),(2,(pP b1 0)),(3,(qa false)),(4,(pP b1 0)),(5,(vN t.1)),(6,(vN n)),(7,(qa (decide (t.1<n)))),(8,(qa (!(decide (t.1<n))))),(9,(qa (!(decide (t.1<n))))),(15,(qa ((!(decide (t.1<n)))||(!(decide (t.2.1<n))))))]) (LM:=[AQ b1 64 (Bk t),AI (some ⟨bo.b,0,none⟩) ([(vN n)])]) 6 ?_ ?_
 ·rcases xO (!(decide (t.1<n))) with hg1|hg1
  ·refine zJ (k:=9) (u:=qa true) O (by rw [hg1]) ?_
   have hg1':=hg1
   simp only [jK] at hg1'
   exact BF O (BF O (BF O (BF O (BF O (st' (v:=(qa true)) (ex_pick_true O O) O (oNl' (zS CK (xP _))))))))
  ·refine zJ (k:=9) (u:=qa false) O (by rw [hg1]) ?_
   have hg1':=hg1
   simp only [jK] at hg1'
   exact BN (v:=(pP b1 1)) O (AC (j:=1) O O underlying64 sizeOf3 O jY O) (BN (v:=(vN t.2.1)) O (AP (i:=0) (v:=(vN t.2.1)) O O Dr.a O) (BN (v:=(vN n)) O (Aj (q:=some ⟨bo.b,0,none⟩) (v:=(vN n)) (off:=0) (i:=1) O O (λe=>by cases e) Dr O) (zc (v:=(qa (decide (t.2.1<n)))) (AE O) (Ac (args:=[(vN t.2.1),(vN n)]) O O call118) (λw hw=>ET t.2.1 n w) O (leB O) (BN (v:=(qa (!(decide (t.2.1<n))))) O (Bh (c:=(!(decide (t.2.1<n)))) O O) (st' (v:=(qa (!(decide (t.2.1<n))))) (AN O O) O (oNl' (zS CK (xP _))))))))
 refine AL O ?_
 refine zg (FM:=[(1,(pP bo.b 0)),(2,(pP b1 0)),(3,(qa false)),(4,(pP b1 0)),(5,(vN t.1)),(6,(vN n)),(7,(qa (decide (t.1<n)))),(8,(qa (!(decide (t.1<n))))),(9,(qa (!(decide (t.1<n))))),(15,(qa ((!(decide (t.1<n)))||(!(decide (t.2.1<n)))))),(16,(qa ((!(decide (t.1<n)))||(!(decide (t.2.1<n)))))),(22,(qa (((!(decide (t.1<n)))||(!(decide (t.2.1<n))))||(!(decide (t.2.2<n))))))]) (LM:=[AQ b1 64 (Bk t),AI (some ⟨bo.b,0,none⟩) ([(vN n)])]) 6 ?_ ?_
 ·rcases xO ((!(decide (t.1<n)))||(!(decide (t.2.1<n)))) with hg2|hg2
  ·refine zJ (k:=16) (u:=qa true) O (by rw [hg2]) ?_
   have hg2':=hg2
   simp only [jK] at hg2'
   exact BF O (BF O (BF O (BF O (BF O (st' (v:=(qa true)) (ex_pick_true O O) O (oNl' (zS Hw (xP _))))))))
  ·refine zJ (k:=16) (u:=qa false) O (by rw [hg2]) ?_
   have hg2':=hg2
   simp only [jK] at hg2'
   exact BN (v:=(pP b1 2)) O (AC (j:=2) O O underlying64 sizeOf3 O jY O) (BN (v:=(vN t.2.2)) O (AP (i:=0) (v:=(vN t.2.2)) O O Dr.a O) (BN (v:=(vN n)) O (Aj (q:=some ⟨bo.b,0,none⟩) (v:=(vN n)) (off:=0) (i:=1) O O (λe=>by cases e) Dr O) (zc (v:=(qa (decide (t.2.2<n)))) (AE O) (Ac (args:=[(vN t.2.2),(vN n)]) O O call118) (λw hw=>ET t.2.2 n w) O (leB O) (BN (v:=(qa (!(decide (t.2.2<n))))) O (Bh (c:=(!(decide (t.2.2<n)))) O O) (st' (v:=(qa (!(decide (t.2.2<n))))) (AN O O) O (oNl' (zS Hw (xP _))))))))
 refine AL O ?_
 refine zg (FM:=[(1,(pP bo.b 0)),(2,(pP b1 0)),(3,(qa false)),(4,(pP b1 0)),(5,(vN t.1)),(6,(vN n)),(7,(qa (decide (t.1<n)))),(8,(qa (!(decide (t.1<n))))),(9,(qa (!(decide (t.1<n))))),(15,(qa ((!(decide (t.1<n)))||(!(decide (t.2.1<n)))))),(16,(qa ((!(decide (t.1<n)))||(!(decide (t.2.1<n)))))),(22,(qa (((!(decide (t.1<n)))||(!(decide (t.2.1<n))))||(!(decide (t.2.2<n)))))),(23,(qa (((!(decide (t.1<n)))||(!(decide (t.2.1<n))))||(!(decide (t.2.2<n)))))),(29,(qa ((((!(decide (t.1<n)))||(!(decide (t.2.1<n))))||(!(decide (t.2.2<n))))||(decide (t.1=t.2.1)))))]) (LM:=[AQ b1 64 (Bk t),AI (some ⟨bo.b,0,none⟩) ([(vN n)])]) 6 ?_ ?_
 ·rcases xO (((!(decide (t.1<n)))||(!(decide (t.2.1<n))))||(!(decide (t.2.2<n)))) with hg3|hg3
  ·refine zJ (k:=23) (u:=qa true) O (by rw [hg3]) ?_
   have hg3':=hg3
   simp only [jK] at hg3'
   exact BF O (BF O (BF O (BF O (BF O (st' (v:=(qa true)) (ex_pick_true O O) O (oNl' (zS Mc (xP _))))))))
  ·refine zJ (k:=23) (u:=qa false) O (by rw [hg3]) ?_
   have hg3':=hg3
   simp only [jK] at hg3'
   exact BN (v:=(pP b1 0)) O (AC (j:=0) O O underlying64 sizeOf3 O jY O) (BN (v:=(vN t.1)) O (AP (i:=0) (v:=(vN t.1)) O O Dr.a O) (BN (v:=(pP b1 1)) O (AC (j:=1) O O underlying64 sizeOf3 O jY O) (BN (v:=(vN t.2.1)) O (AP (i:=0) (v:=(vN t.2.1)) O O Dr.a O) (BN (v:=(qa (decide (t.1=t.2.1)))) O (Az (c:=(decide (t.1=t.2.1))) O O (OI (a:=t.1) (b:=t.2.1))) (st' (v:=(qa (decide (t.1=t.2.1)))) (AN O O) O (oNl' (zS Mc (xP _))))))))
 refine AL O ?_
 refine zg (FM:=[(1,(pP bo.b 0)),(2,(pP b1 0)),(3,(qa false)),(4,(pP b1 0)),(5,(vN t.1)),(6,(vN n)),(7,(qa (decide (t.1<n)))),(8,(qa (!(decide (t.1<n))))),(9,(qa (!(decide (t.1<n))))),(15,(qa ((!(decide (t.1<n)))||(!(decide (t.2.1<n)))))),(16,(qa ((!(decide (t.1<n)))||(!(decide (t.2.1<n)))))),(22,(qa (((!(decide (t.1<n)))||(!(decide (t.2.1<n))))||(!(decide (t.2.2<n)))))),(23,(qa (((!(decide (t.1<n)))||(!(decide (t.2.1<n))))||(!(decide (t.2.2<n)))))),(29,(qa ((((!(decide (t.1<n)))||(!(decide (t.2.1<n))))||(!(decide (t.2.2<n))))||(decide (t.1=t.2.1))))),(30,(qa ((((!(decide (t.1<n)))||(!(decide (t.2.1<n))))||(!(decide (t.2.2<n))))||(decide (t.1=t.2.1))))),(36,(qa (((((!(decide (t.1<n)))||(!(decide (t.2.1<n))))||(!(decide (t.2.2<n))))||(decide (t.1=t.2.1)))||(decide (t.2.1=t.2.2)))))]) (LM:=[AQ b1 64 (Bk t),AI (some ⟨bo.b,0,none⟩) ([(vN n)])]) 6 ?_ ?_
 ·rcases xO ((((!(decide (t.1<n)))||(!(decide (t.2.1<n))))||(!(decide (t.2.2<n))))||(decide (t.1=t.2.1))) with hg4|hg4
  ·refine zJ (k:=30) (u:=qa true) O (by rw [hg4]) ?_
   have hg4':=hg4
   simp only [jK] at hg4'
   exact BF O (BF O (BF O (BF O (BF O (st' (v:=(qa true)) (ex_pick_true O O) O (oNl' (zS Pl (xP _))))))))
  ·refine zJ (k:=30) (u:=qa false) O (by rw [hg4]) ?_
   have hg4':=hg4
   simp only [jK] at hg4'
   exact BN (v:=(pP b1 1)) O (AC (j:=1) O O underlying64 sizeOf3 O jY O) (BN (v:=(vN t.2.1)) O (AP (i:=0) (v:=(vN t.2.1)) O O Dr.a O) (BN (v:=(pP b1 2)) O (AC (j:=2) O O underlying64 sizeOf3 O jY O) (BN (v:=(vN t.2.2)) O (AP (i:=0) (v:=(vN t.2.2)) O O Dr.a O) (BN (v:=(qa (decide (t.2.1=t.2.2)))) O (Az (c:=(decide (t.2.1=t.2.2))) O O (OI (a:=t.2.1) (b:=t.2.2))) (st' (v:=(qa (decide (t.2.1=t.2.2)))) (AN O O) O (oNl' (zS Pl (xP _))))))))
 refine AL O ?_
 refine zg (FM:=[(1,(pP bo.b 0)),(2,(pP b1 0)),(3,(qa false)),(4,(pP b1 0)),(5,(vN t.1)),(6,(vN n)),(7,(qa (decide (t.1<n)))),(8,(qa (!(decide (t.1<n))))),(9,(qa (!(decide (t.1<n))))),(15,(qa ((!(decide (t.1<n)))||(!(decide (t.2.1<n)))))),(16,(qa ((!(decide (t.1<n)))||(!(decide (t.2.1<n)))))),(22,(qa (((!(decide (t.1<n)))||(!(decide (t.2.1<n))))||(!(decide (t.2.2<n)))))),(23,(qa (((!(decide (t.1<n)))||(!(decide (t.2.1<n))))||(!(decide (t.2.2<n)))))),(29,(qa ((((!(decide (t.1<n)))||(!(decide (t.2.1<n))))||(!(decide (t.2.2<n))))||(decide (t.1=t.2.1))))),(30,(qa ((((!(decide (t.1<n)))||(!(decide (t.2.1<n))))||(!(decide (t.2.2<n))))||(decide (t.1=t.2.1))))),(36,(qa (((((!(decide (t.1<n)))||(!(decide (t.2.1<n))))||(!(decide (t.2.2<n))))||(decide (t.1=t.2.1)))||(decide (t.2.1=t.2.2))))),(37,(qa (((((!(decide (t.1<n)))||(!(decide (t.2.1<n))))||(!(decide (t.2.2<n))))||(decide (t.1=t.2.1)))||(decide (t.2.1=t.2.2))))),(43,(qa ((((((!(decide (t.1<n)))||(!(decide (t.2.1<n))))||(!(decide (t.2.2<n))))||(decide (t.1=t.2.1)))||(decide (t.2.1=t.2.2)))||(decide (t.2.2=t.1)))))]) (LM:=[AQ b1 64 (Bk t),AI (some ⟨bo.b,0,none⟩) ([(vN n)])]) 6 ?_ ?_
 ·rcases xO (((((!(decide (t.1<n)))||(!(decide (t.2.1<n))))||(!(decide (t.2.2<n))))||(decide (t.1=t.2.1)))||(decide (t.2.1=t.2.2))) with hg5|hg5
  ·refine zJ (k:=37) (u:=qa true) O (by rw [hg5]) ?_
   have hg5':=hg5
   simp only [jK] at hg5'
   exact BF O (BF O (BF O (BF O (BF O (st' (v:=(qa true)) (ex_pick_true O O) O (oNl' (zS Pm (xP _))))))))
  ·refine zJ (k:=37) (u:=qa false) O (by rw [hg5]) ?_
   have hg5':=hg5
   simp only [jK] at hg5'
   exact BN (v:=(pP b1 2)) O (AC (j:=2) O O underlying64 sizeOf3 O jY O) (BN (v:=(vN t.2.2)) O (AP (i:=0) (v:=(vN t.2.2)) O O Dr.a O) (BN (v:=(pP b1 0)) O (AC (j:=0) O O underlying64 sizeOf3 O jY O) (BN (v:=(vN t.1)) O (AP (i:=0) (v:=(vN t.1)) O O Dr.a O) (BN (v:=(qa (decide (t.2.2=t.1)))) O (Az (c:=(decide (t.2.2=t.1))) O O (OI (a:=t.2.2) (b:=t.1))) (st' (v:=(qa (decide (t.2.2=t.1)))) (AN O O) O (oNl' (zS Pm (xP _))))))))
 exact asg' O (oNl' (zB (sL [3] O) (zA (zF (ret_one O (rd_tmp (v:=(qa ((((((!(decide (t.1<n)))||(!(decide (t.2.1<n))))||(!(decide (t.2.2<n))))||(decide (t.1=t.2.1)))||(decide (t.2.1=t.2.2)))||(decide (t.2.2=t.1))))) O) (λw hw=>⟨by congr 2;rw [Bool.eq_iff_iff];simp [OJ]<;>omega,hw.out⟩))))))
theorem aK (n:Nat) (bo:BX [vN n]) (ts:List (Tq3)) (x:RX (rowsL Bk ts) ts.length) (hl:ts.length<4611686018427387904) (w:World) {S:Nat->Prop} (hbo:Ro S w bo) (hx:Ro S w x):Calls prog 201 #[(qz x.p ts.length x.c),(Value.func (.func 171) #[] #[(pP bo.b 0)])] w (AY w (vI (idxB n ts 0))):=by
 have lbo:=Bs (W:=w) hbo
 have lx:=Bs (W:=w) hx
 refine AX (args:=[(qz x.p ts.length x.c),(Value.func (.func 171) #[] #[(pP bo.b 0)])]) (L:=[AI (some ⟨bo.b,0,none⟩) ([(vN n)]),AI x.p (rowsL Bk ts)]) func201 O O (leB O) (GN hbo (GN hx Al)) (zG (sL [0,1] O) (q4 (asg' O (oNl' (q1 (q4 (AL O (st' (v:=(vN ts.length)) (AD O underlying23) O (AL O (oNl' (zB (sL [0,1,4,7,8] O) ?_)))))))))))
 refine zA (zN ?_)
 refine yO (tg λ(j:Nat)=>j<=ts.length/\idxB n ts 0=idxB n (ts.drop j) j) (tg λ(j:Nat)=>[(0,(qz x.p ts.length x.c)),(1,(Value.func (.func 171) #[] #[(pP bo.b 0)])),(7,(vN ts.length)),(8,(vN j))]) (tg λ(j:Nat)=>[AI (some ⟨bo.b,0,none⟩) ([(vN n)]),AI x.p (rowsL Bk ts)]) (tg λ(j:Nat)=>ts.length-j) 0 (⟨xH _,rfl⟩) (sF O) sr (λj hJ=>?_)
 obtain ⟨hj,he⟩:=hJ
 refine q4 (st' (Ag (c:=(decide (j<ts.length))) O O (DL (a:=j) (b:=ts.length))) O (oNl' (q1 ?_)))
 refine zK O (λhc0=>?_) (λhc0=>?_)
 ·replace hc0:=xR hc0
  refine zI (q1 (zN (q4 (AL O (asg' O (q3 (sL [0,1,7,8,5] O) (AL O (AL O (AL O (st' (v:=(pP (pB x.p) (pO x.p+j*3))) (AU (j:=j) O O x.ok underlying23 sizeOf64 O Z) O (st' (v:=(aG (Bk (ts.getD j jJ)))) (Af (vs:=Bk (ts.getD j jJ)) (i:=1) O O (BI.ne x.ok Z) Wl (BG Gs _ _ _ Z) (Gs _)) O ?_)))))))))))
  refine zc (v:=(qa (!OJ n (ts.getD j jJ)))) (AJ O) (Ik (args:=[(aG (Bk (ts.getD j jJ)))]) (caps:=[(pP bo.b 0)]) (all:=[(aG (Bk (ts.getD j jJ))),(pP bo.b 0)]) O O O call171) (λw hw=>Vq (ts.getD j jJ) n bo w (inS hw 0 O lbo)) O (leB O) (oNl' (zB (sL [0,1,7,8,5,16] O) (zA ?_)))
  refine zK O (λhc1=>?_) (λhc1=>?_)
  ·simp only [jK] at hc1
   have hfin:=he.trans (VL Z (by simpa using hc1))
   exact q4 (AL O (asg' O (oNl' (zB (sL [0,1,7,8,5,4] O) (zA (zF (zT (zH (zy (zT (zH (ret_one O (rd_tmp (v:=(vN j)) O) (λw hw=>⟨by rw [hfin],hw.out⟩)))))))))))))
  ·simp only [jK] at hc1
   exact zI (zM (zA (zL (st' (Ad (c:=((j+1:Nat):Int)) O O (Ab (a:=j) (b:=1) Z)) O (AL O (oNl' (zB (sL [0,1,7,8,5] O) (yC (j+1) (⟨Z,he.trans (S6 Z (by simpa using hc1))⟩) Z (sF O) sr))))))))
 ·replace hc0:=xQ hc0
  have hfin:=he.trans (VK hc0)
  exact zW (zO (zn (zR (q2 (asg' O (oNl' (zA (zF (ret_one O (rd_tmp (v:=(vI (-1:Int))) O) (λw hw=>⟨by rw [hfin],hw.out⟩))))))))))
theorem Xe (n:Nat) (bo:BX [vN n]) (ts:List (Tq3)) (x:RX (rowsL Bk ts) ts.length) (hl:ts.length<4611686018427387904) (w:World) {S:Nat->Prop} (hbo:Ro S w bo) (hx:Ro S w x):Calls prog 170 #[(qz x.p ts.length x.c),(Value.func (.func 171) #[] #[(pP bo.b 0)])] w (AY w (qa (!EG n ts))):=by
 have lbo:=Bs (W:=w) hbo
 have lx:=Bs (W:=w) hx
 refine AX (args:=[(qz x.p ts.length x.c),(Value.func (.func 171) #[] #[(pP bo.b 0)])]) (L:=[AI (some ⟨bo.b,0,none⟩) ([(vN n)]),AI x.p (rowsL Bk ts)]) func170 O O (leB O) (GN hbo (GN hx Al)) (zG (sL [0,1] O) (q4 (asg' O (oNl' (q2 (AL O (AL O (CC call201 (λw hw=>aK n bo ts x hl w (inS hw 0 O lbo) (inS hw 1 O lx)) O (st' (CW (c:=(!EG n ts)) O O (Mq n ts 0)) O (asg' O (oNl' ?_)))))))))))
 exact zB (sL [4] O) (zA (zF (ret_one O (rd_tmp (v:=(qa (!EG n ts))) O) (λw hw=>⟨rfl,hw.out⟩))))
theorem YT (n:Nat) (ts:List (Tq3)) (x:RX (rowsL Bk ts) ts.length) (hl:ts.length<4611686018427387904) (w:World) {S:Nat->Prop} (hx:Ro S w x):Calls prog 117 #[(qz x.p ts.length x.c),(vN n)] w (AY w (qa (EG n ts))):=by
 have lx:=Bs (W:=w) hx
 refine AX (args:=[(qz x.p ts.length x.c),(vN n)]) (L:=[AI x.p (rowsL Bk ts)]) func117 O O (leB O) (GN hx Al) (zG (sL [0,1] O) (q4 (A9 (cs:=[(vN n)]) O λb1=>yg 0 O O λhnb1=>asg' O (q3 (sL [0,3,4] O) (AL O (st' (v:=(Value.func (.func 171) #[] #[(pP b1 0)])) (Er (vs:=[]) (us:=[(pP b1 0)]) O O) O (CC call170 (λw hw=>Xe n ⟨b1⟩ ts x hl w (dp (x:=(⟨b1⟩:BX [vN n])) hw 0 O hnb1) (inS hw 1 O lx)) O (st' (Bh (c:=(!(!EG n ts))) O O) O (asg' O ?_)))))))))
 exact oNl' (zB (sL [4] O) (zA (zF (ret_one O (rd_tmp (v:=(qa (!(!EG n ts)))) O) (λw hw=>⟨by simp,hw.out⟩)))))
theorem Sb {N:Nat} {ts ss:List (Tq3)} (x:RM N ts ss) (hl:ts.length<4611686018427387904) (w:World) {S:Nat->Prop} (hx:Ro S w x):Calls prog 68 #[(aG (cx x))] w (AY w (qa (EG N ts))):=by
 have lx:=Bs (W:=w) hx
 refine AX (args:=[(aG (cx x))]) (L:=[AI x.a.p (x.cs),AI x.b.p (rowsL Bk ts),AI x.c.p (x.ds)]) func68 O O (leB O) (GN hx Al) (zG (sL [0] O) (q4 (A9 (cs:=cx x) O λb1=>asg' O (q3 (sL [1,2] O) (st' (v:=(pP b1 1)) (AA O underlying37 O sizeOf23 O) O (BZ 0 (qz x.b.p ts.length x.b.c) HY O (st' (v:=(pP b1 0)) (AA O underlying37 O sizeOf35 O) O (BZ 0 (qz x.a.p N x.a.c) KA O (st' (v:=(vN N)) (AD O underlying35) O (CC call117 (λw hw=>YT N ts x.b hl w (e8 (inS hw 1 O lx))) O ?_))))))))))
 exact asg' O (oNl' (zB (sL [2] O) (zA (zF (ret_one O (rd_tmp (v:=(qa (EG N ts))) O) (λw hw=>⟨rfl,hw.out⟩))))))
theorem XI {ps:List Pt} {ts ss:List (Tq3)} (x:MX ps ts ss) (hl:ts.length<4611686018427387904) (w:World) {S:Nat->Prop} (hx:Ro S w x):Calls prog 68 #[(aG (DM x))] w (AY w (qa (EG ps.length ts))):=Sb x.rm hl w (ee hx)
theorem Pq {ps:List Pt} {ts ss:List (Tq3)} (x:MX ps ts ss) (t:Nat) (ht:t<ts.length) (hk:OJ ps.length (ts.getD t (0,0,0))=true) (w:World) {S:Nat->Prop} (hx:Ro S w x):Calls prog 69 #[(aG (DM x)),(vN t)] w (AY w (Value.tuple #[(aG (Ae (BJ ps (ts.getD t (0,0,0)).1))),(aG (Ae (BJ ps (ts.getD t (0,0,0)).2.1))),(aG (Ae (BJ ps (ts.getD t (0,0,0)).2.2)))])):=by
 obtain ⟨k1,k2,k3⟩:=LK hk
 have lx:=Bs (W:=w) hx
 refine AX (args:=[(aG (DM x)),(vN t)]) (L:=[AI x.a.p (rowsL Ae ps),AI x.b.p (rowsL Bk ts),AI x.c.p (rowsL Bk ss)]) func69 O O (leB O) (GN hx Al) (zG (sL [0,1] O) (q4 (A9 (cs:=DM x) O λb1=>al E6 O λb2=>al E6 O λb3=>al E6 O λb4=>q6 (sL [1,2,4,5,6] O) (q4 (AL O (st' (Ag (c:=false) O O jX) O (AL O ?_)))))))
 refine FV O (BN (v:=(pP b1 1)) O (AA O underlying37 O sizeOf23 O) (BN (v:=(qz x.b.p ts.length x.b.c)) O (AP (i:=3) (v:=(qz x.b.p ts.length x.b.c)) O O HY.a O) (BN (v:=(vN ts.length)) O (AD O underlying23) (BN (v:=(qa false)) O (CW (c:=false) O O (by simp;omega)) (st' (v:=(qa false)) (AN O O) O (oNl' (zB (sL [1,2,4,5,6,17] O) (zA (zU O (zI (q1 ?_)))))))))))
 refine B8 (Ed 8++[(8,false),(9,false),(10,true)]) sr (Ao (v:=(pP b1 1)) O (AA O underlying37 O sizeOf23 O) (Cm 3 (qz x.b.p ts.length x.b.c) HY O (Bq O (Ao (v:=(pP (pB x.b.p) (pO x.b.p+t*3))) O (AU (j:=t) O O x.b.ok underlying23 sizeOf64 O Z) (Ao (v:=(aG (Bk (ts.getD t jJ)))) O (Af (vs:=Bk (ts.getD t jJ)) (i:=5) O O (BI.ne x.b.ok Z) Wl (BG Gs _ _ _ Z) (Gs _)) (Ao (v:=(pP b1 0)) O (AA O underlying37 O sizeOf35 O) (Cm 3 (qz x.a.p ps.length x.a.c) KA O (Ao (v:=(vN ps.length)) O (AD O underlying35) (zD O (al bD O λb5=>zC (sl sr) ?_))))))))))
 refine zD O (Am O sizeOf64 O (zC (sl sr) (pS' O (zP (zB (sL [1,2,4,5,6,7,8] O) (q1 (q4 (st' (v:=(pP b5 0)) (AC (j:=0) O O underlying64 sizeOf3 O jY O) O (BZ 0 (vN ((ts.getD t jJ).1)) Dr O (AL O (CC (args:=[(vN ((ts.getD t jJ).1)),(vN ps.length)]) (v:=(qa true)) call118 (λw hw=>(by have h9:=ET ((ts.getD t jJ).1) ps.length w;rw [xE Z] at h9;exact h9)) O ?_)))))))))))
 refine st' (Bh (c:=false) O O) O (AL O (BN (v:=(pP b5 1)) O (AC (j:=1) O O underlying64 sizeOf3 O jY O) (BN (v:=(vN ((ts.getD t jJ).2.1))) O (AP (i:=0) (v:=(vN ((ts.getD t jJ).2.1))) O O Dr.a O) (FV O (zc (v:=(qa true)) (AE O) (Ac (args:=[(vN ((ts.getD t jJ).2.1)),(vN ps.length)]) O O call118) (λw hw=>(by have h9:=ET ((ts.getD t jJ).2.1) ps.length w;rw [xE Z] at h9;exact h9)) O (leB O) (BN (v:=(qa false)) O (Bh (c:=false) O O) (st' (v:=(qa false)) (AN O O) O (AL O (BN (v:=(pP b5 2)) O (AC (j:=2) O O underlying64 sizeOf3 O jY O) (BN (v:=(vN ((ts.getD t jJ).2.2))) O (AP (i:=0) (v:=(vN ((ts.getD t jJ).2.2))) O O Dr.a O) (FV O ?_)))))))))))
 refine zc (v:=(qa true)) (AE O) (Ac (args:=[(vN ((ts.getD t jJ).2.2)),(vN ps.length)]) O O call118) (λw hw=>(by have h9:=ET ((ts.getD t jJ).2.2) ps.length w;rw [xE Z] at h9;exact h9)) O (leB O) (BN (v:=(qa false)) O (Bh (c:=false) O O) (st' (v:=(qa false)) (AN O O) O (oNl' (zB (sL [1,2,4,5,6,7,47] O) (zA (zU O (zI (q1 (B8 (Ed 18++[(18,false),(19,false),(20,false)]) (sk (sl (sl (sl sr)))) (Ao (v:=(pP b1 0)) O (AA O underlying37 O sizeOf35 O) (Cm 1 (qz x.a.p ps.length x.a.c) KA O ?_)))))))))))
 refine Ao (v:=(pP b5 0)) O (AC (j:=0) O O underlying64 sizeOf3 O jY O) (Cm 0 (vN ((ts.getD t jJ).1)) Dr O (Ao (v:=(pP (pB x.a.p) (pO x.a.p+((ts.getD t jJ).1)*10))) O (AU (j:=(ts.getD t jJ).1) O O x.a.ok underlying35 sizeOf62 O Z) (Ao (v:=(aG (Ae (ps.getD ((ts.getD t jJ).1) (⟨0,0⟩:Pt))))) O (Af (vs:=Ae (ps.getD ((ts.getD t jJ).1) (⟨0,0⟩:Pt))) (i:=2) O O (BI.ne x.a.ok Z) A_ (BG C6 _ _ _ Z) (C6 _)) (Ao (v:=(pP b1 0)) O (AA O underlying37 O sizeOf35 O) (Cm 1 (qz x.a.p ps.length x.a.c) KA O (Ao (v:=(pP b5 1)) O (AC (j:=1) O O underlying64 sizeOf3 O jY O) (Cm 0 (vN ((ts.getD t jJ).2.1)) Dr O (Ao (v:=(pP (pB x.a.p) (pO x.a.p+((ts.getD t jJ).2.1)*10))) O (AU (j:=(ts.getD t jJ).2.1) O O x.a.ok underlying35 sizeOf62 O Z) (Ao (v:=(aG (Ae (ps.getD ((ts.getD t jJ).2.1) (⟨0,0⟩:Pt))))) O (Af (vs:=Ae (ps.getD ((ts.getD t jJ).2.1) (⟨0,0⟩:Pt))) (i:=2) O O (BI.ne x.a.ok Z) A_ (BG C6 _ _ _ Z) (C6 _)) (Ao (v:=(pP b1 0)) O (AA O underlying37 O sizeOf35 O) (Cm 1 (qz x.a.p ps.length x.a.c) KA O ?_)))))))))))
 refine Ao (v:=(pP b5 2)) O (AC (j:=2) O O underlying64 sizeOf3 O jY O) (Cm 0 (vN ((ts.getD t jJ).2.2)) Dr O (Ao (v:=(pP (pB x.a.p) (pO x.a.p+((ts.getD t jJ).2.2)*10))) O (AU (j:=(ts.getD t jJ).2.2) O O x.a.ok underlying35 sizeOf62 O Z) (Ao (v:=(aG (Ae (ps.getD ((ts.getD t jJ).2.2) (⟨0,0⟩:Pt))))) O (Af (vs:=Ae (ps.getD ((ts.getD t jJ).2.2) (⟨0,0⟩:Pt))) (i:=2) O O (BI.ne x.a.ok Z) A_ (BG C6 _ _ _ Z) (C6 _)) (zD O (Fd O sizeOf62 O (zC (sk (sl (sl (sl sr)))) (zD O (Ee O sizeOf62 O (zC (sk (sl (sl (sl sr)))) (zD O (DG O sizeOf62 O ?_)))))))))))
 exact zC (sk (sl (sl (sl sr)))) (zP (zB (sL [1,2,4,5,6,7] O) (zA (zF (DD O (Aa (i:=3) (cs:=Ae (ps.getD ((ts.getD t jJ).1) (⟨0,0⟩:Pt))) O O isAgg62 sizeOf62 O) (Aa (i:=2) (cs:=Ae (ps.getD ((ts.getD t jJ).2.1) (⟨0,0⟩:Pt))) O O isAgg62 sizeOf62 O) (Aa (i:=1) (cs:=Ae (ps.getD ((ts.getD t jJ).2.2) (⟨0,0⟩:Pt))) O O isAgg62 sizeOf62 O) (λw hw=>⟨rfl,hw.out⟩))))))
end
end Go.Proofs.YtcpkbjjmcleplaaGreatDoor
