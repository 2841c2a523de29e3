import Derived.Test.YtbfdamnfcmefmaaGreatDoorPart24
namespace Go.Proofs.YtbfdamnfcmefmaaGreatDoor
open Go Go.RowKit Go.Proofs.Tryz
open Go.Value renaming slice→qz,bool→qa
set_option linter.unusedVariables false
set_option linter.unusedSimpArgs false
section
set_option maxRecDepth 100000
theorem cR:ElemT prog 51 54 4 32:=⟨underlying51,FC jV⟩
theorem HS:Px prog 177 J4 YX where
 law:=.of_law (deep_law_laid ZJ (m:=2) jY (by decide +kernel) jV jV)
 key:=λa h=>NB underlying177 ⟨rfl,rfl⟩ ⟨rfl,rfl⟩ (by decide +kernel) underlying3 jV jV jV (by decide +kernel) (OY h.1) (OY h.2)
 inj:=λa b h=>PS h
theorem UZ (p:Option Addr) (n cp:Nat) (h:n<=cp) (w:World)  :Calls prog 108 #[(qz p n cp)] w (Ag w (qz p n n)):=by
 refine AW (args:=[(qz p n cp)]) func108 O O (BE O) (zM (sL [0] O) (q4 (asg' O (oNl' (q2 (AM O (AM O (AC (v:=(vN n)) (AE O underlying51) O (AM O (AC (v:=(vN n)) (AE O underlying51) O (AC (v:=(qz p n n)) (EW (m:=n) O O O underlying51 sizeOf54 Z) O ?_)))))))))))
 exact asg' O (oNl' (zB (sL [2] O) (zA (zH (ret_one O (rd_tmp (v:=(qz p n n)) O) (λw hw=>⟨rfl,hw.out⟩))))))
theorem L5 (x0:E4):Instr.fill (λi=>some (i*4,4)) ((Array.range (1*4)).map ((Value.agg (Bd jA).toArray).cells[·%(Value.agg (Bd jA).toArray).cells.size]!)) [(0,.agg (Bd x0).toArray)]=some (Bd x0).toArray:=by kernel_rfl
set_option maxHeartbeats 4000000 in
theorem Mw (ts:List (Tq3)) (x:RX (rowsL Ad ts) ts.length) (N:Nat) (hn:BV N ts=true) (hN:N<=4611686018427387904) (hl:ts.length<=1000000000) (w:World) {S:Nat->Prop} (hx:Ro S w x):Calls prog 47 #[(qz x.p ts.length x.c)] w (BS (CX (rowsL Bd (BJ ts)) (BJ ts).length) S w):=by
 have lx:=Db (W:=w) hx
 refine Ak (args:=[(qz x.p ts.length x.c)]) (L:=[AP x.p (rowsL Ad ts)]) func47 O O (BE O) (De hx A_) (zM (sL [0] O) (q4 (asg' O (oNl' (q2 (yo J4 OW (AK O) O λb1=>asg' O (q6 (sL [0,2,3] O) (q4 (AM O (AC (v:=(vN ts.length)) (AE O underlying28) O ?_))))))))))
 refine AM O (oNl' (zB (sL [2,3,16,17,18] O) (zA (zI ?_))))
 refine zw (tg λ(t:Nat)=>t<=ts.length) (tg λ(t:Nat)=>[(2,jj),(3,(Value.map (some b1))),(16,(qz x.p ts.length x.c)),(17,(vN ts.length)),(18,(vN t))]) (tg λ(t:Nat)=>[Dp b1 J4 OW (Cl ts (3*t+0)),AP x.p (rowsL Ad ts)]) (tg λ(t:Nat)=>ts.length-t) 0 (xK _) (sF O) sr (λt hJ=>?_)
 have ht:=hJ
 refine q4 (AC (Aa (c:=(decide (t<ts.length))) O O (DF (a:=t) (b:=ts.length))) O (oNl' (q1 ?_)))
 refine zL O (λhc0=>?_) (λhc0=>?_)
 ·replace hc0:=xU hc0
  obtain ⟨T,hT⟩:∃q,q=ts.getD t (0,0,0):=⟨_,rfl⟩
  obtain ⟨g1,g2,g3⟩:=DP (CQ hn hc0)
  rw [<-hT] at g1 g2 g3
  refine zC (q1 (zI (q4 (AM O (AC (v:=(pP (pB x.p) (pO x.p+t*3))) (AO (j:=t) O O x.ok underlying28 sizeOf71 O Z) O (AC (v:=(aG (Ad (ts.getD t jJ)))) (AI (vs:=Ad (ts.getD t jJ)) (i:=1) O O (Aw.ne x.ok Z) Bm (Ae An _ _ _ Z) (An _)) O (zK (k:=22) (u:=(aG (Ad T))) O (by rw [hT]) (al Hk O λb2=>asg' O (Ah O sizeOf71 O (q3 (sL [2,3,16,17,18,5,4] O) ?_))))))))))
  refine AM O (oNl' (zA (zI (yC 4 (zZ (q4 (AC (Aa (c:=true) O O jY) O (oNl' (q1 (zV O (zC ?_)))))))))))
  refine q1 (zI (q4 (AM O (asg' O (q6 (sL [2,3,16,17,18,5,4,23,6] O) (C_ (Ek 10) sr (Bx O (Aj (v:=(pP b2 0)) O (AB (j:=0) O O underlying71 sizeOf3 O jY O) (BK 0 (vN T.1) BP O (Bx O (Aj O (AR (c:=(1:Int)) O O jY) ?_)))))))))))
  refine Aj O (B7 (c:=(1:Int)) O O jY jY) (Aj (v:=(pP b2 1)) O (AB (j:=1) O O underlying71 sizeOf3 O jY O) (BK 0 (vN T.2.1) BP O (pS' O (pS' O (zQ (zB (sL [2,3,16,17,18,5,4,23,7,8] O) (q2 (AM O (AM O (AC (Gt (c:=((min T.1 T.2.1:Nat):Int)) O O (by split<;>omega)) O (AM O ?_)))))))))))
  refine AM O (AC (GL (c:=((max T.1 T.2.1:Nat):Int)) O O (by split<;>omega)) O (AC (v:=(aG ([(vN (min T.1 T.2.1)),(vN (max T.1 T.2.1))]))) (AT (zs:=Ay ((0,0):P2)) (vs:=[(vN (min T.1 T.2.1)),(vN (max T.1 T.2.1))]) (pv:=[(0,(vN (min T.1 T.2.1))),(1,(vN (max T.1 T.2.1)))]) (places:=[(0,1),(1,1)]) zeroValue177 underlying177 (λw=>by simp [sizeOf3]) O O) O (al Wm O λb3=>Ah O sizeOf177 O (q3 (sL [2,3,16,17,18,5,4,23,7,8,9] O) (AM O (Ai 0 NL O (AC (v:=(Value.tuple #[(aG (Bd ((BU (Cl ts (3*t+0)) ((min T.1 T.2.1,max T.1 T.2.1):P2)).getD jA))),(qa ((BU (Cl ts (3*t+0)) ((min T.1 T.2.1,max T.1 T.2.1):P2)).isSome))])) (HP HS 2 (eV:=OW) (kvs:=Cl ts (3*t+0)) (x:=((min T.1 T.2.1,max T.1 T.2.1):P2)) (z0:=jA) (co:=true) O O underlying175 zeroValue54 O (Fh hn hN _ Z) (D9 Z Z)) O (AM O (AC (AJ (v:=(aG (Bd ((BU (Cl ts (3*t+0)) ((min T.1 T.2.1,max T.1 T.2.1):P2)).getD jA)))) O O) O (AC (AJ (v:=(qa ((BU (Cl ts (3*t+0)) ((min T.1 T.2.1,max T.1 T.2.1):P2)).isSome))) O O) O ?_))))))))))
  refine al II O λb4=>Ah O sizeOf54 O (asg' O (q6 (sL [2,3,16,17,18,5,4,23,7,8,9,10,11] O) (q4 (AM O (AC (BG (c:=(!((BU (Cl ts (3*t+0)) ((min T.1 T.2.1,max T.1 T.2.1):P2)).isSome))) O O) O (oNl' (zB (sL [2,3,16,17,18,5,4,23,7,8,9,10,48] O) (zA ?_))))))))
  refine yF (tg λ(e00:E4)=>e00=(BU (Cl ts (3*t+0)) (min T.1 T.2.1,max T.1 T.2.1)).getD (JI (min T.1 T.2.1,max T.1 T.2.1))) (tg λ(e00:E4)=>[(2,jj),(3,(Value.map (some b1))),(16,(qz x.p ts.length x.c)),(17,(vN ts.length)),(18,(vN t)),(5,(pP b2 0)),(4,(vN t)),(23,(vI 0)),(7,(vN T.1)),(8,(vN T.2.1)),(9,(pP b3 0)),(10,(pP b4 0))]) (tg λ(e00:E4)=>[AX b4 54 (Bd e00),AX b3 177 ([(vN (min T.1 T.2.1)),(vN (max T.1 T.2.1))]),AX b2 71 (Ad T),Dp b1 J4 OW (Cl ts (3*t+0)),AP x.p (rowsL Ad ts)]) ?_ ?_
  ·refine zL O (λhc2=>?_) (λhc2=>?_)
   ·simp only [jK] at hc2
    exact zD (AC (v:=(pP b3 0)) (AA O underlying177 O sizeOf3 O) O (BA 1 (vN (min T.1 T.2.1)) BP O (AC (v:=(pP b3 1)) (AA O underlying177 O sizeOf3 O) O (BA 1 (vN (max T.1 T.2.1)) BP O (AC (v:=(aG ([(vN (min T.1 T.2.1)),(vN (max T.1 T.2.1)),(vI (-1:Int)),(vI (-1:Int))]))) (AT (zs:=Bd jA) (vs:=[(vN (min T.1 T.2.1)),(vN (max T.1 T.2.1)),(vI (-1:Int)),(vI (-1:Int))]) (pv:=[(0,(vN (min T.1 T.2.1))),(1,(vN (max T.1 T.2.1))),(2,(vI (-1:Int))),(3,(vI (-1:Int)))]) (places:=[(0,1),(1,1),(2,1),(3,1)]) zeroValue54 underlying54 (λw=>by simp [sizeOf3]) O O) O (Ah O sizeOf54 O (oNl' (zB (sL [2,3,16,17,18,5,4,23,7,8,9,10] O) (zj (⟨min T.1 T.2.1,max T.1 T.2.1,-1,-1⟩:E4) ((LJ (k:=(min T.1 T.2.1,max T.1 T.2.1)) (by simpa using hc2))) (sF O) sr)))))))))
   ·simp only [jK] at hc2
    exact zC (zj ((BU (Cl ts (3*t+0)) ((min T.1 T.2.1,max T.1 T.2.1):P2)).getD jA) ((LK (by simpa using hc2))) (sF O) sr)
  ·intro e00 hJ
   have he0:=hJ
   refine q1 ?_
   refine yF (tg λ(e20:E4)=>e20=Fo e00 t T.1 T.2.1) (tg λ(e20:E4)=>[(2,jj),(3,(Value.map (some b1))),(16,(qz x.p ts.length x.c)),(17,(vN ts.length)),(18,(vN t)),(5,(pP b2 0)),(4,(vN t)),(23,(vI 0)),(9,(pP b3 0)),(10,(pP b4 0))]) (tg λ(e20:E4)=>[AX b4 54 (Bd e20),AX b3 177 ([(vN (min T.1 T.2.1)),(vN (max T.1 T.2.1))]),AX b2 71 (Ad T),Dp b1 J4 OW (Cl ts (3*t+0)),AP x.p (rowsL Ad ts)]) ?_ ?_
   ·refine zI (q4 (AM O (AM O (AC (Aa (c:=(decide (T.1<T.2.1))) O O (DF (a:=T.1) (b:=T.2.1))) O (AM O ?_)))))
    refine zi (FM:=[(2,jj),(3,(Value.map (some b1))),(16,(qz x.p ts.length x.c)),(17,(vN ts.length)),(18,(vN t)),(5,(pP b2 0)),(4,(vN t)),(23,(vI 0)),(7,(vN T.1)),(8,(vN T.2.1)),(9,(pP b3 0)),(10,(pP b4 0)),(55,(vN T.1)),(56,(vN T.2.1)),(57,(qa (decide (T.1<T.2.1)))),(58,(qa (decide (T.1<T.2.1)))),(62,(qa ((decide (T.1<T.2.1))&&(decide (e00.l=(-1:Int))))))]) (LM:=[AX b4 54 (Bd e00),AX b3 177 ([(vN (min T.1 T.2.1)),(vN (max T.1 T.2.1))]),AX b2 71 (Ad T),Dp b1 J4 OW (Cl ts (3*t+0)),AP x.p (rowsL Ad ts)]) 4 ?_ ?_
    ·rcases xR (decide (T.1<T.2.1)) with hg1|hg1
     ·refine zK (k:=58) (u:=qa true) O (by rw [hg1]) ?_
      have hg1':=xU hg1
      exact Av (v:=(pP b4 2)) O (AA O underlying54 O sizeOf3 O) (Av (v:=(vI e00.l)) O (AD (i:=0) (v:=(vI e00.l)) O O BP.a O) (Av (v:=(qa (decide (e00.l=(-1:Int))))) O (BM (c:=(decide (e00.l=(-1:Int)))) O O O) (AC (v:=(qa (decide (e00.l=(-1:Int))))) (AQ O O) O (oNl' (zT Cc (xS _))))))
     ·refine zK (k:=58) (u:=qa false) O (by rw [hg1]) ?_
      have hg1':=xT hg1
      exact BD O (BD O (BD O (AC (v:=(qa false)) (AL O O) O (oNl' (zT Cc (xS _))))))
    refine asg' O (oNl' (zB (sL [2,3,16,17,18,5,4,23,7,8,9,10,54] O) (zA ?_)))
    refine zL O (λhc3=>?_) (λhc3=>?_)
    ·simp only [jK] at hc3
     exact zD (AM O (AC (v:=(pP b4 2)) (AA O underlying54 O sizeOf3 O) O (Fm 0 (off:=2) (vs:=[(vN t)]) (cs':=[(vN e00.a),(vN e00.b),(vN t),(vI e00.r)]) (AK O) O sizeOf3 O (oNl' (zB (sL [2,3,16,17,18,5,4,23,7,8,9,10] O) (zF (zj (⟨e00.a,e00.b,((t:Nat):Int),e00.r⟩:E4) ((by unfold Fo;rw [if_pos Z])) (sF O) sr)))))))
    ·simp only [jK] at hc3
     refine q4 (AM O (AM O (AC (D6 (c:=(decide (T.2.1<T.1))) O O (DF (a:=T.2.1) (b:=T.1))) O (AM O ?_))))
     refine zi (FM:=[(2,jj),(3,(Value.map (some b1))),(16,(qz x.p ts.length x.c)),(17,(vN ts.length)),(18,(vN t)),(5,(pP b2 0)),(4,(vN t)),(23,(vI 0)),(7,(vN T.1)),(8,(vN T.2.1)),(9,(pP b3 0)),(10,(pP b4 0)),(66,(vN T.1)),(67,(vN T.2.1)),(68,(qa (decide (T.2.1<T.1)))),(69,(qa (decide (T.2.1<T.1)))),(73,(qa ((decide (T.2.1<T.1))&&(decide (e00.r=(-1:Int))))))]) (LM:=[AX b4 54 (Bd e00),AX b3 177 ([(vN (min T.1 T.2.1)),(vN (max T.1 T.2.1))]),AX b2 71 (Ad T),Dp b1 J4 OW (Cl ts (3*t+0)),AP x.p (rowsL Ad ts)]) 4 ?_ ?_
     ·rcases xR (decide (T.2.1<T.1)) with hg2|hg2
      ·refine zK (k:=69) (u:=qa true) O (by rw [hg2]) ?_
       have hg2':=xU hg2
       exact Av (v:=(pP b4 3)) O (AA O underlying54 O sizeOf3 O) (Av (v:=(vI e00.r)) O (AD (i:=0) (v:=(vI e00.r)) O O BP.a O) (Av (v:=(qa (decide (e00.r=(-1:Int))))) O (BM (c:=(decide (e00.r=(-1:Int)))) O O O) (AC (v:=(qa (decide (e00.r=(-1:Int))))) (AQ O O) O (oNl' (zT Hl (xS _))))))
      ·refine zK (k:=69) (u:=qa false) O (by rw [hg2]) ?_
       have hg2':=xT hg2
       exact BD O (BD O (BD O (AC (v:=(qa false)) (AL O O) O (oNl' (zT Hl (xS _))))))
     refine asg' O (oNl' (zB (sL [2,3,16,17,18,5,4,23,7,8,9,10,65] O) (zA ?_)))
     refine zL O (λhc4=>?_) (λhc4=>?_)
     ·simp only [jK] at hc4
      exact zD (AM O (AC (v:=(pP b4 3)) (AA O underlying54 O sizeOf3 O) O (Fm 0 (off:=3) (vs:=[(vN t)]) (cs':=[(vN e00.a),(vN e00.b),(vI e00.l),(vN t)]) (AK O) O sizeOf3 O (oNl' (zB (sL [2,3,16,17,18,5,4,23,7,8,9,10] O) (zF (zj (⟨e00.a,e00.b,e00.l,((t:Nat):Int)⟩:E4) ((by unfold Fo;rw [if_neg Z,if_pos Z])) (sF O) sr)))))))
     ·simp only [jK] at hc4
      exact zC (zF (zj e00 ((by unfold Fo;rw [if_neg Z,if_neg Z])) (sF O) sr))
   ·intro e20 hJ
    have hu0:=hJ
    refine zA (zD (AM O (Ai 1 NL O (Ai 0 G8 O (yX HS 3 (kvs:=Cl ts (3*t+0)) (x:=((min T.1 T.2.1,max T.1 T.2.1):P2)) (y:=e20) (AK O) O O O underlying175 O (Fh hn hN _ Z) (D9 Z Z) ?_)))))
    rw [show Bl (Cl ts (3*t+0)) ((min T.1 T.2.1,max T.1 T.2.1):P2) e20=Cl ts (3*t+1) from by rw [hu0,he0,hT];exact (K2 (ts:=ts) (t:=t) (i:=0) Z).symm]
    refine oNl' (zB (sL [2,3,16,17,18,5,4,23,9,10] O) (zF (zA (zD (AC (AR (c:=(1:Int)) O O jY) O (AM O (oNl' (zB (sL [2,3,16,17,18,5,4,23,9,10] O) (zl (zZ (q4 ?_)))))))))))
    refine AC (Aa (c:=true) O O jY) O (oNl' (q1 (zV O (zC (q1 (zI (q4 (AM O (asg' O (q6 (sL [2,3,16,17,18,5,4,23,9,10,6] O) (C_ (Ek 10) sr ?_)))))))))))
    refine Bx O (Aj (v:=(pP b2 1)) O (AB (j:=1) O O underlying71 sizeOf3 O jY O) (BK 2 (vN T.2.1) BP O (Bx O (Aj O (AR (c:=(2:Int)) O O jY) (Aj O (B7 (c:=(2:Int)) O O jY jY) (Aj (v:=(pP b2 2)) O (AB (j:=2) O O underlying71 sizeOf3 O jY O) (BK 2 (vN T.2.2) BP O (pS' O (pS' O (zQ (zB (sL [2,3,16,17,18,5,4,23,9,10,7,8] O) ?_)))))))))))
    refine q2 (AM O (AM O (AC (Gt (c:=((min T.2.1 T.2.2:Nat):Int)) O O (by split<;>omega)) O (AM O (AM O (AC (GL (c:=((max T.2.1 T.2.2:Nat):Int)) O O (by split<;>omega)) O (AC (v:=(aG ([(vN (min T.2.1 T.2.2)),(vN (max T.2.1 T.2.2))]))) (AT (zs:=Ay ((0,0):P2)) (vs:=[(vN (min T.2.1 T.2.2)),(vN (max T.2.1 T.2.2))]) (pv:=[(0,(vN (min T.2.1 T.2.2))),(1,(vN (max T.2.1 T.2.2)))]) (places:=[(0,1),(1,1)]) zeroValue177 underlying177 (λw=>by simp [sizeOf3]) O O) O (al Wm O λb5=>Ah O sizeOf177 O (q3 (sL [2,3,16,17,18,5,4,23,9,10,7,8] O) (AM O ?_))))))))))
    refine Ai 0 NL O (AC (v:=(Value.tuple #[(aG (Bd ((BU (Cl ts (3*t+1)) ((min T.2.1 T.2.2,max T.2.1 T.2.2):P2)).getD jA))),(qa ((BU (Cl ts (3*t+1)) ((min T.2.1 T.2.2,max T.2.1 T.2.2):P2)).isSome))])) (HP HS 4 (eV:=OW) (kvs:=Cl ts (3*t+1)) (x:=((min T.2.1 T.2.2,max T.2.1 T.2.2):P2)) (z0:=jA) (co:=true) O O underlying175 zeroValue54 O (Fh hn hN _ Z) (D9 Z Z)) O (AM O (AC (AJ (v:=(aG (Bd ((BU (Cl ts (3*t+1)) ((min T.2.1 T.2.2,max T.2.1 T.2.2):P2)).getD jA)))) O O) O (AC (AJ (v:=(qa ((BU (Cl ts (3*t+1)) ((min T.2.1 T.2.2,max T.2.1 T.2.2):P2)).isSome))) O O) O (al II O λb6=>Ah O sizeOf54 O (asg' O (q6 (sL [2,3,16,17,18,5,4,23,9,10,7,8,11] O) (q4 (AM O (AC (BG (c:=(!((BU (Cl ts (3*t+1)) ((min T.2.1 T.2.2,max T.2.1 T.2.2):P2)).isSome))) O O) O ?_))))))))))
    refine oNl' (zB (sL [2,3,16,17,18,5,4,23,9,10,7,8,48] O) (zA ?_))
    refine yF (tg λ(e01:E4)=>e01=(BU (Cl ts (3*t+1)) (min T.2.1 T.2.2,max T.2.1 T.2.2)).getD (JI (min T.2.1 T.2.2,max T.2.1 T.2.2))) (tg λ(e01:E4)=>[(2,jj),(3,(Value.map (some b1))),(16,(qz x.p ts.length x.c)),(17,(vN ts.length)),(18,(vN t)),(5,(pP b2 0)),(4,(vN t)),(23,(vI 1)),(9,(pP b5 0)),(10,(pP b6 0)),(7,(vN T.2.1)),(8,(vN T.2.2))]) (tg λ(e01:E4)=>[AX b6 54 (Bd e01),AX b5 177 ([(vN (min T.2.1 T.2.2)),(vN (max T.2.1 T.2.2))]),AX b4 54 (Bd e20),AX b3 177 ([(vN (min T.1 T.2.1)),(vN (max T.1 T.2.1))]),AX b2 71 (Ad T),Dp b1 J4 OW (Cl ts (3*t+1)),AP x.p (rowsL Ad ts)]) ?_ ?_
    ·refine zL O (λhc2=>?_) (λhc2=>?_)
     ·simp only [jK] at hc2
      exact zD (AC (v:=(pP b5 0)) (AA O underlying177 O sizeOf3 O) O (BA 1 (vN (min T.2.1 T.2.2)) BP O (AC (v:=(pP b5 1)) (AA O underlying177 O sizeOf3 O) O (BA 1 (vN (max T.2.1 T.2.2)) BP O (AC (v:=(aG ([(vN (min T.2.1 T.2.2)),(vN (max T.2.1 T.2.2)),(vI (-1:Int)),(vI (-1:Int))]))) (AT (zs:=Bd jA) (vs:=[(vN (min T.2.1 T.2.2)),(vN (max T.2.1 T.2.2)),(vI (-1:Int)),(vI (-1:Int))]) (pv:=[(0,(vN (min T.2.1 T.2.2))),(1,(vN (max T.2.1 T.2.2))),(2,(vI (-1:Int))),(3,(vI (-1:Int)))]) (places:=[(0,1),(1,1),(2,1),(3,1)]) zeroValue54 underlying54 (λw=>by simp [sizeOf3]) O O) O (Ah O sizeOf54 O (oNl' (zB (sL [2,3,16,17,18,5,4,23,9,10,7,8] O) (zj (⟨min T.2.1 T.2.2,max T.2.1 T.2.2,-1,-1⟩:E4) ((LJ (k:=(min T.2.1 T.2.2,max T.2.1 T.2.2)) (by simpa using hc2))) (sF O) sr)))))))))
     ·simp only [jK] at hc2
      exact zC (zj ((BU (Cl ts (3*t+1)) ((min T.2.1 T.2.2,max T.2.1 T.2.2):P2)).getD jA) ((LK (by simpa using hc2))) (sF O) sr)
    ·intro e01 hJ
     have he1:=hJ
     refine q1 ?_
     refine yF (tg λ(e21:E4)=>e21=Fo e01 t T.2.1 T.2.2) (tg λ(e21:E4)=>[(2,jj),(3,(Value.map (some b1))),(16,(qz x.p ts.length x.c)),(17,(vN ts.length)),(18,(vN t)),(5,(pP b2 0)),(4,(vN t)),(23,(vI 1)),(9,(pP b5 0)),(10,(pP b6 0))]) (tg λ(e21:E4)=>[AX b6 54 (Bd e21),AX b5 177 ([(vN (min T.2.1 T.2.2)),(vN (max T.2.1 T.2.2))]),AX b4 54 (Bd e20),AX b3 177 ([(vN (min T.1 T.2.1)),(vN (max T.1 T.2.1))]),AX b2 71 (Ad T),Dp b1 J4 OW (Cl ts (3*t+1)),AP x.p (rowsL Ad ts)]) ?_ ?_
     ·refine zI (q4 (AM O (AM O (AC (Aa (c:=(decide (T.2.1<T.2.2))) O O (DF (a:=T.2.1) (b:=T.2.2))) O (AM O ?_)))))
      refine zi (FM:=[(2,jj),(3,(Value.map (some b1))),(16,(qz x.p ts.length x.c)),(17,(vN ts.length)),(18,(vN t)),(5,(pP b2 0)),(4,(vN t)),(23,(vI 1)),(9,(pP b5 0)),(10,(pP b6 0)),(7,(vN T.2.1)),(8,(vN T.2.2)),(55,(vN T.2.1)),(56,(vN T.2.2)),(57,(qa (decide (T.2.1<T.2.2)))),(58,(qa (decide (T.2.1<T.2.2)))),(62,(qa ((decide (T.2.1<T.2.2))&&(decide (e01.l=(-1:Int))))))]) (LM:=[AX b6 54 (Bd e01),AX b5 177 ([(vN (min T.2.1 T.2.2)),(vN (max T.2.1 T.2.2))]),AX b4 54 (Bd e20),AX b3 177 ([(vN (min T.1 T.2.1)),(vN (max T.1 T.2.1))]),AX b2 71 (Ad T),Dp b1 J4 OW (Cl ts (3*t+1)),AP x.p (rowsL Ad ts)]) 4 ?_ ?_
      ·rcases xR (decide (T.2.1<T.2.2)) with hg3|hg3
       ·refine zK (k:=58) (u:=qa true) O (by rw [hg3]) ?_
        have hg3':=xU hg3
        exact Av (v:=(pP b6 2)) O (AA O underlying54 O sizeOf3 O) (Av (v:=(vI e01.l)) O (AD (i:=0) (v:=(vI e01.l)) O O BP.a O) (Av (v:=(qa (decide (e01.l=(-1:Int))))) O (BM (c:=(decide (e01.l=(-1:Int)))) O O O) (AC (v:=(qa (decide (e01.l=(-1:Int))))) (AQ O O) O (oNl' (zT Pn (xS _))))))
       ·refine zK (k:=58) (u:=qa false) O (by rw [hg3]) ?_
        have hg3':=xT hg3
        exact BD O (BD O (BD O (AC (v:=(qa false)) (AL O O) O (oNl' (zT Pn (xS _))))))
      refine asg' O (oNl' (zB (sL [2,3,16,17,18,5,4,23,9,10,7,8,54] O) (zA ?_)))
      refine zL O (λhc3=>?_) (λhc3=>?_)
      ·simp only [jK] at hc3
       exact zD (AM O (AC (v:=(pP b6 2)) (AA O underlying54 O sizeOf3 O) O (Fm 0 (off:=2) (vs:=[(vN t)]) (cs':=[(vN e01.a),(vN e01.b),(vN t),(vI e01.r)]) (AK O) O sizeOf3 O (oNl' (zB (sL [2,3,16,17,18,5,4,23,9,10,7,8] O) (zF (zj (⟨e01.a,e01.b,((t:Nat):Int),e01.r⟩:E4) ((by unfold Fo;rw [if_pos Z])) (sF O) sr)))))))
      ·simp only [jK] at hc3
       refine q4 (AM O (AM O (AC (D6 (c:=(decide (T.2.2<T.2.1))) O O (DF (a:=T.2.2) (b:=T.2.1))) O (AM O ?_))))
       refine zi (FM:=[(2,jj),(3,(Value.map (some b1))),(16,(qz x.p ts.length x.c)),(17,(vN ts.length)),(18,(vN t)),(5,(pP b2 0)),(4,(vN t)),(23,(vI 1)),(9,(pP b5 0)),(10,(pP b6 0)),(7,(vN T.2.1)),(8,(vN T.2.2)),(66,(vN T.2.1)),(67,(vN T.2.2)),(68,(qa (decide (T.2.2<T.2.1)))),(69,(qa (decide (T.2.2<T.2.1)))),(73,(qa ((decide (T.2.2<T.2.1))&&(decide (e01.r=(-1:Int))))))]) (LM:=[AX b6 54 (Bd e01),AX b5 177 ([(vN (min T.2.1 T.2.2)),(vN (max T.2.1 T.2.2))]),AX b4 54 (Bd e20),AX b3 177 ([(vN (min T.1 T.2.1)),(vN (max T.1 T.2.1))]),AX b2 71 (Ad T),Dp b1 J4 OW (Cl ts (3*t+1)),AP x.p (rowsL Ad ts)]) 4 ?_ ?_
       ·rcases xR (decide (T.2.2<T.2.1)) with hg4|hg4
        ·refine zK (k:=69) (u:=qa true) O (by rw [hg4]) ?_
         have hg4':=xU hg4
         exact Av (v:=(pP b6 3)) O (AA O underlying54 O sizeOf3 O) (Av (v:=(vI e01.r)) O (AD (i:=0) (v:=(vI e01.r)) O O BP.a O) (Av (v:=(qa (decide (e01.r=(-1:Int))))) O (BM (c:=(decide (e01.r=(-1:Int)))) O O O) (AC (v:=(qa (decide (e01.r=(-1:Int))))) (AQ O O) O (oNl' (zT Po (xS _))))))
        ·refine zK (k:=69) (u:=qa false) O (by rw [hg4]) ?_
         have hg4':=xT hg4
         exact BD O (BD O (BD O (AC (v:=(qa false)) (AL O O) O (oNl' (zT Po (xS _))))))
       refine asg' O (oNl' (zB (sL [2,3,16,17,18,5,4,23,9,10,7,8,65] O) (zA ?_)))
       refine zL O (λhc4=>?_) (λhc4=>?_)
       ·simp only [jK] at hc4
        exact zD (AM O (AC (v:=(pP b6 3)) (AA O underlying54 O sizeOf3 O) O (Fm 0 (off:=3) (vs:=[(vN t)]) (cs':=[(vN e01.a),(vN e01.b),(vI e01.l),(vN t)]) (AK O) O sizeOf3 O (oNl' (zB (sL [2,3,16,17,18,5,4,23,9,10,7,8] O) (zF (zj (⟨e01.a,e01.b,e01.l,((t:Nat):Int)⟩:E4) ((by unfold Fo;rw [if_neg Z,if_pos Z])) (sF O) sr)))))))
       ·simp only [jK] at hc4
        exact zC (zF (zj e01 ((by unfold Fo;rw [if_neg Z,if_neg Z])) (sF O) sr))
     ·intro e21 hJ
      have hu1:=hJ
      refine zA (zD (AM O (Ai 1 NL O (Ai 0 G8 O (yX HS 5 (kvs:=Cl ts (3*t+1)) (x:=((min T.2.1 T.2.2,max T.2.1 T.2.2):P2)) (y:=e21) (AK O) O O O underlying175 O (Fh hn hN _ Z) (D9 Z Z) ?_)))))
      rw [show Bl (Cl ts (3*t+1)) ((min T.2.1 T.2.2,max T.2.1 T.2.2):P2) e21=Cl ts (3*t+2) from by rw [hu1,he1,hT];exact (K2 (ts:=ts) (t:=t) (i:=1) Z).symm]
      refine oNl' (zB (sL [2,3,16,17,18,5,4,23,9,10] O) (zF (zA (zD (AC (AR (c:=(2:Int)) O O jY) O (AM O (oNl' (zB (sL [2,3,16,17,18,5,4,23,9,10] O) (zl (zZ (q4 ?_)))))))))))
      refine AC (Aa (c:=true) O O jY) O (oNl' (q1 (zV O (zC (q1 (zI (q4 (AM O (asg' O (q6 (sL [2,3,16,17,18,5,4,23,9,10,6] O) (C_ (Ek 10) sr ?_)))))))))))
      refine Bx O (Aj (v:=(pP b2 2)) O (AB (j:=2) O O underlying71 sizeOf3 O jY O) (BK 4 (vN T.2.2) BP O (Bx O (Aj O (AR (c:=(3:Int)) O O jY) (Aj O (B7 (c:=(0:Int)) O O jY jY) (Aj (v:=(pP b2 0)) O (AB (j:=0) O O underlying71 sizeOf3 O jY O) (BK 4 (vN T.1) BP O (pS' O (pS' O (zQ (zB (sL [2,3,16,17,18,5,4,23,9,10,7,8] O) ?_)))))))))))
      refine q2 (AM O (AM O (AC (Gt (c:=((min T.2.2 T.1:Nat):Int)) O O (by split<;>omega)) O (AM O (AM O (AC (GL (c:=((max T.2.2 T.1:Nat):Int)) O O (by split<;>omega)) O (AC (v:=(aG ([(vN (min T.2.2 T.1)),(vN (max T.2.2 T.1))]))) (AT (zs:=Ay ((0,0):P2)) (vs:=[(vN (min T.2.2 T.1)),(vN (max T.2.2 T.1))]) (pv:=[(0,(vN (min T.2.2 T.1))),(1,(vN (max T.2.2 T.1)))]) (places:=[(0,1),(1,1)]) zeroValue177 underlying177 (λw=>by simp [sizeOf3]) O O) O (al Wm O λb7=>Ah O sizeOf177 O (q3 (sL [2,3,16,17,18,5,4,23,9,10,7,8] O) (AM O ?_))))))))))
      refine Ai 0 NL O (AC (v:=(Value.tuple #[(aG (Bd ((BU (Cl ts (3*t+2)) ((min T.2.2 T.1,max T.2.2 T.1):P2)).getD jA))),(qa ((BU (Cl ts (3*t+2)) ((min T.2.2 T.1,max T.2.2 T.1):P2)).isSome))])) (HP HS 6 (eV:=OW) (kvs:=Cl ts (3*t+2)) (x:=((min T.2.2 T.1,max T.2.2 T.1):P2)) (z0:=jA) (co:=true) O O underlying175 zeroValue54 O (Fh hn hN _ Z) (D9 Z Z)) O (AM O (AC (AJ (v:=(aG (Bd ((BU (Cl ts (3*t+2)) ((min T.2.2 T.1,max T.2.2 T.1):P2)).getD jA)))) O O) O (AC (AJ (v:=(qa ((BU (Cl ts (3*t+2)) ((min T.2.2 T.1,max T.2.2 T.1):P2)).isSome))) O O) O (al II O λb8=>Ah O sizeOf54 O (asg' O (q6 (sL [2,3,16,17,18,5,4,23,9,10,7,8,11] O) (q4 (AM O (AC (BG (c:=(!((BU (Cl ts (3*t+2)) ((min T.2.2 T.1,max T.2.2 T.1):P2)).isSome))) O O) O ?_))))))))))
      refine oNl' (zB (sL [2,3,16,17,18,5,4,23,9,10,7,8,48] O) (zA ?_))
      refine yF (tg λ(e02:E4)=>e02=(BU (Cl ts (3*t+2)) (min T.2.2 T.1,max T.2.2 T.1)).getD (JI (min T.2.2 T.1,max T.2.2 T.1))) (tg λ(e02:E4)=>[(2,jj),(3,(Value.map (some b1))),(16,(qz x.p ts.length x.c)),(17,(vN ts.length)),(18,(vN t)),(5,(pP b2 0)),(4,(vN t)),(23,(vI 2)),(9,(pP b7 0)),(10,(pP b8 0)),(7,(vN T.2.2)),(8,(vN T.1))]) (tg λ(e02:E4)=>[AX b8 54 (Bd e02),AX b7 177 ([(vN (min T.2.2 T.1)),(vN (max T.2.2 T.1))]),AX b6 54 (Bd e21),AX b5 177 ([(vN (min T.2.1 T.2.2)),(vN (max T.2.1 T.2.2))]),AX b4 54 (Bd e20),AX b3 177 ([(vN (min T.1 T.2.1)),(vN (max T.1 T.2.1))]),AX b2 71 (Ad T),Dp b1 J4 OW (Cl ts (3*t+2)),AP x.p (rowsL Ad ts)]) ?_ ?_
      ·refine zL O (λhc2=>?_) (λhc2=>?_)
       ·simp only [jK] at hc2
        exact zD (AC (v:=(pP b7 0)) (AA O underlying177 O sizeOf3 O) O (BA 1 (vN (min T.2.2 T.1)) BP O (AC (v:=(pP b7 1)) (AA O underlying177 O sizeOf3 O) O (BA 1 (vN (max T.2.2 T.1)) BP O (AC (v:=(aG ([(vN (min T.2.2 T.1)),(vN (max T.2.2 T.1)),(vI (-1:Int)),(vI (-1:Int))]))) (AT (zs:=Bd jA) (vs:=[(vN (min T.2.2 T.1)),(vN (max T.2.2 T.1)),(vI (-1:Int)),(vI (-1:Int))]) (pv:=[(0,(vN (min T.2.2 T.1))),(1,(vN (max T.2.2 T.1))),(2,(vI (-1:Int))),(3,(vI (-1:Int)))]) (places:=[(0,1),(1,1),(2,1),(3,1)]) zeroValue54 underlying54 (λw=>by simp [sizeOf3]) O O) O (Ah O sizeOf54 O (oNl' (zB (sL [2,3,16,17,18,5,4,23,9,10,7,8] O) (zj (⟨min T.2.2 T.1,max T.2.2 T.1,-1,-1⟩:E4) ((LJ (k:=(min T.2.2 T.1,max T.2.2 T.1)) (by simpa using hc2))) (sF O) sr)))))))))
       ·simp only [jK] at hc2
        exact zC (zj ((BU (Cl ts (3*t+2)) ((min T.2.2 T.1,max T.2.2 T.1):P2)).getD jA) ((LK (by simpa using hc2))) (sF O) sr)
      ·intro e02 hJ
       have he2:=hJ
       refine q1 ?_
       refine yF (tg λ(e22:E4)=>e22=Fo e02 t T.2.2 T.1) (tg λ(e22:E4)=>[(2,jj),(3,(Value.map (some b1))),(16,(qz x.p ts.length x.c)),(17,(vN ts.length)),(18,(vN t)),(5,(pP b2 0)),(4,(vN t)),(23,(vI 2)),(9,(pP b7 0)),(10,(pP b8 0))]) (tg λ(e22:E4)=>[AX b8 54 (Bd e22),AX b7 177 ([(vN (min T.2.2 T.1)),(vN (max T.2.2 T.1))]),AX b6 54 (Bd e21),AX b5 177 ([(vN (min T.2.1 T.2.2)),(vN (max T.2.1 T.2.2))]),AX b4 54 (Bd e20),AX b3 177 ([(vN (min T.1 T.2.1)),(vN (max T.1 T.2.1))]),AX b2 71 (Ad T),Dp b1 J4 OW (Cl ts (3*t+2)),AP x.p (rowsL Ad ts)]) ?_ ?_
       ·refine zI (q4 (AM O (AM O (AC (Aa (c:=(decide (T.2.2<T.1))) O O (DF (a:=T.2.2) (b:=T.1))) O (AM O ?_)))))
        refine zi (FM:=[(2,jj),(3,(Value.map (some b1))),(16,(qz x.p ts.length x.c)),(17,(vN ts.length)),(18,(vN t)),(5,(pP b2 0)),(4,(vN t)),(23,(vI 2)),(9,(pP b7 0)),(10,(pP b8 0)),(7,(vN T.2.2)),(8,(vN T.1)),(55,(vN T.2.2)),(56,(vN T.1)),(57,(qa (decide (T.2.2<T.1)))),(58,(qa (decide (T.2.2<T.1)))),(62,(qa ((decide (T.2.2<T.1))&&(decide (e02.l=(-1:Int))))))]) (LM:=[AX b8 54 (Bd e02),AX b7 177 ([(vN (min T.2.2 T.1)),(vN (max T.2.2 T.1))]),AX b6 54 (Bd e21),AX b5 177 ([(vN (min T.2.1 T.2.2)),(vN (max T.2.1 T.2.2))]),AX b4 54 (Bd e20),AX b3 177 ([(vN (min T.1 T.2.1)),(vN (max T.1 T.2.1))]),AX b2 71 (Ad T),Dp b1 J4 OW (Cl ts (3*t+2)),AP x.p (rowsL Ad ts)]) 4 ?_ ?_
        ·rcases xR (decide (T.2.2<T.1)) with hg5|hg5
         ·refine zK (k:=58) (u:=qa true) O (by rw [hg5]) ?_
          have hg5':=xU hg5
          exact Av (v:=(pP b8 2)) O (AA O underlying54 O sizeOf3 O) (Av (v:=(vI e02.l)) O (AD (i:=0) (v:=(vI e02.l)) O O BP.a O) (Av (v:=(qa (decide (e02.l=(-1:Int))))) O (BM (c:=(decide (e02.l=(-1:Int)))) O O O) (AC (v:=(qa (decide (e02.l=(-1:Int))))) (AQ O O) O (oNl' (zT Pp (xS _))))))
         ·refine zK (k:=58) (u:=qa false) O (by rw [hg5]) ?_
          have hg5':=xT hg5
          exact BD O (BD O (BD O (AC (v:=(qa false)) (AL O O) O (oNl' (zT Pp (xS _))))))
        refine asg' O (oNl' (zB (sL [2,3,16,17,18,5,4,23,9,10,7,8,54] O) (zA ?_)))
        refine zL O (λhc3=>?_) (λhc3=>?_)
        ·simp only [jK] at hc3
         exact zD (AM O (AC (v:=(pP b8 2)) (AA O underlying54 O sizeOf3 O) O (Fm 0 (off:=2) (vs:=[(vN t)]) (cs':=[(vN e02.a),(vN e02.b),(vN t),(vI e02.r)]) (AK O) O sizeOf3 O (oNl' (zB (sL [2,3,16,17,18,5,4,23,9,10,7,8] O) (zF (zj (⟨e02.a,e02.b,((t:Nat):Int),e02.r⟩:E4) ((by unfold Fo;rw [if_pos Z])) (sF O) sr)))))))
        ·simp only [jK] at hc3
         refine q4 (AM O (AM O (AC (D6 (c:=(decide (T.1<T.2.2))) O O (DF (a:=T.1) (b:=T.2.2))) O (AM O ?_))))
         refine zi (FM:=[(2,jj),(3,(Value.map (some b1))),(16,(qz x.p ts.length x.c)),(17,(vN ts.length)),(18,(vN t)),(5,(pP b2 0)),(4,(vN t)),(23,(vI 2)),(9,(pP b7 0)),(10,(pP b8 0)),(7,(vN T.2.2)),(8,(vN T.1)),(66,(vN T.2.2)),(67,(vN T.1)),(68,(qa (decide (T.1<T.2.2)))),(69,(qa (decide (T.1<T.2.2)))),(73,(qa ((decide (T.1<T.2.2))&&(decide (e02.r=(-1:Int))))))]) (LM:=[AX b8 54 (Bd e02),AX b7 177 ([(vN (min T.2.2 T.1)),(vN (max T.2.2 T.1))]),AX b6 54 (Bd e21),AX b5 177 ([(vN (min T.2.1 T.2.2)),(vN (max T.2.1 T.2.2))]),AX b4 54 (Bd e20),AX b3 177 ([(vN (min T.1 T.2.1)),(vN (max T.1 T.2.1))]),AX b2 71 (Ad T),Dp b1 J4 OW (Cl ts (3*t+2)),AP x.p (rowsL Ad ts)]) 4 ?_ ?_
         ·rcases xR (decide (T.1<T.2.2)) with hg6|hg6
          ·refine zK (k:=69) (u:=qa true) O (by rw [hg6]) ?_
           have hg6':=xU hg6
           exact Av (v:=(pP b8 3)) O (AA O underlying54 O sizeOf3 O) (Av (v:=(vI e02.r)) O (AD (i:=0) (v:=(vI e02.r)) O O BP.a O) (Av (v:=(qa (decide (e02.r=(-1:Int))))) O (BM (c:=(decide (e02.r=(-1:Int)))) O O O) (AC (v:=(qa (decide (e02.r=(-1:Int))))) (AQ O O) O (oNl' (zT cd (xS _))))))
          ·refine zK (k:=69) (u:=qa false) O (by rw [hg6]) ?_
           have hg6':=xT hg6
           exact BD O (BD O (BD O (AC (v:=(qa false)) (AL O O) O (oNl' (zT cd (xS _))))))
         refine asg' O (oNl' (zB (sL [2,3,16,17,18,5,4,23,9,10,7,8,65] O) (zA ?_)))
         refine zL O (λhc4=>?_) (λhc4=>?_)
         ·simp only [jK] at hc4
          exact zD (AM O (AC (v:=(pP b8 3)) (AA O underlying54 O sizeOf3 O) O (Fm 0 (off:=3) (vs:=[(vN t)]) (cs':=[(vN e02.a),(vN e02.b),(vI e02.l),(vN t)]) (AK O) O sizeOf3 O (oNl' (zB (sL [2,3,16,17,18,5,4,23,9,10,7,8] O) (zF (zj (⟨e02.a,e02.b,e02.l,((t:Nat):Int)⟩:E4) ((by unfold Fo;rw [if_neg Z,if_pos Z])) (sF O) sr)))))))
         ·simp only [jK] at hc4
          exact zC (zF (zj e02 ((by unfold Fo;rw [if_neg Z,if_neg Z])) (sF O) sr))
       ·intro e22 hJ
        have hu2:=hJ
        refine zA (zD (AM O (Ai 1 NL O (Ai 0 G8 O (yX HS 7 (kvs:=Cl ts (3*t+2)) (x:=((min T.2.2 T.1,max T.2.2 T.1):P2)) (y:=e22) (AK O) O O O underlying175 O (Fh hn hN _ Z) (D9 Z Z) ?_)))))
        rw [show Bl (Cl ts (3*t+2)) ((min T.2.2 T.1,max T.2.2 T.1):P2) e22=Cl ts (3*t+3) from by rw [hu2,he2,hT];exact (K2 (ts:=ts) (t:=t) (i:=2) Z).symm]
        refine oNl' (zB (sL [2,3,16,17,18,5,4,23,9,10] O) (zF (zA (zD (AC (AR (c:=(3:Int)) O O jY) O (AM O (oNl' (zB (sL [2,3,16,17,18,5,4,23,9,10] O) (zl (zZ (q4 ?_)))))))))))
        refine AC (Aa (c:=false) O O jY) O (oNl' (q1 (zP O (zU (zO (zO (zR (zF (zA (zD (AC (AR (c:=((t+1:Nat):Int)) O O (AS (a:=t) (b:=1) Z)) O ?_)))))))))))
        refine AM O (oNl' (zB (sL [2,3,16,17,18,5,4,23,9,10] O) ?_))
        rw [show 3*t+3=3*(t+1)+0 by omega]
        exact zh (t+1) Z Z (sF O) (sl (sl (sl (sl (sl (sl (sl sr)))))))
 ·replace hc0:=xT hc0
  have htl:t=ts.length:=by omega
  have hel:=KJ (ts:=ts) (3*ts.length)
  refine zU (zO (zX (zR (q2 (AM O ?_)))))
  rw [show Cl ts (3*t+0)=(Cl ts (3*ts.length)) by rw [htl,Nat.add_zero]]
  refine st (v:=(vN ((Cl ts (3*ts.length)).length))) (QG 0 (kvs:=(Cl ts (3*ts.length))) O underlying175 O) (BE O) (AU.make0 cR O O Z O O λbo hbo=>asg' O (q6 (sL [2,3,16,17,18,12] O) (q4 (AM O (AU.range 1 (kvs:=(Cl ts (3*ts.length))) (AK O) O underlying175 O O λb2=>oNl' (zB (sL [2,3,16,17,18,12,85] O) (zA (zI ?_))))))))
  refine yR (tg λ(seen:List Nat) (out:List E4) (p1:Option Addr) (c1:Nat)=>seen.Nodup/\(∀x∈seen,x<(Cl ts (3*ts.length)).length)/\out=seen.map (Wx (Cl ts (3*ts.length)))/\OwnOk p1 out.length c1/\p1≠none) (tg λ(seen:List Nat) (out:List E4) (p1:Option Addr) (c1:Nat)=>[(2,jj),(85,(Value.pointer (jk b2))),(12,(qz p1 out.length c1))]) (tg λ(seen:List Nat) (out:List E4) (p1:Option Addr) (c1:Nat)=>[bd b2 b1 (Cl ts (3*ts.length)).length seen,rowW p1 54 4 out.length c1 (rowsL Bd out),Dp b1 J4 OW (Cl ts (3*ts.length)),AP x.p (rowsL Ad ts)]) (tg λ(seen:List Nat) (out:List E4) (p1:Option Addr) (c1:Nat)=>(Cl ts (3*ts.length)).length-seen.length) ([]:List Nat) ([]:List E4) (jk bo) ((Cl ts (3*ts.length)).length) (⟨List.nodup_nil,(λx hx=>by cases hx),rfl,hbo,by simp⟩) (sF O) sr (λseen out p1 c1 hJ=>?_)
  obtain ⟨hnd,hlt,hou,ho,hpn⟩:=hJ
  refine q4 ?_
  refine AU.next 2 0 (kvs:=(Cl ts (3*ts.length))) (seen:=seen) (AK O) O O O O (λhall=>?_) (λqn kq ve hq hns=>?_)
  ·refine AC (AJ (v:=(qa false)) O O) O (q6 (sL [2,85,12,87] O) (zP O (zU (zO (yB (zR (q2 (AM O ?_))))))))
   have hpm:out.Perm ((Cl ts (3*ts.length)).map (·.2)):=by rw [hou];exact UJ hnd hlt hall
   have hol:out.length=(BJ ts).length:=by rw [Ic];simpa using hpm.length_eq
   have hlo:out.length<=3*ts.length:=by rw [hol,Ic];exact hel
   exact AU.callS 1 (xs:=out) (ys:=BJ ts) (v:=(Value.tuple #[])) (AK O) (Ao (args:=[(qz p1 out.length c1),(Value.func (.func 105) #[] #[])]) O O call104) O (λw hw=>Wb out _ _ _ 54 ho hpn O Z w (hw.holds (i:=1) O)) (λzs h1 h2=>Zr hn hN h1 h2 hpm) (λd hd=>by cases hd<;>exact (BE O)) (q3 (sL [2,85,12] O) (AM O (ck' call108 (UZ p1 _ c1 ho.le) O (asg' O (oNl' (zB (sL [2,85,12] O) (zA (zH (ret_one O (rd_tmp (v:=(qz p1 out.length out.length)) O) (λw hw=>(by rw [<-hol];exact cA hw 1 O ho (by rw [Ac Cr,hol]) O)))))))))))
  ·refine AC (AJ (v:=(qa true)) O O) O (q6 (sL [2,85,12,87] O) (zV O (zC (zA (zI (q4 ?_))))))
   have hlo:out.length<=3*ts.length:=by rw [hou,xL];exact xN (Li hnd hlt) hel
   refine AC (v:=(Value.tuple #[(aG (Ay kq)),(aG (Bd ve))])) (Ux 2 0 (enc:=J4) (eV:=OW) (kvs:=(Cl ts (3*ts.length))) (seen:=seen) (q:=qn) O O O hq) O (AC (AJ (v:=(aG (Bd ve))) O O) O (al II O λb3=>Ah O sizeOf54 O (oNl' (zB (sL [2,85,12,14] O) (zA (zD (AM O (Ai 0 G8 O (ze (V:=λb4=>(qz (jk b4) 1 1)) (T:=54) (cs:=Bd ve) (AK O) (A7 (z:=.agg (Bd jA).toArray) (cs:=Bd ve) (pv:=[(0,(aG (Bd ve)))]) underlying51 sizeOf54 zeroValue54 jY jY O (L5 ve)) O (BE O) λb4=>zu 3 (j:=0) (cs2:=rowsL Bd (out++[ve])) cR O ho (Ac Cr _) O O O O O jY (Mb Z) Z (by rw [Ba];rfl) O λp_1 c_1 ho_1 hne_1=>?_)))))))))
   refine asg' O (oNl' (zB (sL [2,85,12,14] O) (zF ?_)))
   have hnext:seen.length<(Cl ts (3*ts.length)).length:=by have h9:=Li (l:=seen++[qn]) (n:=(Cl ts (3*ts.length)).length) (List.nodup_append.2 ⟨hnd,List.nodup_cons.2 ⟨List.not_mem_nil,List.nodup_nil⟩,λa ha b hb e=>by rw [xP.1 hb] at e;exact hns (e▸ha)⟩) (λx hx=>by rcases List.mem_append.1 hx with h|h;exact hlt x h;rw [xP.1 h];exact (List.getElem?_eq_some_iff.1 hq).1);rw [xM,List.length_singleton] at h9;omega
   rw [show out.length+1=(out++[ve]).length by simp]
   exact z7 (seen++[qn]) (out++[ve]) p_1 c_1 (⟨List.nodup_append.2 ⟨hnd,List.nodup_cons.2 ⟨List.not_mem_nil,List.nodup_nil⟩,λa ha b hb e=>by rw [xP.1 hb] at e;exact hns (e▸ha)⟩,λx hx=>by rcases List.mem_append.1 hx with h|h;exact hlt x h;rw [xP.1 h];exact (List.getElem?_eq_some_iff.1 hq).1,by rw [List.map_append,hou];simp [Y8 hq],(by simpa using ho_1),hne_1⟩) (by have h8:=hnext;rw [xM,List.length_singleton];omega) (sF O) (sl (sl sr))
theorem Ut (ts:List (Tq3)) (x:RX (rowsL Ad ts) ts.length) (N:Nat) (hn:BV N ts=true) (hN:N<=4611686018427387904) (hl:ts.length<=1000000000) (w:World) {S:Nat->Prop} (hx:Ro S w x):Calls prog 47 #[(qz x.p ts.length x.c)] w (BS (RX (rowsL Bd (BJ ts)) (BJ ts).length) S w):=(Mw ts x N hn hN hl w hx).mono λe w1 h=>h.ofCX
end
def ba (l:List Nat):List Value:=l.map λ(d:Nat)=>vN d
section
set_option maxRecDepth 100000
theorem Oi {N:Nat} {ts ss:List (Tq3)} (x:RM N ts ss) (hl:ts.length<=1000000000) (hN:N<=4611686018427387904) (hnb:BV N ts=true) (w:World) {S:Nat->Prop} (hx:Ro S w x):Calls prog 17 #[(aG (XG x))] w (BS (CX (rowsL Bd (BJ ts)) (BJ ts).length) S w):=by
 have lx:=Db (W:=w) hx
 refine Ak (args:=[(aG (XG x))]) (L:=[AP x.a.p (x.cs),AP x.b.p (rowsL Ad ts),AP x.c.p (x.ds)]) func17 O O (BE O) (De hx A_) (zM (sL [0] O) (q4 (BZ (cs:=XG x) O λb1=>asg' O (q6 (sL [1,2] O) (q4 (Ai 0 Bg O (C7 (args:=[(aG (XG x))]) (v:=(qa true)) call46 (λw hw=>(by have h9:=Mi x Z w (Cd hw 1 O lx);rw [hnb] at h9;exact h9)) O (AC (BG (c:=false) O O) O (oNl' (zB (sL [1,2,5] O) ?_))))))))))
 exact zA (zP O (zC (q2 (AC (v:=(pP b1 1)) (AA O underlying34 O sizeOf28 O) O (BA 0 (qz x.b.p ts.length x.b.c) CM O (yD (S:=S) (α:=CX (rowsL Bd (BJ ts)) (BJ ts).length) (args:=[(qz x.b.p ts.length x.b.c)]) call47 (λw hw=>Mw ts x.b N hnb hN hl w (cF (Cd hw 1 O lx))) O O O λo lo=>asg' O (oNl' (zB (sL [1,2] O) (zA (zH (ret_one O (rd_tmp (v:=(qz o.p ((BJ ts).length) ((BJ ts).length))) O) (λw hw=>aM hw (Cd hw 0 O lo) O))))))))))))
theorem Hu {N:Nat} {ts ss:List (Tq3)} (x:RM N ts ss) (hl:ts.length<=1000000000) (hN:N<=4611686018427387904) (hnb:BV N ts=true) (w:World) {S:Nat->Prop} (hx:Ro S w x):Calls prog 17 #[(aG (XG x))] w (BS (RX (rowsL Bd (BJ ts)) (BJ ts).length) S w):=(Oi x hl hN hnb w hx).mono λe w1 h=>h.ofCX
theorem Tq {ps:List Pt} {ts ss:List (Tq3)} (x:MX ps ts ss) (hl:ts.length<=1000000000) (hN:ps.length<=4611686018427387904) (hnb:BV ps.length ts=true) (w:World) {S:Nat->Prop} (hx:Ro S w x):Calls prog 17 #[(aG (Ce x))] w (BS (RX (rowsL Bd (BJ ts)) (BJ ts).length) S w):=Hu x.rm hl hN hnb w (bn hx)
end
end Go.Proofs.YtbfdamnfcmefmaaGreatDoor
