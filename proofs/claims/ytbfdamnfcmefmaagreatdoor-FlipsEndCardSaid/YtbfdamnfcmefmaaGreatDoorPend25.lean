import Derived.Test.YtbfdamnfcmefmaaGreatDoorPend24
namespace Go.Proofs.YtbfdamnfcmefmaaGreatDoor
open Go Go.RowKit Go.Proofs.Tryz
open Go.Value renaming slice→qz,bool→qa
set_option linter.unusedVariables false
set_option linter.unusedSimpArgs false
section
set_option maxRecDepth 100000
theorem ch:ElemT prog 51 54 4 32:=⟨underlying51,FC jV⟩
theorem HQ:Pw prog 177 Jv Yj where
 law:=.of_law (deep_law_laid ZR (m:=2) jY (by decide +kernel) jV jV)
 key:=λa h=>M_ underlying177 ⟨rfl,rfl⟩ ⟨rfl,rfl⟩ (by decide +kernel) underlying3 jV jV jV (by decide +kernel) (OS h.1) (OS h.2)
 inj:=λa b h=>PS h
theorem Uc (p:Option Addr) (n cp:Nat) (h:n<=cp) (w:World)  :Calls prog 108 #[(qz p n cp)] w (Ac w (qz p n n)):=by
 refine AW (args:=[(qz p n cp)]) func108 O O (A_ O) (zM (sL [0] O) (q4 (asg' O (oNl' (q2 (AL O (AL O (AD (v:=(vN n)) (AE O underlying51) O (AL O (AD (v:=(vN n)) (AE O underlying51) O (AD (v:=(qz p n n)) (EO (m:=n) O O O underlying51 sizeOf54 Z) O ?_)))))))))))
 exact asg' O (oNl' (zB (sL [2] O) (zA (zG (ret_one O (rd_tmp (v:=(qz p n n)) O) (λw hw=>⟨rfl,hw.out⟩))))))
theorem L0 (x0:E4):Instr.fill (λi=>some (i*4,4)) ((Array.range (1*4)).map ((Value.agg (Bn jA).toArray).cells[·%(Value.agg (Bn jA).toArray).cells.size]!)) [(0,.agg (Bn x0).toArray)]=some (Bn x0).toArray:=by kernel_rfl
set_option maxHeartbeats 4000000 in
theorem Mw (ts:List (Tq3)) (x:RX (rowsL Af ts) ts.length) (N:Nat) (hn:Ba N ts=true) (hN:N<=4611686018427387904) (hl:ts.length<=1000000000) (w:World) {S:Nat->Prop} (hx:Ro S w x):Calls prog 47 #[(qz x.p ts.length x.c)] w (BP (CX (rowsL Bn (BK ts)) (BK ts).length) S w):=by
 have lx:=DT (W:=w) hx
 refine Ag (args:=[(qz x.p ts.length x.c)]) (L:=[AN x.p (rowsL Af ts)]) func47 O O (A_ O) (DU hx Az) (zM (sL [0] O) (q4 (asg' O (oNl' (q2 (yo Jv OR (AI O) O λb1=>asg' O (q6 (sL [0,2,3] O) (q4 (AL O (AD (v:=(vN ts.length)) (AE O underlying28) O ?_))))))))))
 refine AL O (oNl' (zB (sL [2,3,16,17,18] O) (zA (zI ?_))))
 refine zy (tg λ(t:Nat)=>t<=ts.length) (tg λ(t:Nat)=>[(2,jj),(3,(Value.map (some b1))),(16,(qz x.p ts.length x.c)),(17,(vN ts.length)),(18,(vN t))]) (tg λ(t:Nat)=>[Dk b1 Jv OR (Ci ts (3*t+0)),AN x.p (rowsL Af ts)]) (tg λ(t:Nat)=>ts.length-t) 0 (xJ _) (sF O) sr (λt hJ=>?_)
 have ht:=hJ
 refine q4 (AD (Ab (c:=(decide (t<ts.length))) O O (DA (a:=t) (b:=ts.length))) O (oNl' (q1 ?_)))
 refine zK O (λhc0=>?_) (λhc0=>?_)
 ·replace hc0:=xT hc0
  obtain ⟨T,hT⟩:∃q,q=ts.getD t (0,0,0):=⟨_,rfl⟩
  obtain ⟨g1,g2,g3⟩:=Ct (Bw hn hc0)
  rw [<-hT] at g1 g2 g3
  refine zC (q1 (zI (q4 (AL O (AD (v:=(pP (pB x.p) (pO x.p+t*3))) (AO (j:=t) O O x.ok underlying28 sizeOf71 O Z) O (AD (v:=(aG (Af (ts.getD t jJ)))) (AM (vs:=Af (ts.getD t jJ)) (i:=1) O O (A8.ne x.ok Z) Ec (Ae Av _ _ _ Z) (Av _)) O (zL (k:=22) (u:=(aG (Af T))) O (by rw [hT]) (al J1 O λb2=>asg' O (Ah O sizeOf71 O (q3 (sL [2,3,16,17,18,5,4] O) ?_))))))))))
  refine AL O (oNl' (zA (zI (yD 4 (zZ (q4 (AD (Ab (c:=true) O O jY) O (oNl' (q1 (zV O (zC ?_)))))))))))
  refine q1 (zI (q4 (AL O (asg' O (q6 (sL [2,3,16,17,18,5,4,23,6] O) (C8 (El 10) sr (Bp O (Al (v:=(pP b2 0)) O (AB (j:=0) O O underlying71 sizeOf3 O jY O) (BQ 0 (vN T.1) Bk O (Bp O (Al O (AS (c:=(1:Int)) O O jY) ?_)))))))))))
  refine Al O (CE (c:=(1:Int)) O O jY jY) (Al (v:=(pP b2 1)) O (AB (j:=1) O O underlying71 sizeOf3 O jY O) (BQ 0 (vN T.2.1) Bk O (pS' O (pS' O (zQ (zB (sL [2,3,16,17,18,5,4,23,7,8] O) (q2 (AL O (AL O (AD (Gm (c:=((min T.1 T.2.1:Nat):Int)) O O (by split<;>omega)) O (AL O ?_)))))))))))
  refine AL O (AD (GH (c:=((max T.1 T.2.1:Nat):Int)) O O (by split<;>omega)) O (AD (v:=(aG ([(vN (min T.1 T.2.1)),(vN (max T.1 T.2.1))]))) (AQ (zs:=Ay ((0,0):P2)) (vs:=[(vN (min T.1 T.2.1)),(vN (max T.1 T.2.1))]) (pv:=[(0,(vN (min T.1 T.2.1))),(1,(vN (max T.1 T.2.1)))]) (places:=[(0,1),(1,1)]) zeroValue177 underlying177 (λw=>by simp [sizeOf3]) O O) O (al Wp O λb3=>Ah O sizeOf177 O (q3 (sL [2,3,16,17,18,5,4,23,7,8,9] O) (AL O (Ak 0 NI O (AD (v:=(Value.tuple #[(aG (Bn ((BR (Ci ts (3*t+0)) ((min T.1 T.2.1,max T.1 T.2.1):P2)).getD jA))),(qa ((BR (Ci ts (3*t+0)) ((min T.1 T.2.1,max T.1 T.2.1):P2)).isSome))])) (HN HQ 2 (eV:=OR) (kvs:=Ci ts (3*t+0)) (x:=((min T.1 T.2.1,max T.1 T.2.1):P2)) (z0:=jA) (co:=true) O O underlying175 zeroValue54 O (Fm hn hN _ Z) (D8 Z Z)) O (AL O (AD (AJ (v:=(aG (Bn ((BR (Ci ts (3*t+0)) ((min T.1 T.2.1,max T.1 T.2.1):P2)).getD jA)))) O O) O (AD (AJ (v:=(qa ((BR (Ci ts (3*t+0)) ((min T.1 T.2.1,max T.1 T.2.1):P2)).isSome))) O O) O ?_))))))))))
  refine al JN O λb4=>Ah O sizeOf54 O (asg' O (q6 (sL [2,3,16,17,18,5,4,23,7,8,9,10,11] O) (q4 (AL O (AD (BE (c:=(!((BR (Ci ts (3*t+0)) ((min T.1 T.2.1,max T.1 T.2.1):P2)).isSome))) O O) O (oNl' (zB (sL [2,3,16,17,18,5,4,23,7,8,9,10,48] O) (zA ?_))))))))
  refine yG (tg λ(e00:E4)=>e00=(BR (Ci ts (3*t+0)) (min T.1 T.2.1,max T.1 T.2.1)).getD (I8 (min T.1 T.2.1,max T.1 T.2.1))) (tg λ(e00:E4)=>[(2,jj),(3,(Value.map (some b1))),(16,(qz x.p ts.length x.c)),(17,(vN ts.length)),(18,(vN t)),(5,(pP b2 0)),(4,(vN t)),(23,(vI 0)),(7,(vN T.1)),(8,(vN T.2.1)),(9,(pP b3 0)),(10,(pP b4 0))]) (tg λ(e00:E4)=>[AY b4 54 (Bn e00),AY b3 177 ([(vN (min T.1 T.2.1)),(vN (max T.1 T.2.1))]),AY b2 71 (Af T),Dk b1 Jv OR (Ci ts (3*t+0)),AN x.p (rowsL Af ts)]) ?_ ?_
  ·refine zK O (λhc2=>?_) (λhc2=>?_)
   ·simp only [jK] at hc2
    exact zH (AD (v:=(pP b3 0)) (AA O underlying177 O sizeOf3 O) O (BG 1 (vN (min T.1 T.2.1)) Bk O (AD (v:=(pP b3 1)) (AA O underlying177 O sizeOf3 O) O (BG 1 (vN (max T.1 T.2.1)) Bk O (AD (v:=(aG ([(vN (min T.1 T.2.1)),(vN (max T.1 T.2.1)),(vI (-1:Int)),(vI (-1:Int))]))) (AQ (zs:=Bn jA) (vs:=[(vN (min T.1 T.2.1)),(vN (max T.1 T.2.1)),(vI (-1:Int)),(vI (-1:Int))]) (pv:=[(0,(vN (min T.1 T.2.1))),(1,(vN (max T.1 T.2.1))),(2,(vI (-1:Int))),(3,(vI (-1:Int)))]) (places:=[(0,1),(1,1),(2,1),(3,1)]) zeroValue54 underlying54 (λw=>by simp [sizeOf3]) O O) O (Ah O sizeOf54 O (oNl' (zB (sL [2,3,16,17,18,5,4,23,7,8,9,10] O) (zh (⟨min T.1 T.2.1,max T.1 T.2.1,-1,-1⟩:E4) ((LE (k:=(min T.1 T.2.1,max T.1 T.2.1)) (by simpa using hc2))) (sF O) sr)))))))))
   ·simp only [jK] at hc2
    exact zC (zh ((BR (Ci ts (3*t+0)) ((min T.1 T.2.1,max T.1 T.2.1):P2)).getD jA) ((LF (by simpa using hc2))) (sF O) sr)
  ·intro e00 hJ
   have he0:=hJ
   refine q1 ?_
   refine yG (tg λ(e20:E4)=>e20=Fr e00 t T.1 T.2.1) (tg λ(e20:E4)=>[(2,jj),(3,(Value.map (some b1))),(16,(qz x.p ts.length x.c)),(17,(vN ts.length)),(18,(vN t)),(5,(pP b2 0)),(4,(vN t)),(23,(vI 0)),(9,(pP b3 0)),(10,(pP b4 0))]) (tg λ(e20:E4)=>[AY b4 54 (Bn e20),AY b3 177 ([(vN (min T.1 T.2.1)),(vN (max T.1 T.2.1))]),AY b2 71 (Af T),Dk b1 Jv OR (Ci ts (3*t+0)),AN x.p (rowsL Af ts)]) ?_ ?_
   ·refine zI (q4 (AL O (AL O (AD (Ab (c:=(decide (T.1<T.2.1))) O O (DA (a:=T.1) (b:=T.2.1))) O (AL O ?_)))))
    refine zi (FM:=[(2,jj),(3,(Value.map (some b1))),(16,(qz x.p ts.length x.c)),(17,(vN ts.length)),(18,(vN t)),(5,(pP b2 0)),(4,(vN t)),(23,(vI 0)),(7,(vN T.1)),(8,(vN T.2.1)),(9,(pP b3 0)),(10,(pP b4 0)),(55,(vN T.1)),(56,(vN T.2.1)),(57,(qa (decide (T.1<T.2.1)))),(58,(qa (decide (T.1<T.2.1)))),(62,(qa ((decide (T.1<T.2.1))&&(decide (e00.l=(-1:Int))))))]) (LM:=[AY b4 54 (Bn e00),AY b3 177 ([(vN (min T.1 T.2.1)),(vN (max T.1 T.2.1))]),AY b2 71 (Af T),Dk b1 Jv OR (Ci ts (3*t+0)),AN x.p (rowsL Af ts)]) 4 ?_ ?_
    ·rcases xQ (decide (T.1<T.2.1)) with hg1|hg1
     ·refine zL (k:=58) (u:=qa true) O (by rw [hg1]) ?_
      have hg1':=xT hg1
      exact BI (v:=(pP b4 2)) O (AA O underlying54 O sizeOf3 O) (BI (v:=(vI e00.l)) O (AH (i:=0) (v:=(vI e00.l)) O O Bk.a O) (BI (v:=(qa (decide (e00.l=(-1:Int))))) O (BM (c:=(decide (e00.l=(-1:Int)))) O O O) (AD (v:=(qa (decide (e00.l=(-1:Int))))) (AX O O) O (oNl' (zT Cd (xR _))))))
     ·refine zL (k:=58) (u:=qa false) O (by rw [hg1]) ?_
      have hg1':=xS hg1
      exact BT O (BT O (BT O (AD (v:=(qa false)) (AP O O) O (oNl' (zT Cd (xR _))))))
    refine asg' O (oNl' (zB (sL [2,3,16,17,18,5,4,23,7,8,9,10,54] O) (zA ?_)))
    refine zK O (λhc3=>?_) (λhc3=>?_)
    ·simp only [jK] at hc3
     exact zH (AL O (AD (v:=(pP b4 2)) (AA O underlying54 O sizeOf3 O) O (Fj 0 (off:=2) (vs:=[(vN t)]) (cs':=[(vN e00.a),(vN e00.b),(vN t),(vI e00.r)]) (AI O) O sizeOf3 O (oNl' (zB (sL [2,3,16,17,18,5,4,23,7,8,9,10] O) (zF (zh (⟨e00.a,e00.b,((t:Nat):Int),e00.r⟩:E4) ((by unfold Fr;rw [if_pos Z])) (sF O) sr)))))))
    ·simp only [jK] at hc3
     refine q4 (AL O (AL O (AD (Da (c:=(decide (T.2.1<T.1))) O O (DA (a:=T.2.1) (b:=T.1))) O (AL O ?_))))
     refine zi (FM:=[(2,jj),(3,(Value.map (some b1))),(16,(qz x.p ts.length x.c)),(17,(vN ts.length)),(18,(vN t)),(5,(pP b2 0)),(4,(vN t)),(23,(vI 0)),(7,(vN T.1)),(8,(vN T.2.1)),(9,(pP b3 0)),(10,(pP b4 0)),(66,(vN T.1)),(67,(vN T.2.1)),(68,(qa (decide (T.2.1<T.1)))),(69,(qa (decide (T.2.1<T.1)))),(73,(qa ((decide (T.2.1<T.1))&&(decide (e00.r=(-1:Int))))))]) (LM:=[AY b4 54 (Bn e00),AY b3 177 ([(vN (min T.1 T.2.1)),(vN (max T.1 T.2.1))]),AY b2 71 (Af T),Dk b1 Jv OR (Ci ts (3*t+0)),AN x.p (rowsL Af ts)]) 4 ?_ ?_
     ·rcases xQ (decide (T.2.1<T.1)) with hg2|hg2
      ·refine zL (k:=69) (u:=qa true) O (by rw [hg2]) ?_
       have hg2':=xT hg2
       exact BI (v:=(pP b4 3)) O (AA O underlying54 O sizeOf3 O) (BI (v:=(vI e00.r)) O (AH (i:=0) (v:=(vI e00.r)) O O Bk.a O) (BI (v:=(qa (decide (e00.r=(-1:Int))))) O (BM (c:=(decide (e00.r=(-1:Int)))) O O O) (AD (v:=(qa (decide (e00.r=(-1:Int))))) (AX O O) O (oNl' (zT It (xR _))))))
      ·refine zL (k:=69) (u:=qa false) O (by rw [hg2]) ?_
       have hg2':=xS hg2
       exact BT O (BT O (BT O (AD (v:=(qa false)) (AP O O) O (oNl' (zT It (xR _))))))
     refine asg' O (oNl' (zB (sL [2,3,16,17,18,5,4,23,7,8,9,10,65] O) (zA ?_)))
     refine zK O (λhc4=>?_) (λhc4=>?_)
     ·simp only [jK] at hc4
      exact zH (AL O (AD (v:=(pP b4 3)) (AA O underlying54 O sizeOf3 O) O (Fj 0 (off:=3) (vs:=[(vN t)]) (cs':=[(vN e00.a),(vN e00.b),(vI e00.l),(vN t)]) (AI O) O sizeOf3 O (oNl' (zB (sL [2,3,16,17,18,5,4,23,7,8,9,10] O) (zF (zh (⟨e00.a,e00.b,e00.l,((t:Nat):Int)⟩:E4) ((by unfold Fr;rw [if_neg Z,if_pos Z])) (sF O) sr)))))))
     ·simp only [jK] at hc4
      exact zC (zF (zh e00 ((by unfold Fr;rw [if_neg Z,if_neg Z])) (sF O) sr))
   ·intro e20 hJ
    have hu0:=hJ
    refine zA (zH (AL O (Ak 1 NI O (Ak 0 IB O (yX HQ 3 (kvs:=Ci ts (3*t+0)) (x:=((min T.1 T.2.1,max T.1 T.2.1):P2)) (y:=e20) (AI O) O O O underlying175 O (Fm hn hN _ Z) (D8 Z Z) ?_)))))
    rw [show Bj (Ci ts (3*t+0)) ((min T.1 T.2.1,max T.1 T.2.1):P2) e20=Ci ts (3*t+1) from by rw [hu0,he0,hT];exact (Ky (ts:=ts) (t:=t) (i:=0) Z).symm]
    refine oNl' (zB (sL [2,3,16,17,18,5,4,23,9,10] O) (zF (zA (zH (AD (AS (c:=(1:Int)) O O jY) O (AL O (oNl' (zB (sL [2,3,16,17,18,5,4,23,9,10] O) (zk (zZ (q4 ?_)))))))))))
    refine AD (Ab (c:=true) O O jY) O (oNl' (q1 (zV O (zC (q1 (zI (q4 (AL O (asg' O (q6 (sL [2,3,16,17,18,5,4,23,9,10,6] O) (C8 (El 10) sr ?_)))))))))))
    refine Bp O (Al (v:=(pP b2 1)) O (AB (j:=1) O O underlying71 sizeOf3 O jY O) (BQ 2 (vN T.2.1) Bk O (Bp O (Al O (AS (c:=(2:Int)) O O jY) (Al O (CE (c:=(2:Int)) O O jY jY) (Al (v:=(pP b2 2)) O (AB (j:=2) O O underlying71 sizeOf3 O jY O) (BQ 2 (vN T.2.2) Bk O (pS' O (pS' O (zQ (zB (sL [2,3,16,17,18,5,4,23,9,10,7,8] O) ?_)))))))))))
    refine q2 (AL O (AL O (AD (Gm (c:=((min T.2.1 T.2.2:Nat):Int)) O O (by split<;>omega)) O (AL O (AL O (AD (GH (c:=((max T.2.1 T.2.2:Nat):Int)) O O (by split<;>omega)) O (AD (v:=(aG ([(vN (min T.2.1 T.2.2)),(vN (max T.2.1 T.2.2))]))) (AQ (zs:=Ay ((0,0):P2)) (vs:=[(vN (min T.2.1 T.2.2)),(vN (max T.2.1 T.2.2))]) (pv:=[(0,(vN (min T.2.1 T.2.2))),(1,(vN (max T.2.1 T.2.2)))]) (places:=[(0,1),(1,1)]) zeroValue177 underlying177 (λw=>by simp [sizeOf3]) O O) O (al Wp O λb5=>Ah O sizeOf177 O (q3 (sL [2,3,16,17,18,5,4,23,9,10,7,8] O) (AL O ?_))))))))))
    refine Ak 0 NI O (AD (v:=(Value.tuple #[(aG (Bn ((BR (Ci ts (3*t+1)) ((min T.2.1 T.2.2,max T.2.1 T.2.2):P2)).getD jA))),(qa ((BR (Ci ts (3*t+1)) ((min T.2.1 T.2.2,max T.2.1 T.2.2):P2)).isSome))])) (HN HQ 4 (eV:=OR) (kvs:=Ci ts (3*t+1)) (x:=((min T.2.1 T.2.2,max T.2.1 T.2.2):P2)) (z0:=jA) (co:=true) O O underlying175 zeroValue54 O (Fm hn hN _ Z) (D8 Z Z)) O (AL O (AD (AJ (v:=(aG (Bn ((BR (Ci ts (3*t+1)) ((min T.2.1 T.2.2,max T.2.1 T.2.2):P2)).getD jA)))) O O) O (AD (AJ (v:=(qa ((BR (Ci ts (3*t+1)) ((min T.2.1 T.2.2,max T.2.1 T.2.2):P2)).isSome))) O O) O (al JN O λb6=>Ah O sizeOf54 O (asg' O (q6 (sL [2,3,16,17,18,5,4,23,9,10,7,8,11] O) (q4 (AL O (AD (BE (c:=(!((BR (Ci ts (3*t+1)) ((min T.2.1 T.2.2,max T.2.1 T.2.2):P2)).isSome))) O O) O ?_))))))))))
    refine oNl' (zB (sL [2,3,16,17,18,5,4,23,9,10,7,8,48] O) (zA ?_))
    refine yG (tg λ(e01:E4)=>e01=(BR (Ci ts (3*t+1)) (min T.2.1 T.2.2,max T.2.1 T.2.2)).getD (I8 (min T.2.1 T.2.2,max T.2.1 T.2.2))) (tg λ(e01:E4)=>[(2,jj),(3,(Value.map (some b1))),(16,(qz x.p ts.length x.c)),(17,(vN ts.length)),(18,(vN t)),(5,(pP b2 0)),(4,(vN t)),(23,(vI 1)),(9,(pP b5 0)),(10,(pP b6 0)),(7,(vN T.2.1)),(8,(vN T.2.2))]) (tg λ(e01:E4)=>[AY b6 54 (Bn e01),AY b5 177 ([(vN (min T.2.1 T.2.2)),(vN (max T.2.1 T.2.2))]),AY b4 54 (Bn e20),AY b3 177 ([(vN (min T.1 T.2.1)),(vN (max T.1 T.2.1))]),AY b2 71 (Af T),Dk b1 Jv OR (Ci ts (3*t+1)),AN x.p (rowsL Af ts)]) ?_ ?_
    ·refine zK O (λhc2=>?_) (λhc2=>?_)
     ·simp only [jK] at hc2
      exact zH (AD (v:=(pP b5 0)) (AA O underlying177 O sizeOf3 O) O (BG 1 (vN (min T.2.1 T.2.2)) Bk O (AD (v:=(pP b5 1)) (AA O underlying177 O sizeOf3 O) O (BG 1 (vN (max T.2.1 T.2.2)) Bk O (AD (v:=(aG ([(vN (min T.2.1 T.2.2)),(vN (max T.2.1 T.2.2)),(vI (-1:Int)),(vI (-1:Int))]))) (AQ (zs:=Bn jA) (vs:=[(vN (min T.2.1 T.2.2)),(vN (max T.2.1 T.2.2)),(vI (-1:Int)),(vI (-1:Int))]) (pv:=[(0,(vN (min T.2.1 T.2.2))),(1,(vN (max T.2.1 T.2.2))),(2,(vI (-1:Int))),(3,(vI (-1:Int)))]) (places:=[(0,1),(1,1),(2,1),(3,1)]) zeroValue54 underlying54 (λw=>by simp [sizeOf3]) O O) O (Ah O sizeOf54 O (oNl' (zB (sL [2,3,16,17,18,5,4,23,9,10,7,8] O) (zh (⟨min T.2.1 T.2.2,max T.2.1 T.2.2,-1,-1⟩:E4) ((LE (k:=(min T.2.1 T.2.2,max T.2.1 T.2.2)) (by simpa using hc2))) (sF O) sr)))))))))
     ·simp only [jK] at hc2
      exact zC (zh ((BR (Ci ts (3*t+1)) ((min T.2.1 T.2.2,max T.2.1 T.2.2):P2)).getD jA) ((LF (by simpa using hc2))) (sF O) sr)
    ·intro e01 hJ
     have he1:=hJ
     refine q1 ?_
     refine yG (tg λ(e21:E4)=>e21=Fr e01 t T.2.1 T.2.2) (tg λ(e21:E4)=>[(2,jj),(3,(Value.map (some b1))),(16,(qz x.p ts.length x.c)),(17,(vN ts.length)),(18,(vN t)),(5,(pP b2 0)),(4,(vN t)),(23,(vI 1)),(9,(pP b5 0)),(10,(pP b6 0))]) (tg λ(e21:E4)=>[AY b6 54 (Bn e21),AY b5 177 ([(vN (min T.2.1 T.2.2)),(vN (max T.2.1 T.2.2))]),AY b4 54 (Bn e20),AY b3 177 ([(vN (min T.1 T.2.1)),(vN (max T.1 T.2.1))]),AY b2 71 (Af T),Dk b1 Jv OR (Ci ts (3*t+1)),AN x.p (rowsL Af ts)]) ?_ ?_
     ·refine zI (q4 (AL O (AL O (AD (Ab (c:=(decide (T.2.1<T.2.2))) O O (DA (a:=T.2.1) (b:=T.2.2))) O (AL O ?_)))))
      refine zi (FM:=[(2,jj),(3,(Value.map (some b1))),(16,(qz x.p ts.length x.c)),(17,(vN ts.length)),(18,(vN t)),(5,(pP b2 0)),(4,(vN t)),(23,(vI 1)),(9,(pP b5 0)),(10,(pP b6 0)),(7,(vN T.2.1)),(8,(vN T.2.2)),(55,(vN T.2.1)),(56,(vN T.2.2)),(57,(qa (decide (T.2.1<T.2.2)))),(58,(qa (decide (T.2.1<T.2.2)))),(62,(qa ((decide (T.2.1<T.2.2))&&(decide (e01.l=(-1:Int))))))]) (LM:=[AY b6 54 (Bn e01),AY b5 177 ([(vN (min T.2.1 T.2.2)),(vN (max T.2.1 T.2.2))]),AY b4 54 (Bn e20),AY b3 177 ([(vN (min T.1 T.2.1)),(vN (max T.1 T.2.1))]),AY b2 71 (Af T),Dk b1 Jv OR (Ci ts (3*t+1)),AN x.p (rowsL Af ts)]) 4 ?_ ?_
      ·rcases xQ (decide (T.2.1<T.2.2)) with hg3|hg3
       ·refine zL (k:=58) (u:=qa true) O (by rw [hg3]) ?_
        have hg3':=xT hg3
        exact BI (v:=(pP b6 2)) O (AA O underlying54 O sizeOf3 O) (BI (v:=(vI e01.l)) O (AH (i:=0) (v:=(vI e01.l)) O O Bk.a O) (BI (v:=(qa (decide (e01.l=(-1:Int))))) O (BM (c:=(decide (e01.l=(-1:Int)))) O O O) (AD (v:=(qa (decide (e01.l=(-1:Int))))) (AX O O) O (oNl' (zT TZ (xR _))))))
       ·refine zL (k:=58) (u:=qa false) O (by rw [hg3]) ?_
        have hg3':=xS hg3
        exact BT O (BT O (BT O (AD (v:=(qa false)) (AP O O) O (oNl' (zT TZ (xR _))))))
      refine asg' O (oNl' (zB (sL [2,3,16,17,18,5,4,23,9,10,7,8,54] O) (zA ?_)))
      refine zK O (λhc3=>?_) (λhc3=>?_)
      ·simp only [jK] at hc3
       exact zH (AL O (AD (v:=(pP b6 2)) (AA O underlying54 O sizeOf3 O) O (Fj 0 (off:=2) (vs:=[(vN t)]) (cs':=[(vN e01.a),(vN e01.b),(vN t),(vI e01.r)]) (AI O) O sizeOf3 O (oNl' (zB (sL [2,3,16,17,18,5,4,23,9,10,7,8] O) (zF (zh (⟨e01.a,e01.b,((t:Nat):Int),e01.r⟩:E4) ((by unfold Fr;rw [if_pos Z])) (sF O) sr)))))))
      ·simp only [jK] at hc3
       refine q4 (AL O (AL O (AD (Da (c:=(decide (T.2.2<T.2.1))) O O (DA (a:=T.2.2) (b:=T.2.1))) O (AL O ?_))))
       refine zi (FM:=[(2,jj),(3,(Value.map (some b1))),(16,(qz x.p ts.length x.c)),(17,(vN ts.length)),(18,(vN t)),(5,(pP b2 0)),(4,(vN t)),(23,(vI 1)),(9,(pP b5 0)),(10,(pP b6 0)),(7,(vN T.2.1)),(8,(vN T.2.2)),(66,(vN T.2.1)),(67,(vN T.2.2)),(68,(qa (decide (T.2.2<T.2.1)))),(69,(qa (decide (T.2.2<T.2.1)))),(73,(qa ((decide (T.2.2<T.2.1))&&(decide (e01.r=(-1:Int))))))]) (LM:=[AY b6 54 (Bn e01),AY b5 177 ([(vN (min T.2.1 T.2.2)),(vN (max T.2.1 T.2.2))]),AY b4 54 (Bn e20),AY b3 177 ([(vN (min T.1 T.2.1)),(vN (max T.1 T.2.1))]),AY b2 71 (Af T),Dk b1 Jv OR (Ci ts (3*t+1)),AN x.p (rowsL Af ts)]) 4 ?_ ?_
       ·rcases xQ (decide (T.2.2<T.2.1)) with hg4|hg4
        ·refine zL (k:=69) (u:=qa true) O (by rw [hg4]) ?_
         have hg4':=xT hg4
         exact BI (v:=(pP b6 3)) O (AA O underlying54 O sizeOf3 O) (BI (v:=(vI e01.r)) O (AH (i:=0) (v:=(vI e01.r)) O O Bk.a O) (BI (v:=(qa (decide (e01.r=(-1:Int))))) O (BM (c:=(decide (e01.r=(-1:Int)))) O O O) (AD (v:=(qa (decide (e01.r=(-1:Int))))) (AX O O) O (oNl' (zT Ta (xR _))))))
        ·refine zL (k:=69) (u:=qa false) O (by rw [hg4]) ?_
         have hg4':=xS hg4
         exact BT O (BT O (BT O (AD (v:=(qa false)) (AP O O) O (oNl' (zT Ta (xR _))))))
       refine asg' O (oNl' (zB (sL [2,3,16,17,18,5,4,23,9,10,7,8,65] O) (zA ?_)))
       refine zK O (λhc4=>?_) (λhc4=>?_)
       ·simp only [jK] at hc4
        exact zH (AL O (AD (v:=(pP b6 3)) (AA O underlying54 O sizeOf3 O) O (Fj 0 (off:=3) (vs:=[(vN t)]) (cs':=[(vN e01.a),(vN e01.b),(vI e01.l),(vN t)]) (AI O) O sizeOf3 O (oNl' (zB (sL [2,3,16,17,18,5,4,23,9,10,7,8] O) (zF (zh (⟨e01.a,e01.b,e01.l,((t:Nat):Int)⟩:E4) ((by unfold Fr;rw [if_neg Z,if_pos Z])) (sF O) sr)))))))
       ·simp only [jK] at hc4
        exact zC (zF (zh e01 ((by unfold Fr;rw [if_neg Z,if_neg Z])) (sF O) sr))
     ·intro e21 hJ
      have hu1:=hJ
      refine zA (zH (AL O (Ak 1 NI O (Ak 0 IB O (yX HQ 5 (kvs:=Ci ts (3*t+1)) (x:=((min T.2.1 T.2.2,max T.2.1 T.2.2):P2)) (y:=e21) (AI O) O O O underlying175 O (Fm hn hN _ Z) (D8 Z Z) ?_)))))
      rw [show Bj (Ci ts (3*t+1)) ((min T.2.1 T.2.2,max T.2.1 T.2.2):P2) e21=Ci ts (3*t+2) from by rw [hu1,he1,hT];exact (Ky (ts:=ts) (t:=t) (i:=1) Z).symm]
      refine oNl' (zB (sL [2,3,16,17,18,5,4,23,9,10] O) (zF (zA (zH (AD (AS (c:=(2:Int)) O O jY) O (AL O (oNl' (zB (sL [2,3,16,17,18,5,4,23,9,10] O) (zk (zZ (q4 ?_)))))))))))
      refine AD (Ab (c:=true) O O jY) O (oNl' (q1 (zV O (zC (q1 (zI (q4 (AL O (asg' O (q6 (sL [2,3,16,17,18,5,4,23,9,10,6] O) (C8 (El 10) sr ?_)))))))))))
      refine Bp O (Al (v:=(pP b2 2)) O (AB (j:=2) O O underlying71 sizeOf3 O jY O) (BQ 4 (vN T.2.2) Bk O (Bp O (Al O (AS (c:=(3:Int)) O O jY) (Al O (CE (c:=(0:Int)) O O jY jY) (Al (v:=(pP b2 0)) O (AB (j:=0) O O underlying71 sizeOf3 O jY O) (BQ 4 (vN T.1) Bk O (pS' O (pS' O (zQ (zB (sL [2,3,16,17,18,5,4,23,9,10,7,8] O) ?_)))))))))))
      refine q2 (AL O (AL O (AD (Gm (c:=((min T.2.2 T.1:Nat):Int)) O O (by split<;>omega)) O (AL O (AL O (AD (GH (c:=((max T.2.2 T.1:Nat):Int)) O O (by split<;>omega)) O (AD (v:=(aG ([(vN (min T.2.2 T.1)),(vN (max T.2.2 T.1))]))) (AQ (zs:=Ay ((0,0):P2)) (vs:=[(vN (min T.2.2 T.1)),(vN (max T.2.2 T.1))]) (pv:=[(0,(vN (min T.2.2 T.1))),(1,(vN (max T.2.2 T.1)))]) (places:=[(0,1),(1,1)]) zeroValue177 underlying177 (λw=>by simp [sizeOf3]) O O) O (al Wp O λb7=>Ah O sizeOf177 O (q3 (sL [2,3,16,17,18,5,4,23,9,10,7,8] O) (AL O ?_))))))))))
      refine Ak 0 NI O (AD (v:=(Value.tuple #[(aG (Bn ((BR (Ci ts (3*t+2)) ((min T.2.2 T.1,max T.2.2 T.1):P2)).getD jA))),(qa ((BR (Ci ts (3*t+2)) ((min T.2.2 T.1,max T.2.2 T.1):P2)).isSome))])) (HN HQ 6 (eV:=OR) (kvs:=Ci ts (3*t+2)) (x:=((min T.2.2 T.1,max T.2.2 T.1):P2)) (z0:=jA) (co:=true) O O underlying175 zeroValue54 O (Fm hn hN _ Z) (D8 Z Z)) O (AL O (AD (AJ (v:=(aG (Bn ((BR (Ci ts (3*t+2)) ((min T.2.2 T.1,max T.2.2 T.1):P2)).getD jA)))) O O) O (AD (AJ (v:=(qa ((BR (Ci ts (3*t+2)) ((min T.2.2 T.1,max T.2.2 T.1):P2)).isSome))) O O) O (al JN O λb8=>Ah O sizeOf54 O (asg' O (q6 (sL [2,3,16,17,18,5,4,23,9,10,7,8,11] O) (q4 (AL O (AD (BE (c:=(!((BR (Ci ts (3*t+2)) ((min T.2.2 T.1,max T.2.2 T.1):P2)).isSome))) O O) O ?_))))))))))
      refine oNl' (zB (sL [2,3,16,17,18,5,4,23,9,10,7,8,48] O) (zA ?_))
      refine yG (tg λ(e02:E4)=>e02=(BR (Ci ts (3*t+2)) (min T.2.2 T.1,max T.2.2 T.1)).getD (I8 (min T.2.2 T.1,max T.2.2 T.1))) (tg λ(e02:E4)=>[(2,jj),(3,(Value.map (some b1))),(16,(qz x.p ts.length x.c)),(17,(vN ts.length)),(18,(vN t)),(5,(pP b2 0)),(4,(vN t)),(23,(vI 2)),(9,(pP b7 0)),(10,(pP b8 0)),(7,(vN T.2.2)),(8,(vN T.1))]) (tg λ(e02:E4)=>[AY b8 54 (Bn e02),AY b7 177 ([(vN (min T.2.2 T.1)),(vN (max T.2.2 T.1))]),AY b6 54 (Bn e21),AY b5 177 ([(vN (min T.2.1 T.2.2)),(vN (max T.2.1 T.2.2))]),AY b4 54 (Bn e20),AY b3 177 ([(vN (min T.1 T.2.1)),(vN (max T.1 T.2.1))]),AY b2 71 (Af T),Dk b1 Jv OR (Ci ts (3*t+2)),AN x.p (rowsL Af ts)]) ?_ ?_
      ·refine zK O (λhc2=>?_) (λhc2=>?_)
       ·simp only [jK] at hc2
        exact zH (AD (v:=(pP b7 0)) (AA O underlying177 O sizeOf3 O) O (BG 1 (vN (min T.2.2 T.1)) Bk O (AD (v:=(pP b7 1)) (AA O underlying177 O sizeOf3 O) O (BG 1 (vN (max T.2.2 T.1)) Bk O (AD (v:=(aG ([(vN (min T.2.2 T.1)),(vN (max T.2.2 T.1)),(vI (-1:Int)),(vI (-1:Int))]))) (AQ (zs:=Bn jA) (vs:=[(vN (min T.2.2 T.1)),(vN (max T.2.2 T.1)),(vI (-1:Int)),(vI (-1:Int))]) (pv:=[(0,(vN (min T.2.2 T.1))),(1,(vN (max T.2.2 T.1))),(2,(vI (-1:Int))),(3,(vI (-1:Int)))]) (places:=[(0,1),(1,1),(2,1),(3,1)]) zeroValue54 underlying54 (λw=>by simp [sizeOf3]) O O) O (Ah O sizeOf54 O (oNl' (zB (sL [2,3,16,17,18,5,4,23,9,10,7,8] O) (zh (⟨min T.2.2 T.1,max T.2.2 T.1,-1,-1⟩:E4) ((LE (k:=(min T.2.2 T.1,max T.2.2 T.1)) (by simpa using hc2))) (sF O) sr)))))))))
       ·simp only [jK] at hc2
        exact zC (zh ((BR (Ci ts (3*t+2)) ((min T.2.2 T.1,max T.2.2 T.1):P2)).getD jA) ((LF (by simpa using hc2))) (sF O) sr)
      ·intro e02 hJ
       have he2:=hJ
       refine q1 ?_
       refine yG (tg λ(e22:E4)=>e22=Fr e02 t T.2.2 T.1) (tg λ(e22:E4)=>[(2,jj),(3,(Value.map (some b1))),(16,(qz x.p ts.length x.c)),(17,(vN ts.length)),(18,(vN t)),(5,(pP b2 0)),(4,(vN t)),(23,(vI 2)),(9,(pP b7 0)),(10,(pP b8 0))]) (tg λ(e22:E4)=>[AY b8 54 (Bn e22),AY b7 177 ([(vN (min T.2.2 T.1)),(vN (max T.2.2 T.1))]),AY b6 54 (Bn e21),AY b5 177 ([(vN (min T.2.1 T.2.2)),(vN (max T.2.1 T.2.2))]),AY b4 54 (Bn e20),AY b3 177 ([(vN (min T.1 T.2.1)),(vN (max T.1 T.2.1))]),AY b2 71 (Af T),Dk b1 Jv OR (Ci ts (3*t+2)),AN x.p (rowsL Af ts)]) ?_ ?_
       ·refine zI (q4 (AL O (AL O (AD (Ab (c:=(decide (T.2.2<T.1))) O O (DA (a:=T.2.2) (b:=T.1))) O (AL O ?_)))))
        refine zi (FM:=[(2,jj),(3,(Value.map (some b1))),(16,(qz x.p ts.length x.c)),(17,(vN ts.length)),(18,(vN t)),(5,(pP b2 0)),(4,(vN t)),(23,(vI 2)),(9,(pP b7 0)),(10,(pP b8 0)),(7,(vN T.2.2)),(8,(vN T.1)),(55,(vN T.2.2)),(56,(vN T.1)),(57,(qa (decide (T.2.2<T.1)))),(58,(qa (decide (T.2.2<T.1)))),(62,(qa ((decide (T.2.2<T.1))&&(decide (e02.l=(-1:Int))))))]) (LM:=[AY b8 54 (Bn e02),AY b7 177 ([(vN (min T.2.2 T.1)),(vN (max T.2.2 T.1))]),AY b6 54 (Bn e21),AY b5 177 ([(vN (min T.2.1 T.2.2)),(vN (max T.2.1 T.2.2))]),AY b4 54 (Bn e20),AY b3 177 ([(vN (min T.1 T.2.1)),(vN (max T.1 T.2.1))]),AY b2 71 (Af T),Dk b1 Jv OR (Ci ts (3*t+2)),AN x.p (rowsL Af ts)]) 4 ?_ ?_
        ·rcases xQ (decide (T.2.2<T.1)) with hg5|hg5
         ·refine zL (k:=58) (u:=qa true) O (by rw [hg5]) ?_
          have hg5':=xT hg5
          exact BI (v:=(pP b8 2)) O (AA O underlying54 O sizeOf3 O) (BI (v:=(vI e02.l)) O (AH (i:=0) (v:=(vI e02.l)) O O Bk.a O) (BI (v:=(qa (decide (e02.l=(-1:Int))))) O (BM (c:=(decide (e02.l=(-1:Int)))) O O O) (AD (v:=(qa (decide (e02.l=(-1:Int))))) (AX O O) O (oNl' (zT Tb (xR _))))))
         ·refine zL (k:=58) (u:=qa false) O (by rw [hg5]) ?_
          have hg5':=xS hg5
          exact BT O (BT O (BT O (AD (v:=(qa false)) (AP O O) O (oNl' (zT Tb (xR _))))))
        refine asg' O (oNl' (zB (sL [2,3,16,17,18,5,4,23,9,10,7,8,54] O) (zA ?_)))
        refine zK O (λhc3=>?_) (λhc3=>?_)
        ·simp only [jK] at hc3
         exact zH (AL O (AD (v:=(pP b8 2)) (AA O underlying54 O sizeOf3 O) O (Fj 0 (off:=2) (vs:=[(vN t)]) (cs':=[(vN e02.a),(vN e02.b),(vN t),(vI e02.r)]) (AI O) O sizeOf3 O (oNl' (zB (sL [2,3,16,17,18,5,4,23,9,10,7,8] O) (zF (zh (⟨e02.a,e02.b,((t:Nat):Int),e02.r⟩:E4) ((by unfold Fr;rw [if_pos Z])) (sF O) sr)))))))
        ·simp only [jK] at hc3
         refine q4 (AL O (AL O (AD (Da (c:=(decide (T.1<T.2.2))) O O (DA (a:=T.1) (b:=T.2.2))) O (AL O ?_))))
         refine zi (FM:=[(2,jj),(3,(Value.map (some b1))),(16,(qz x.p ts.length x.c)),(17,(vN ts.length)),(18,(vN t)),(5,(pP b2 0)),(4,(vN t)),(23,(vI 2)),(9,(pP b7 0)),(10,(pP b8 0)),(7,(vN T.2.2)),(8,(vN T.1)),(66,(vN T.2.2)),(67,(vN T.1)),(68,(qa (decide (T.1<T.2.2)))),(69,(qa (decide (T.1<T.2.2)))),(73,(qa ((decide (T.1<T.2.2))&&(decide (e02.r=(-1:Int))))))]) (LM:=[AY b8 54 (Bn e02),AY b7 177 ([(vN (min T.2.2 T.1)),(vN (max T.2.2 T.1))]),AY b6 54 (Bn e21),AY b5 177 ([(vN (min T.2.1 T.2.2)),(vN (max T.2.1 T.2.2))]),AY b4 54 (Bn e20),AY b3 177 ([(vN (min T.1 T.2.1)),(vN (max T.1 T.2.1))]),AY b2 71 (Af T),Dk b1 Jv OR (Ci ts (3*t+2)),AN x.p (rowsL Af ts)]) 4 ?_ ?_
         ·rcases xQ (decide (T.1<T.2.2)) with hg6|hg6
          ·refine zL (k:=69) (u:=qa true) O (by rw [hg6]) ?_
           have hg6':=xT hg6
           exact BI (v:=(pP b8 3)) O (AA O underlying54 O sizeOf3 O) (BI (v:=(vI e02.r)) O (AH (i:=0) (v:=(vI e02.r)) O O Bk.a O) (BI (v:=(qa (decide (e02.r=(-1:Int))))) O (BM (c:=(decide (e02.r=(-1:Int)))) O O O) (AD (v:=(qa (decide (e02.r=(-1:Int))))) (AX O O) O (oNl' (zT cx (xR _))))))
          ·refine zL (k:=69) (u:=qa false) O (by rw [hg6]) ?_
           have hg6':=xS hg6
           exact BT O (BT O (BT O (AD (v:=(qa false)) (AP O O) O (oNl' (zT cx (xR _))))))
         refine asg' O (oNl' (zB (sL [2,3,16,17,18,5,4,23,9,10,7,8,65] O) (zA ?_)))
         refine zK O (λhc4=>?_) (λhc4=>?_)
         ·simp only [jK] at hc4
          exact zH (AL O (AD (v:=(pP b8 3)) (AA O underlying54 O sizeOf3 O) O (Fj 0 (off:=3) (vs:=[(vN t)]) (cs':=[(vN e02.a),(vN e02.b),(vI e02.l),(vN t)]) (AI O) O sizeOf3 O (oNl' (zB (sL [2,3,16,17,18,5,4,23,9,10,7,8] O) (zF (zh (⟨e02.a,e02.b,e02.l,((t:Nat):Int)⟩:E4) ((by unfold Fr;rw [if_neg Z,if_pos Z])) (sF O) sr)))))))
         ·simp only [jK] at hc4
          exact zC (zF (zh e02 ((by unfold Fr;rw [if_neg Z,if_neg Z])) (sF O) sr))
       ·intro e22 hJ
        have hu2:=hJ
        refine zA (zH (AL O (Ak 1 NI O (Ak 0 IB O (yX HQ 7 (kvs:=Ci ts (3*t+2)) (x:=((min T.2.2 T.1,max T.2.2 T.1):P2)) (y:=e22) (AI O) O O O underlying175 O (Fm hn hN _ Z) (D8 Z Z) ?_)))))
        rw [show Bj (Ci ts (3*t+2)) ((min T.2.2 T.1,max T.2.2 T.1):P2) e22=Ci ts (3*t+3) from by rw [hu2,he2,hT];exact (Ky (ts:=ts) (t:=t) (i:=2) Z).symm]
        refine oNl' (zB (sL [2,3,16,17,18,5,4,23,9,10] O) (zF (zA (zH (AD (AS (c:=(3:Int)) O O jY) O (AL O (oNl' (zB (sL [2,3,16,17,18,5,4,23,9,10] O) (zk (zZ (q4 ?_)))))))))))
        refine AD (Ab (c:=false) O O jY) O (oNl' (q1 (zS O (zU (zO (zO (zP (zF (zA (zH (AD (AS (c:=((t+1:Nat):Int)) O O (AV (a:=t) (b:=1) Z)) O ?_)))))))))))
        refine AL O (oNl' (zB (sL [2,3,16,17,18,5,4,23,9,10] O) ?_))
        rw [show 3*t+3=3*(t+1)+0 by omega]
        exact zm (t+1) Z Z (sF O) (sl (sl (sl (sl (sl (sl (sl sr)))))))
 ·replace hc0:=xS hc0
  have htl:t=ts.length:=by omega
  have hel:=KB (ts:=ts) (3*ts.length)
  refine zU (zO (zY (zP (q2 (AL O ?_)))))
  rw [show Ci ts (3*t+0)=(Ci ts (3*ts.length)) by rw [htl,Nat.add_zero]]
  refine st (v:=(vN ((Ci ts (3*ts.length)).length))) (QE 0 (kvs:=(Ci ts (3*ts.length))) O underlying175 O) (A_ O) (AR.make0 ch O O Z O O λbo hbo=>asg' O (q6 (sL [2,3,16,17,18,12] O) (q4 (AL O (AR.range 1 (kvs:=(Ci ts (3*ts.length))) (AI O) O underlying175 O O λb2=>oNl' (zB (sL [2,3,16,17,18,12,85] O) (zA (zI ?_))))))))
  refine yR (tg λ(seen:List Nat) (out:List E4) (p1:Option Addr) (c1:Nat)=>seen.Nodup/\(∀x∈seen,x<(Ci ts (3*ts.length)).length)/\out=seen.map (W0 (Ci ts (3*ts.length)))/\OwnOk p1 out.length c1/\p1≠none) (tg λ(seen:List Nat) (out:List E4) (p1:Option Addr) (c1:Nat)=>[(2,jj),(85,(Value.pointer (jk b2))),(12,(qz p1 out.length c1))]) (tg λ(seen:List Nat) (out:List E4) (p1:Option Addr) (c1:Nat)=>[bw b2 b1 (Ci ts (3*ts.length)).length seen,rowW p1 54 4 out.length c1 (rowsL Bn out),Dk b1 Jv OR (Ci ts (3*ts.length)),AN x.p (rowsL Af ts)]) (tg λ(seen:List Nat) (out:List E4) (p1:Option Addr) (c1:Nat)=>(Ci ts (3*ts.length)).length-seen.length) ([]:List Nat) ([]:List E4) (jk bo) ((Ci ts (3*ts.length)).length) (⟨List.nodup_nil,(λx hx=>by cases hx),rfl,hbo,by simp⟩) (sF O) sr (λseen out p1 c1 hJ=>?_)
  obtain ⟨hnd,hlt,hou,ho,hpn⟩:=hJ
  refine q4 ?_
  refine AR.next 2 0 (kvs:=(Ci ts (3*ts.length))) (seen:=seen) (AI O) O O O O (λhall=>?_) (λqn kq ve hq hns=>?_)
  ·refine AD (AJ (v:=(qa false)) O O) O (q6 (sL [2,85,12,87] O) (zS O (zU (zO (yC (zP (q2 (AL O ?_))))))))
   have hpm:out.Perm ((Ci ts (3*ts.length)).map (·.2)):=by rw [hou];exact UM hnd hlt hall
   have hol:out.length=(BK ts).length:=by rw [J_];simpa using hpm.length_eq
   have hlo:out.length<=3*ts.length:=by rw [hol,J_];exact hel
   exact AR.callS 1 (xs:=out) (ys:=BK ts) (v:=(Value.tuple #[])) (AI O) (Am (args:=[(qz p1 out.length c1),(Value.func (.func 105) #[] #[])]) O O call104) O (λw hw=>Wd out _ _ _ 54 ho hpn O Z w (hw.holds (i:=1) O)) (λzs h1 h2=>Z4 hn hN h1 h2 hpm) (λd hd=>by cases hd<;>exact (A_ O)) (q3 (sL [2,85,12] O) (AL O (ck' call108 (Uc p1 _ c1 ho.le) O (asg' O (oNl' (zB (sL [2,85,12] O) (zA (zG (ret_one O (rd_tmp (v:=(qz p1 out.length out.length)) O) (λw hw=>(by rw [<-hol];exact cK hw 1 O ho (by rw [AZ C9,hol]) O)))))))))))
  ·refine AD (AJ (v:=(qa true)) O O) O (q6 (sL [2,85,12,87] O) (zV O (zC (zA (zI (q4 ?_))))))
   have hlo:out.length<=3*ts.length:=by rw [hou,xK];exact xM (Le hnd hlt) hel
   refine AD (v:=(Value.tuple #[(aG (Ay kq)),(aG (Bn ve))])) (U0 2 0 (enc:=Jv) (eV:=OR) (kvs:=(Ci ts (3*ts.length))) (seen:=seen) (q:=qn) O O O hq) O (AD (AJ (v:=(aG (Bn ve))) O O) O (al JN O λb3=>Ah O sizeOf54 O (oNl' (zB (sL [2,85,12,14] O) (zA (zH (AL O (Ak 0 IB O (ze (V:=λb4=>(qz (jk b4) 1 1)) (T:=54) (cs:=Bn ve) (AI O) (Ax (z:=.agg (Bn jA).toArray) (cs:=Bn ve) (pv:=[(0,(aG (Bn ve)))]) underlying51 sizeOf54 zeroValue54 jY jY O (L0 ve)) O (A_ O) λb4=>zw 3 (j:=0) (cs2:=rowsL Bn (out++[ve])) ch O ho (AZ C9 _) O O O O O jY (Ma Z) Z (by rw [Bb];rfl) O λp_1 c_1 ho_1 hne_1=>?_)))))))))
   refine asg' O (oNl' (zB (sL [2,85,12,14] O) (zF ?_)))
   have hnext:seen.length<(Ci ts (3*ts.length)).length:=by have h9:=Le (l:=seen++[qn]) (n:=(Ci ts (3*ts.length)).length) (List.nodup_append.2 ⟨hnd,List.nodup_cons.2 ⟨List.not_mem_nil,List.nodup_nil⟩,λa ha b hb e=>by rw [xO.1 hb] at e;exact hns (e▸ha)⟩) (λx hx=>by rcases List.mem_append.1 hx with h|h;exact hlt x h;rw [xO.1 h];exact (List.getElem?_eq_some_iff.1 hq).1);rw [xL,List.length_singleton] at h9;omega
   rw [show out.length+1=(out++[ve]).length by simp]
   exact z8 (seen++[qn]) (out++[ve]) p_1 c_1 (⟨List.nodup_append.2 ⟨hnd,List.nodup_cons.2 ⟨List.not_mem_nil,List.nodup_nil⟩,λa ha b hb e=>by rw [xO.1 hb] at e;exact hns (e▸ha)⟩,λx hx=>by rcases List.mem_append.1 hx with h|h;exact hlt x h;rw [xO.1 h];exact (List.getElem?_eq_some_iff.1 hq).1,by rw [List.map_append,hou];simp [ZE hq],(by simpa using ho_1),hne_1⟩) (by have h8:=hnext;rw [xL,List.length_singleton];omega) (sF O) (sl (sl sr))
theorem Uv (ts:List (Tq3)) (x:RX (rowsL Af ts) ts.length) (N:Nat) (hn:Ba N ts=true) (hN:N<=4611686018427387904) (hl:ts.length<=1000000000) (w:World) {S:Nat->Prop} (hx:Ro S w x):Calls prog 47 #[(qz x.p ts.length x.c)] w (BP (RX (rowsL Bn (BK ts)) (BK ts).length) S w):=(Mw ts x N hn hN hl w hx).mono λe w1 h=>h.ofCX
end
def bu (l:List Nat):List Value:=l.map λ(d:Nat)=>vN d
section
set_option maxRecDepth 100000
theorem Oc {N:Nat} {ts ss:List (Tq3)} (x:RM N ts ss) (hl:ts.length<=1000000000) (hN:N<=4611686018427387904) (hnb:Ba N ts=true) (w:World) {S:Nat->Prop} (hx:Ro S w x):Calls prog 17 #[(aG (XK x))] w (BP (CX (rowsL Bn (BK ts)) (BK ts).length) S w):=by
 have lx:=DT (W:=w) hx
 refine Ag (args:=[(aG (XK x))]) (L:=[AN x.a.p (x.cs),AN x.b.p (rowsL Af ts),AN x.c.p (x.ds)]) func17 O O (A_ O) (DU hx Az) (zM (sL [0] O) (q4 (BV (cs:=XK x) O λb1=>asg' O (q6 (sL [1,2] O) (q4 (Ak 0 BY O (C3 (args:=[(aG (XK x))]) (v:=(qa true)) call46 (λw hw=>(by have h9:=Mh x Z w (CL hw 1 O lx);rw [hnb] at h9;exact h9)) O (AD (BE (c:=false) O O) O (oNl' (zB (sL [1,2,5] O) ?_))))))))))
 exact zA (zS O (zC (q2 (AD (v:=(pP b1 1)) (AA O underlying34 O sizeOf28 O) O (BG 0 (qz x.b.p ts.length x.b.c) C5 O (yI (S:=S) (α:=CX (rowsL Bn (BK ts)) (BK ts).length) (args:=[(qz x.b.p ts.length x.b.c)]) call47 (λw hw=>Mw ts x.b N hnb hN hl w (cQ (CL hw 1 O lx))) O O O λo lo=>asg' O (oNl' (zB (sL [1,2] O) (zA (zG (ret_one O (rd_tmp (v:=(qz o.p ((BK ts).length) ((BK ts).length))) O) (λw hw=>retR hw (CL hw 0 O lo) O))))))))))))
theorem Hn {N:Nat} {ts ss:List (Tq3)} (x:RM N ts ss) (hl:ts.length<=1000000000) (hN:N<=4611686018427387904) (hnb:Ba N ts=true) (w:World) {S:Nat->Prop} (hx:Ro S w x):Calls prog 17 #[(aG (XK x))] w (BP (RX (rowsL Bn (BK ts)) (BK ts).length) S w):=(Oc x hl hN hnb w hx).mono λe w1 h=>h.ofCX
theorem Tq {ps:List Pt} {ts ss:List (Tq3)} (x:MX ps ts ss) (hl:ts.length<=1000000000) (hN:ps.length<=4611686018427387904) (hnb:Ba ps.length ts=true) (w:World) {S:Nat->Prop} (hx:Ro S w x):Calls prog 17 #[(aG (Cf x))] w (BP (RX (rowsL Bn (BK ts)) (BK ts).length) S w):=Hn x.rm hl hN hnb w (cE hx)
end
end Go.Proofs.YtbfdamnfcmefmaaGreatDoor
