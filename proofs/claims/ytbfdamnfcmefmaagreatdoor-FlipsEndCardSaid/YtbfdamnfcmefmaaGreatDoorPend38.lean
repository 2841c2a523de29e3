import Derived.Test.YtbfdamnfcmefmaaGreatDoorPend37
namespace Go.Proofs.YtbfdamnfcmefmaaGreatDoor
open Go Go.RowKit Go.Proofs.Tryz
open Go.Value renaming slice→qz,bool→qa
set_option linter.unusedVariables false
set_option linter.unusedSimpArgs false
section
set_option maxRecDepth 100000
theorem Hx:Pw prog 257 Jv Yj where
 law:=.of_law (deep_law_laid ZR (m:=2) jY (by decide +kernel) jV jV)
 key:=λa h=>M_ underlying257 ⟨rfl,rfl⟩ ⟨rfl,rfl⟩ (by decide +kernel) underlying3 jV jV jV (by decide +kernel) (OS h.1) (OS h.2)
 inj:=λa b h=>PS h
theorem L1 (x0:Tq3):Instr.fill (λi=>some (i*3,3)) ((Array.range (1*3)).map ((Value.agg (Af jJ).toArray).cells[·%(Value.agg (Af jJ).toArray).cells.size]!)) [(0,.agg (Af x0).toArray)]=some (Af x0).toArray:=by kernel_rfl
set_option maxHeartbeats 4000000 in
theorem Zl (ts:List T3) (x:RX (rowsL Af ts) ts.length) (pp:Option Addr) (N pc:Nat) (hn:Ba N ts=true) (hN:N<=4611686018427387904) (hl:ts.length<=1000000000) (w:World) {S:Nat->Prop} (hx:Ro S w x):Calls prog 138 #[(qz pp N pc),(qz x.p ts.length x.c)] w (E9 Ti (Yo (T:=80) (z:=3) (cs:=rowsL Af (Ea ts)) (n:=(Ea ts).length)) S w):=by
 have lx:=DT (W:=w) hx
 refine Ag (args:=[(qz pp N pc),(qz x.p ts.length x.c)]) (L:=[AN x.p (rowsL Af ts)]) func138 O O (A_ O) (DU hx Az) (zM (sL [0,1] O) (q4 (asg' O (oNl' (q1 (q4 (AL O (AL O (AD (v:=(vN N)) (AE O underlying32) O (C3 (args:=[(qz x.p ts.length x.c),(vN N)]) (v:=(qa true)) call103 (λw hw=>(by have h9:=Rt N ts x Z w (CL hw 0 O lx);rw [hn] at h9;exact h9)) O (AD (BE (c:=false) O O) O ?_)))))))))))
 refine oNl' (zB (sL [1,4,18] O) (zA (zS O (zC (q2 (yo Jv vN (AI O) O λb1=>asg' O (q6 (sL [1,4,5] O) (q4 (AL O (AD (v:=(vN ts.length)) (AE O underlying28) O ?_))))))))))
 refine AL O (oNl' (zA (zI ?_)))
 refine zy (tg λ(t:Nat)=>t<=ts.length) (tg λ(t:Nat)=>[(1,(qz x.p ts.length x.c)),(4,jj),(5,(Value.map (some b1))),(20,(qz x.p ts.length x.c)),(21,(vN ts.length)),(22,(vN t))]) (tg λ(t:Nat)=>[Dk b1 Jv vN (Cw ts (3*t+0)),AN x.p (rowsL Af ts)]) (tg λ(t:Nat)=>ts.length-t) 0 (xJ _) (sF O) sr (λt hJ=>?_)
 have ht:=hJ
 refine q4 (AD (Ab (c:=(decide (t<ts.length))) O O (DA (a:=t) (b:=ts.length))) O (oNl' (q1 ?_)))
 refine zK O (λhc1=>?_) (λhc1=>?_)
 ·replace hc1:=xT hc1
  obtain ⟨T,hT⟩:∃q,q=ts.getD t (0,0,0):=⟨_,rfl⟩
  obtain ⟨g1,g2,g3⟩:=Ct (Bw hn hc1)
  rw [<-hT] at g1 g2 g3
  refine zC (q1 (zI (q4 (AD (v:=(pP (pB x.p) (pO x.p+t*3))) (AO (j:=t) O O x.ok underlying28 sizeOf71 O Z) O (AD (v:=(aG (Af (ts.getD t jJ)))) (AM (vs:=Af (ts.getD t jJ)) (i:=1) O O (A8.ne x.ok Z) Ec (Ae Av _ _ _ Z) (Av _)) O (zL (k:=25) (u:=(aG (Af T))) O (by rw [hT]) (al J1 O λb2=>Ah O sizeOf71 O (q3 (sL [1,4,5,20,21,22,7] O) (AL O (oNl' ?_))))))))))
  refine zA (zI (yD 4 (zZ (q4 (AD (Ab (c:=true) O O jY) O (oNl' (q1 (zV O (zC (q1 (zI ?_)))))))))))
  refine q4 (AL O (asg' O (q6 (sL [1,4,5,20,21,22,7,26,8] O) (C8 (El 10) sr (Bp O (Al (v:=(pP b2 0)) O (AB (j:=0) O O underlying71 sizeOf3 O jY O) (BQ 0 (vN T.1) Bk O (Bp O (Al O (AS (c:=(1:Int)) O O jY) (Al O (CE (c:=(1:Int)) O O jY jY) (Al (v:=(pP b2 1)) O (AB (j:=1) O O underlying71 sizeOf3 O jY O) ?_)))))))))))
  refine BQ 0 (vN T.2.1) Bk O (pS' O (pS' O (zQ (zB (sL [1,4,5,20,21,22,7,26,9,10] O) (zA ?_)))))
  obtain ⟨vq1,hvq1⟩:∃q,q=(BR (Cw ts (3*t+0)) ((min T.1 T.2.1,max T.1 T.2.1):P2)).getD 0:=⟨_,rfl⟩
  refine dI [(0,true),(1,true),(2,true),(3,true),(4,true),(5,true),(6,true),(7,true),(8,true),(9,true),(10,false),(11,true)] 12 [] (eU 1 (x:=((min T.1 T.2.1,max T.1 T.2.1):P2)) (v:=vq1) O O) (List.nil_sublist _) jV (λ_ _ d _ _ h=>by cases d<;>exact h) (vM O O O (vM O O O (vM O O O (vE O (Gm (c:=((min T.1 T.2.1:Nat):Int)) O O (by split<;>omega)) O (vM O O O (vM O O O (vE O (GH (c:=((max T.1 T.2.1:Nat):Int)) O O (by split<;>omega)) O (vE (v:=(aG ([(vN (min T.1 T.2.1)),(vN (max T.1 T.2.1))]))) O (AQ (zs:=Ay ((0,0):P2)) (vs:=[(vN (min T.1 T.2.1)),(vN (max T.1 T.2.1))]) (pv:=[(0,(vN (min T.1 T.2.1))),(1,(vN (max T.1 T.2.1)))]) (places:=[(0,1),(1,1)]) zeroValue257 underlying257 (λw=>by simp [sizeOf3]) O O) O (vE (v:=(vN vq1)) O (Hv Hx 1 (kvs:=Cw ts (3*t+0)) (x:=((min T.1 T.2.1,max T.1 T.2.1):P2)) (z0:=0) O O underlying256 zeroValue3 O (Fd hn hN _ Z) (D8 Z Z) hvq1) O ?_)))))))))
  have hmq:=N6 (ts:=ts) (3*t+0) ((min T.1 T.2.1,max T.1 T.2.1):P2)
  refine vE O (AS (c:=((vq1+1:Nat):Int)) O O (AV (a:=vq1) (b:=1) Z)) O (zu O (yg Hx 1 (kvs:=Cw ts (3*t+0)) (x:=((min T.1 T.2.1,max T.1 T.2.1):P2)) (z0:=0) (v:=vq1) O O underlying256 zeroValue3 O (Fd hn hN _ Z) (D8 Z Z) hvq1 O (yj (bJ 1 O O) (vE O (AJ (v:=(vN (C_ (Cw ts (3*t+0)) ((min T.1 T.2.1,max T.1 T.2.1):P2)))) O O) O (yL O (yU 1 (kvs:=Cw ts (3*t+0)) (x:=((min T.1 T.2.1,max T.1 T.2.1):P2)) (u:=vq1) (y:=vq1+1) O O O O ?_))))))
  rw [show Bj (Cw ts (3*t+0)) ((min T.1 T.2.1,max T.1 T.2.1):P2) (vq1+1)=Cw ts (3*t+1) from by rw [hvq1,hT];exact (I3 (ts:=ts) (t:=t) (i:=0) Z).symm]
  refine zD (List.nil_sublist _) (zQ (zB (sL [1,4,5,20,21,22,7,26] O) (zF (zA (zH (AD (AS (c:=(1:Int)) O O jY) O (AL O (oNl' (zB (sL [1,4,5,20,21,22,7,26] O) (zk (zZ ?_)))))))))))
  refine q4 (AD (Ab (c:=true) O O jY) O (oNl' (q1 (zV O (zC (q1 (zI (q4 (AL O (asg' O (q6 (sL [1,4,5,20,21,22,7,26,8] O) ?_)))))))))))
  refine C8 (El 10) sr (Bp O (Al (v:=(pP b2 1)) O (AB (j:=1) O O underlying71 sizeOf3 O jY O) (BQ 0 (vN T.2.1) Bk O (Bp O (Al O (AS (c:=(2:Int)) O O jY) (Al O (CE (c:=(2:Int)) O O jY jY) (Al (v:=(pP b2 2)) O (AB (j:=2) O O underlying71 sizeOf3 O jY O) (BQ 0 (vN T.2.2) Bk O (pS' O (pS' O (zQ ?_)))))))))))
  refine zB (sL [1,4,5,20,21,22,7,26,9,10] O) (zA ?_)
  obtain ⟨vq2,hvq2⟩:∃q,q=(BR (Cw ts (3*t+1)) ((min T.2.1 T.2.2,max T.2.1 T.2.2):P2)).getD 0:=⟨_,rfl⟩
  refine dI [(0,true),(1,true),(2,true),(3,true),(4,true),(5,true),(6,true),(7,true),(8,true),(9,true),(10,false),(11,true)] 12 [] (eU 1 (x:=((min T.2.1 T.2.2,max T.2.1 T.2.2):P2)) (v:=vq2) O O) (List.nil_sublist _) jV (λ_ _ d _ _ h=>by cases d<;>exact h) (vM O O O (vM O O O (vM O O O (vE O (Gm (c:=((min T.2.1 T.2.2:Nat):Int)) O O (by split<;>omega)) O (vM O O O (vM O O O (vE O (GH (c:=((max T.2.1 T.2.2:Nat):Int)) O O (by split<;>omega)) O (vE (v:=(aG ([(vN (min T.2.1 T.2.2)),(vN (max T.2.1 T.2.2))]))) O (AQ (zs:=Ay ((0,0):P2)) (vs:=[(vN (min T.2.1 T.2.2)),(vN (max T.2.1 T.2.2))]) (pv:=[(0,(vN (min T.2.1 T.2.2))),(1,(vN (max T.2.1 T.2.2)))]) (places:=[(0,1),(1,1)]) zeroValue257 underlying257 (λw=>by simp [sizeOf3]) O O) O (vE (v:=(vN vq2)) O (Hv Hx 1 (kvs:=Cw ts (3*t+1)) (x:=((min T.2.1 T.2.2,max T.2.1 T.2.2):P2)) (z0:=0) O O underlying256 zeroValue3 O (Fd hn hN _ Z) (D8 Z Z) hvq2) O ?_)))))))))
  have hmq:=N6 (ts:=ts) (3*t+1) ((min T.2.1 T.2.2,max T.2.1 T.2.2):P2)
  refine vE O (AS (c:=((vq2+1:Nat):Int)) O O (AV (a:=vq2) (b:=1) Z)) O (zu O (yg Hx 1 (kvs:=Cw ts (3*t+1)) (x:=((min T.2.1 T.2.2,max T.2.1 T.2.2):P2)) (z0:=0) (v:=vq2) O O underlying256 zeroValue3 O (Fd hn hN _ Z) (D8 Z Z) hvq2 O (yj (bJ 1 O O) (vE O (AJ (v:=(vN (C_ (Cw ts (3*t+1)) ((min T.2.1 T.2.2,max T.2.1 T.2.2):P2)))) O O) O (yL O (yU 1 (kvs:=Cw ts (3*t+1)) (x:=((min T.2.1 T.2.2,max T.2.1 T.2.2):P2)) (u:=vq2) (y:=vq2+1) O O O O ?_))))))
  rw [show Bj (Cw ts (3*t+1)) ((min T.2.1 T.2.2,max T.2.1 T.2.2):P2) (vq2+1)=Cw ts (3*t+2) from by rw [hvq2,hT];exact (I3 (ts:=ts) (t:=t) (i:=1) Z).symm]
  refine zD (List.nil_sublist _) (zQ (zB (sL [1,4,5,20,21,22,7,26] O) (zF (zA (zH (AD (AS (c:=(2:Int)) O O jY) O (AL O (oNl' (zB (sL [1,4,5,20,21,22,7,26] O) (zk (zZ ?_)))))))))))
  refine q4 (AD (Ab (c:=true) O O jY) O (oNl' (q1 (zV O (zC (q1 (zI (q4 (AL O (asg' O (q6 (sL [1,4,5,20,21,22,7,26,8] O) ?_)))))))))))
  refine C8 (El 10) sr (Bp O (Al (v:=(pP b2 2)) O (AB (j:=2) O O underlying71 sizeOf3 O jY O) (BQ 0 (vN T.2.2) Bk O (Bp O (Al O (AS (c:=(3:Int)) O O jY) (Al O (CE (c:=(0:Int)) O O jY jY) (Al (v:=(pP b2 0)) O (AB (j:=0) O O underlying71 sizeOf3 O jY O) (BQ 0 (vN T.1) Bk O (pS' O (pS' O (zQ ?_)))))))))))
  refine zB (sL [1,4,5,20,21,22,7,26,9,10] O) (zA ?_)
  obtain ⟨vq3,hvq3⟩:∃q,q=(BR (Cw ts (3*t+2)) ((min T.2.2 T.1,max T.2.2 T.1):P2)).getD 0:=⟨_,rfl⟩
  refine dI [(0,true),(1,true),(2,true),(3,true),(4,true),(5,true),(6,true),(7,true),(8,true),(9,true),(10,false),(11,true)] 12 [] (eU 1 (x:=((min T.2.2 T.1,max T.2.2 T.1):P2)) (v:=vq3) O O) (List.nil_sublist _) jV (λ_ _ d _ _ h=>by cases d<;>exact h) (vM O O O (vM O O O (vM O O O (vE O (Gm (c:=((min T.2.2 T.1:Nat):Int)) O O (by split<;>omega)) O (vM O O O (vM O O O (vE O (GH (c:=((max T.2.2 T.1:Nat):Int)) O O (by split<;>omega)) O (vE (v:=(aG ([(vN (min T.2.2 T.1)),(vN (max T.2.2 T.1))]))) O (AQ (zs:=Ay ((0,0):P2)) (vs:=[(vN (min T.2.2 T.1)),(vN (max T.2.2 T.1))]) (pv:=[(0,(vN (min T.2.2 T.1))),(1,(vN (max T.2.2 T.1)))]) (places:=[(0,1),(1,1)]) zeroValue257 underlying257 (λw=>by simp [sizeOf3]) O O) O (vE (v:=(vN vq3)) O (Hv Hx 1 (kvs:=Cw ts (3*t+2)) (x:=((min T.2.2 T.1,max T.2.2 T.1):P2)) (z0:=0) O O underlying256 zeroValue3 O (Fd hn hN _ Z) (D8 Z Z) hvq3) O ?_)))))))))
  have hmq:=N6 (ts:=ts) (3*t+2) ((min T.2.2 T.1,max T.2.2 T.1):P2)
  refine vE O (AS (c:=((vq3+1:Nat):Int)) O O (AV (a:=vq3) (b:=1) Z)) O (zu O (yg Hx 1 (kvs:=Cw ts (3*t+2)) (x:=((min T.2.2 T.1,max T.2.2 T.1):P2)) (z0:=0) (v:=vq3) O O underlying256 zeroValue3 O (Fd hn hN _ Z) (D8 Z Z) hvq3 O (yj (bJ 1 O O) (vE O (AJ (v:=(vN (C_ (Cw ts (3*t+2)) ((min T.2.2 T.1,max T.2.2 T.1):P2)))) O O) O (yL O (yU 1 (kvs:=Cw ts (3*t+2)) (x:=((min T.2.2 T.1,max T.2.2 T.1):P2)) (u:=vq3) (y:=vq3+1) O O O O ?_))))))
  rw [show Bj (Cw ts (3*t+2)) ((min T.2.2 T.1,max T.2.2 T.1):P2) (vq3+1)=Cw ts (3*t+3) from by rw [hvq3,hT];exact (I3 (ts:=ts) (t:=t) (i:=2) Z).symm]
  refine zD (List.nil_sublist _) (zQ (zB (sL [1,4,5,20,21,22,7,26] O) (zF (zA (zH (AD (AS (c:=(3:Int)) O O jY) O (AL O (oNl' (zB (sL [1,4,5,20,21,22,7,26] O) (zk (zZ ?_)))))))))))
  refine q4 (AD (Ab (c:=false) O O jY) O (oNl' (q1 (zS O (zU (zO (zO (zP (zF (zA (zH ?_)))))))))))
  refine AD (AS (c:=((t+1:Nat):Int)) O O (AV (a:=t) (b:=1) Z)) O (AL O (oNl' (zB (sL [1,4,5,20,21,22,7,26] O) ?_)))
  rw [show 3*t+3=3*(t+1)+0 by omega]
  exact zm (t+1) Z Z (sF O) (sl sr)
 ·replace hc1:=xS hc1
  have htl:t=ts.length:=by omega
  refine zU (zO (zY (zP (q2 (asg' O (z6 80 3 (oNl' (q1 (q4 (AL O ?_))))))))))
  rw [show Cw ts (3*t+0)=(Cw ts (3*ts.length)) by rw [htl,Nat.add_zero]]
  refine cX (S:=S) (cs:=rowsL Bn (BK ts)) (k:=(BK ts).length) (args:=[(qz x.p ts.length x.c)]) call47 (λw hw=>Uv ts x N hn hN hl w (CL hw 2 O lx)) O O O λo lo=>AD (v:=(vN ((BK ts).length))) (AE O underlying51) O (AL O (oNl' (zB (sL [1,4,5,20,21,22,11,52,53,54] O) (zA (zI ?_)))))
  refine yR (tg λ(i:Nat) (p1:Option Addr) (c1:Nat) (out:List T3)=>i<=(BK ts).length/\OwnOk p1 out.length c1/\out=Jx ts i) (tg λ(i:Nat) (p1:Option Addr) (c1:Nat) (out:List T3)=>[(4,jj),(5,(Value.map (some b1))),(52,(qz o.p ((BK ts).length) o.c)),(53,(vN ((BK ts).length))),(54,(vN i)),(11,(qz p1 out.length c1))]) (tg λ(i:Nat) (p1:Option Addr) (c1:Nat) (out:List T3)=>[AN o.p (rowsL Bn (BK ts)),rowW p1 80 3 out.length c1 (rowsL Af out),Dk b1 Jv vN (Cw ts (3*ts.length)),AN x.p (rowsL Af ts)]) (tg λ(i:Nat) (p1:Option Addr) (c1:Nat) (out:List T3)=>(BK ts).length-i) 0 none 0 ([]:List T3) (⟨xJ _,OwnOk.none,rfl⟩) (sF O) sr (λi p1 c1 out hJ=>?_)
  obtain ⟨hi,ho,hou⟩:=hJ
  have hol:=WI (ts:=ts) i
  rw [<-hou] at hol
  refine q4 (AD (Ab (c:=(decide (i<((BK ts).length)))) O O (DA (a:=i) (b:=(BK ts).length))) O (oNl' (q1 ?_)))
  refine zK O (λhc3=>?_) (λhc3=>?_)
  ·replace hc3:=xT hc3
   have hel:=KB (ts:=ts) (3*ts.length)
   rw [<-J_] at hel
   have hmem:((BK ts).getD i jA)∈BK ts:=by rw [List.getD,xP hc3];exact List.getElem_mem hc3
   obtain ⟨hea,heb⟩:=Uu hn hN _ hmem
   refine zC (q1 (zI (q4 (AD (v:=(pP (pB o.p) (pO o.p+i*4))) (AO (j:=i) O O o.ok underlying51 sizeOf54 O Z) O (AD (v:=(aG (Bn ((BK ts).getD i jA)))) (AM (vs:=Bn ((BK ts).getD i jA)) (i:=0) O O (A8.ne o.ok Z) IB (Ae C9 _ _ _ Z) (C9 _)) O (al JN O λb2=>Ah O sizeOf54 O (q3 (sL [4,5,52,53,54,11,13] O) (AL O (AD (v:=(pP b2 0)) (AA O underlying54 O sizeOf3 O) O (BG 0 (vN (((BK ts).getD i jA).a)) Bk O ?_))))))))))
   refine AD (v:=(pP b2 1)) (AA O underlying54 O sizeOf3 O) O (BG 0 (vN (((BK ts).getD i jA).b)) Bk O (AD (v:=(aG ([(vN (((BK ts).getD i jA).a)),(vN (((BK ts).getD i jA).b))]))) (AQ (zs:=Ay ((0,0):P2)) (vs:=[(vN (((BK ts).getD i jA).a)),(vN (((BK ts).getD i jA).b))]) (pv:=[(0,(vN (((BK ts).getD i jA).a))),(1,(vN (((BK ts).getD i jA).b)))]) (places:=[(0,1),(1,1)]) zeroValue257 underlying257 (λw=>by simp [sizeOf3]) O O) O (AD (v:=(vN ((BR (Cw ts (3*ts.length)) ((((BK ts).getD i jA).a,((BK ts).getD i jA).b):P2)).getD 0))) (HN Hx 3 (eV:=vN) (kvs:=(Cw ts (3*ts.length))) (x:=((((BK ts).getD i jA).a,((BK ts).getD i jA).b):P2)) (z0:=0) (co:=false) O O underlying256 zeroValue3 O (Fd hn hN _ Z) (aT Z Z)) O (AD (BM (c:=(decide (((BR (Cw ts (3*ts.length)) ((((BK ts).getD i jA).a,((BK ts).getD i jA).b):P2)).getD 0)=1))) O O (O5 (a:=(BR (Cw ts (3*ts.length)) ((((BK ts).getD i jA).a,((BK ts).getD i jA).b):P2)).getD 0) (b:=1))) O (oNl' (zB (sL [4,5,52,53,54,11,13,65] O) (zA ?_)))))))
   refine zK O (λhc4=>?_) (λhc4=>?_)
   ·replace hc4:=xT hc4
    refine zH (AL O (AD (v:=(pP b2 0)) (AA O underlying54 O sizeOf3 O) O (BG 0 (vN (((BK ts).getD i jA).a)) Bk O (AD (v:=(pP b2 1)) (AA O underlying54 O sizeOf3 O) O (BG 0 (vN (((BK ts).getD i jA).b)) Bk O (AD (v:=(aG ([(vN (((BK ts).getD i jA).a)),(vN (((BK ts).getD i jA).b)),(vI 0)]))) (AQ (zs:=Af jJ) (vs:=[(vN (((BK ts).getD i jA).a)),(vN (((BK ts).getD i jA).b)),(vI 0)]) (pv:=[(0,(vN (((BK ts).getD i jA).a))),(1,(vN (((BK ts).getD i jA).b)))]) (places:=[(0,1),(1,1),(2,1)]) zeroValue80 underlying80 (λw=>by simp [sizeOf3]) O O) O (ze (V:=λb3=>(qz (jk b3) 1 1)) (T:=80) (cs:=Af (((BK ts).getD i jA).a,((BK ts).getD i jA).b,0)) (AI O) (Ax (z:=.agg (Af jJ).toArray) (cs:=Af (((BK ts).getD i jA).a,((BK ts).getD i jA).b,0)) (pv:=[(0,(aG ([(vN (((BK ts).getD i jA).a)),(vN (((BK ts).getD i jA).b)),(vI 0)])))]) underlying29 sizeOf80 zeroValue80 jY jY O (L1 (((BK ts).getD i jA).a,((BK ts).getD i jA).b,0))) O (A_ O) λb3=>zw 3 (j:=0) (cs2:=rowsL Af (out++[(((BK ts).getD i jA).a,((BK ts).getD i jA).b,0)])) bA O ho (AZ Av _) O O O O O jY (Ma Z) Z (by rw [Bb];rfl) O λp_1 c_1 ho_1 hne_1=>asg' O (oNl' (zB (sL [4,5,52,53,54,11,13] O) ?_)))))))))
    refine zF (zA (zH (AD (AS (c:=((i+1:Nat):Int)) O O (AV (a:=i) (b:=1) Z)) O (AL O (oNl' (zB (sL [4,5,52,53,54,11,13] O) ?_))))))
    rw [show out.length+1=(out++[(((BK ts).getD i jA).a,((BK ts).getD i jA).b,0)]).length by simp]
    exact z8 (i+1) p_1 c_1 (out++[(((BK ts).getD i jA).a,((BK ts).getD i jA).b,0)]) (⟨Z,(by simpa using ho_1),by rw [hou];exact (WJ Z hc4).symm⟩) Z (sF O) (sl (sl sr))
   ·replace hc4:=xS hc4
    exact zC (zF (zA (zH (AD (AS (c:=((i+1:Nat):Int)) O O (AV (a:=i) (b:=1) Z)) O (AL O (oNl' (zB (sL [4,5,52,53,54,11,13] O) (z8 (i+1) p1 c1 out (⟨Z,ho,by rw [hou];exact (Yx Z hc4).symm⟩) Z (sF O) (sl sr)))))))))
  ·replace hc3:=xS hc3
   exact zU (zO (yC (zP (q2 (AL O (ck' call79 (Ov p1 out.length c1 ho.row.le) O (asg' O (oNl' (zB (sL [4,5,52,53,54,11] O) (zA (zG (ret_one O (rd_tmp (v:=(qz p1 out.length out.length)) O) (λw hw=>(by rw [show Ea ts=out by rw [hou,show i=(BK ts).length by omega];rfl];exact PV hw (OX.mk p1 c1 ho) (sl (sk (sl (sl sr)))) (IL.own O IL.nil) O))))))))))))))
end
section
set_option maxRecDepth 100000
theorem Zf (us:List Bool) (n:Nat) (x:RX (bL us) n) (hn:us.length=n) (hl:n<=1000000) (hu:∀j,j<n->us.getD j false=true) (w:World) {S:Nat->Prop} (hx:Ro S w x):Calls prog 182 #[(qz x.p n x.c),(qa false)] w (Ac w (vI (-1:Int))):=by
 have lx:=DT (W:=w) hx
 refine Ag (args:=[(qz x.p n x.c),(qa false)]) (L:=[AN x.p (bL us)]) func182 O O (A_ O) (DU hx Az) (zM (sL [0,1] O) (q4 (asg' O (oNl' (q1 (q4 (AL O (AD (v:=(vN n)) (AE O underlying200) O (AL O (oNl' (zB (sL [0,1,4,7,8] O) ?_)))))))))))
 refine zA (zI ?_)
 refine zy (tg λ(j:Nat)=>j<=n) (tg λ(j:Nat)=>[(0,(qz x.p n x.c)),(1,(qa false)),(7,(vN n)),(8,(vN j))]) (tg λ(j:Nat)=>[AN x.p (bL us)]) (tg λ(j:Nat)=>n-j) 0 (xJ _) (sF O) sr (λj hJ=>?_)
 have hj:=hJ
 refine q4 (AD (Ab (c:=(decide (j<n))) O O (DA (a:=j) (b:=n))) O (oNl' (q1 ?_)))
 refine zK O (λhc0=>?_) (λhc0=>?_)
 ·replace hc0:=xT hc0
  refine zC (q1 (zI (q4 (AL O (asg' O (q3 (sL [0,1,7,8,5] O) (AL O (AL O (AL O (AD (v:=(pP (pB x.p) (pO x.p+j*1))) (AO (j:=j) O O x.ok underlying200 sizeOf4 O Z) O (AD (BA (v:=(qa (us.getD j false))) (i:=0) O O (x.ok.ne Z) Wn (Zr (us:=us) (j:=j) Z)) O ?_)))))))))))
  refine AD (JZ (c:=false) O O underlying4 (by rw [hu j Z];rfl)) O (oNl' (zB (sL [0,1,7,8,5,16] O) (zA (zS O (zC (zF (zA (zH (AD (AS (c:=((j+1:Nat):Int)) O O (AV (a:=j) (b:=1) Z)) O (AL O (oNl' ?_)))))))))))
  exact zB (sL [0,1,7,8,5] O) (zm (j+1) Z Z (sF O) sr)
 ·replace hc0:=xS hc0
  exact zU (zO (zY (zP (q2 (asg' O (oNl' (zA (zG (ret_one O (rd_tmp (v:=(vI (-1:Int))) O) (λw hw=>⟨rfl,hw.out⟩))))))))))
theorem Tn (us:List Bool) (n:Nat) (x:RX (bL us) n) (hn:us.length=n) (hl:n<=1000000) (hu:∀j,j<n->us.getD j false=true) (w:World) {S:Nat->Prop} (hx:Ro S w x):Calls prog 129 #[(qz x.p n x.c),(qa false)] w (Ac w (qa false)):=by
 have lx:=DT (W:=w) hx
 refine Ag (args:=[(qz x.p n x.c),(qa false)]) (L:=[AN x.p (bL us)]) func129 O O (A_ O) (DU hx Az) (zM (sL [0,1] O) (q4 (asg' O (oNl' (q2 (AL O (AL O (C3 call182 (λw hw=>Zf us n x hn hl hu w (CL hw 0 O lx)) O (AD (D1 (c:=false) O O jY) O (asg' O (oNl' ?_)))))))))))
 exact zB (sL [4] O) (zA (zG (ret_one O (rd_tmp (v:=(qa false)) O) (λw hw=>⟨rfl,hw.out⟩))))
theorem Pq (ys:List Pt) (n:Nat) (x:RX (rowsL Aa ys) n) (hn:ys.length=n) (hl:n<=1000000) (hy:ys.Nodup) (w:World) {S:Nat->Prop} (hx:Ro S w x):Calls prog 133 #[(qz x.p n x.c)] w (Ac w (qz x.p n x.c)):=by
 have lx:=DT (W:=w) hx
 refine Ag (args:=[(qz x.p n x.c)]) (L:=[AN x.p (rowsL Aa ys)]) func133 O O (A_ O) (DU hx Az) (zM (sL [0] O) (q4 (asg' O (oNl' (q1 (q4 (AL O (AD (v:=(vN n)) (AE O underlying32) O (AD (Ab (c:=(decide (n<2))) O O (DA (a:=n) (b:=2))) O (oNl' (zB (sL [0,2,8] O) ?_)))))))))))
 refine zA ?_
 refine zK O (λhc0=>?_) (λhc0=>?_)
 ·replace hc0:=xT hc0
  exact q4 (AL O (asg' O (oNl' (zB (sL [0,2] O) (zA (zG (zJ (ret_one O (rd_tmp (v:=(qz x.p n x.c)) O) (λw hw=>⟨rfl,hw.out⟩)))))))))
 ·replace hc0:=xS hc0
  refine zC (q1 (q4 (asg' O (oNl' (zA (zI ?_))))))
  refine zy (tg λ(k:Nat)=>1<=k/\k<=n) (tg λ(k:Nat)=>[(0,(qz x.p n x.c)),(3,(vN k))]) (tg λ(k:Nat)=>[AN x.p (rowsL Aa ys)]) (tg λ(k:Nat)=>n-k) 1 (⟨Nat.le_refl _,Z⟩) (sF O) sr (λk hJ=>?_)
  obtain ⟨hk1,hk⟩:=hJ
  refine zX (q4 (AL O (AL O (AD (v:=(vN n)) (AE O underlying32) O (AD (Ab (c:=(decide (k<n))) O O (DA (a:=k) (b:=n))) O (oNl' (zB (sL [0,3,13] O) (zA ?_))))))))
  refine zK O (λhc1=>?_) (λhc1=>?_)
  ·replace hc1:=xT hc1
   refine zC (q1 (zI (zX (C8 (El 10) sr (Bp O (Bp O (Al (v:=(pP (pB x.p) (pO x.p+k*10))) O (AO (j:=k) O O x.ok underlying32 sizeOf78 O Z) (Al (v:=(aG (Aa (ys.getD k (⟨0,0⟩:Pt))))) O (AM (vs:=Aa (ys.getD k (⟨0,0⟩:Pt))) (i:=0) O O (A8.ne x.ok Z) A9 (Ae Ap _ _ _ Z) (Ap _)) (Bp O (Bp O (Al O (Bt (c:=((k-1:Nat):Int)) O O (CH (a:=k) (b:=1) Z Z)) ?_)))))))))))
   refine Al (v:=(pP (pB x.p) (pO x.p+(k-1)*10))) O (AO (j:=k-1) O O x.ok underlying32 sizeOf78 O Z) (Al (v:=(aG (Aa (ys.getD (k-1) (⟨0,0⟩:Pt))))) O (AM (vs:=Aa (ys.getD (k-1) (⟨0,0⟩:Pt))) (i:=0) O O (A8.ne x.ok Z) A9 (Ae Ap _ _ _ Z) (Ap _)) (Al O (Bu (c:=decide (ys.getD k (⟨0,0⟩:Pt)=ys.getD (k-1) (⟨0,0⟩:Pt))) O O eqGuardType78 (Uw 9994 (ys.getD k (⟨0,0⟩:Pt)) (ys.getD (k-1) (⟨0,0⟩:Pt)))) (zQ (zB (sL [0,3,25] O) (zA ?_)))))
   refine zK O (λhc2=>?_) (λhc2=>?_)
   ·replace hc2:=xT hc2
    exact (S0 hy Z Z hc2).elim
   ·replace hc2:=xS hc2
    exact zC (zF (zA (zH (AL O (AD (AS (c:=((k+1:Nat):Int)) O O (AV (a:=k) (b:=1) Z)) O (asg' O (oNl' (zB (sL [0,3] O) (zm (k+1) (⟨Z,Z⟩) Z (sF O) sr)))))))))
  ·replace hc1:=xS hc1
   exact zU (zO (zY (zP (q2 (AL O (asg' O (oNl' (zB (sL [0,3,2] O) (zA (zG (ret_one O (rd_tmp (v:=(qz x.p n x.c)) O) (λw hw=>⟨rfl,hw.out⟩))))))))))))
theorem ci:T9 prog 200 4 (.bool false) 1:=⟨underlying200,_,_,rfl,rfl,rfl,rfl,rfl⟩
set_option maxHeartbeats 1000000 in
theorem Yl {ps:List Pt} {ts ss:List T3} (x:MX ps ts ss) (hv:Eo ps ts ss) (w:World) {S:Nat->Prop} (hx:Ro S w x):Calls prog 63 #[(aG (Cf x))] w (Ac w (qa true)):=by
 have hp:=hv.pl
 have htl:=hv.tl
 have hsl:=hv.sl
 have h0:=hv.t0
 have hbp:∀p∈ps,Bl p<=1000:=λp hp=>by obtain ⟨j,hj,rfl⟩:=List.getElem_of_mem hp;have h9:=hv.sz j;rwa [cor,List.getD,xP hj] at h9
 have hps0:0<ps.length:=by have h9:=(Ct (Bw hv.num hv.t0)).1;omega
 have lx:=DT (W:=w) hx
 refine Ag (args:=[(aG (Cf x))]) (L:=[AN x.a.p (rowsL Aa ps),AN x.b.p (rowsL Af ts),AN x.c.p (rowsL Af ss)]) func63 O O (A_ O) (DU hx Az) (zM (sL [0] O) (q4 (BV (cs:=Cf x) O λb1=>asg' O (q3 (sL [1,2] O) (AD (v:=(pP b1 0)) (AA O underlying34 O sizeOf32 O) O (BG 0 (qz x.a.p ps.length x.a.c) C2 O (AD (v:=(vN ps.length)) (AE O underlying32) O ?_)))))))
 refine AR.makeBool (m:=ps.length) ci O O Z O O ?_;intro bm hbm;rw [TV ts ps.length]
 refine asg' O (q6 (sL [1,2,3] O) (q4 (AD (v:=(pP b1 1)) (AA O underlying34 O sizeOf28 O) O (BG 1 (qz x.b.p ts.length x.b.c) C5 O (AD (v:=(vN ts.length)) (AE O underlying28) O (AL O (oNl' (zB (sL [1,2,3,12,13,14] O) (zA (zI ?_))))))))))
 refine zy (tg λ(t:Nat)=>t<=ts.length) (tg λ(t:Nat)=>[(1,(pP b1 0)),(2,(qa false)),(3,(qz (jk bm) ps.length ps.length)),(12,(qz x.b.p ts.length x.b.c)),(13,(vN ts.length)),(14,(vN t))]) (tg λ(t:Nat)=>[rowW (jk bm) 4 1 ps.length ps.length (bL (L9 ts ps.length t)),AY b1 34 (Cf x),AN x.a.p (rowsL Aa ps),AN x.b.p (rowsL Af ts),AN x.c.p (rowsL Af ss)]) (tg λ(t:Nat)=>ts.length-t) 0 (xJ _) (sF O) sr (λt hJ=>?_)
 have ht:=hJ
 refine q4 (AD (Ab (c:=(decide (t<ts.length))) O O (DA (a:=t) (b:=ts.length))) O (oNl' (q1 ?_)))
 refine zK O (λhc0=>?_) (λhc0=>?_)
 ·replace hc0:=xT hc0
  obtain ⟨T,hT⟩:∃q,q=ts.getD t (0,0,0):=⟨_,rfl⟩
  obtain ⟨g1,g2,g3⟩:=Ct (Bw hv.num hc0)
  rw [<-hT] at g1 g2 g3
  refine zC (q1 (zI (q4 (AD (v:=(pP (pB x.b.p) (pO x.b.p+t*3))) (AO (j:=t) O O x.b.ok underlying28 sizeOf71 O Z) O (AD (v:=(aG (Af (ts.getD t jJ)))) (AM (vs:=Af (ts.getD t jJ)) (i:=3) O O (A8.ne x.b.ok Z) Ec (Ae Av _ _ _ Z) (Av _)) O (zL (k:=17) (u:=(aG (Af T))) O (by rw [hT]) (al J1 O λb2=>Ah O sizeOf71 O (oNl' (zB (sL [1,2,3,12,13,14,5] O) (zA ?_))))))))))
  refine C8 (El 10++[(10,false),(11,true),(12,false),(13,true),(14,false)]) (sk (sl sr)) (Bp O (Al (v:=(pP b2 0)) O (AB (j:=0) O O underlying71 sizeOf3 O jY O) (BQ 0 (vN T.1) Bk O (Bp O (Al (v:=(pP b2 1)) O (AB (j:=1) O O underlying71 sizeOf3 O jY O) (BQ 0 (vN T.2.1) Bk O (Bp O (Al (v:=(pP b2 2)) O (AB (j:=2) O O underlying71 sizeOf3 O jY O) (BQ 0 (vN T.2.2) Bk O (Al (v:=(pP (pB (jk bm)) (pO (jk bm)+T.1*1))) O (AO (j:=T.1) O O hbm.row underlying200 sizeOf4 O Z) (zN O ?_)))))))))))
  refine yY (j:=T.1) (v:=(qa true)) O O hbm (by rw [NT,Nat.mul_one];simp [HA]) Z O sizeOf4 O (P0 _ _ _) (zD (sk (sl sr)) (Al (v:=(pP (pB (jk bm)) (pO (jk bm)+T.2.1*1))) O (AO (j:=T.2.1) O O hbm.row underlying200 sizeOf4 O Z) (zN O (yY (j:=T.2.1) (v:=(qa true)) O O hbm (by rw [NT,Nat.mul_one];simp [HA]) Z O sizeOf4 O (P0 _ _ _) (zD (sk (sl sr)) (Al (v:=(pP (pB (jk bm)) (pO (jk bm)+T.2.2*1))) O (AO (j:=T.2.2) O O hbm.row underlying200 sizeOf4 O Z) (zN O (yY (j:=T.2.2) (v:=(qa true)) O O hbm (by rw [NT,Nat.mul_one];simp [HA]) Z O sizeOf4 O (P0 _ _ _) (zD (sk (sl sr)) (zQ (zB (sL [1,2,3,12,13,14,5] O) ?_)))))))))))
  refine zF (zA (zH (AD (AS (c:=((t+1:Nat):Int)) O O (AV (a:=t) (b:=1) Z)) O (AL O (oNl' (zB (sL [1,2,3,12,13,14,5] O) ?_))))))
  rw [hT,TU Z]
  exact zm (t+1) Z Z (sF O) (sl sr)
 ·replace hc0:=xS hc0
  have htt:t=ts.length:=by omega
  refine zU (zO (zY (zP (q1 (q4 (AL O (zx 0 O hbm (by rw [NT,Nat.mul_one];simp [HA]) O O λhn_US=>C3 call129 (λw hw=>Tn (L9 ts ps.length t) ps.length ⟨(jk bm),ps.length,hbm.row⟩ (HA _ _ _) Z (λj hj=>by rw [htt];exact Wz hj (hv.use j hj)) w (CL (S:=S) hw 0 O (At.new hn_US))) O (oNl' (zB (sL [1,2,3,12,13,14,32] O) (zA ?_))))))))))
  refine zS O (zC (q2 (AD (v:=(pP b1 0)) (AA O underlying34 O sizeOf32 O) O (BG 1 (qz x.a.p ps.length x.a.c) C2 O (yH (S:=S) (V:=aV) (LW:=Yo (T:=78) (z:=10) (cs:=rowsL Aa ps) (n:=ps.length)) (args:=[(qz x.a.p ps.length x.a.c)]) call76 (λw hw=>Mr ps x.a Z w (cO (CL hw 2 O lx))) O λcl1 hcl1=>asg' O (q3 (sL [1,2,3,12,13,14,6] O) (AL O ?_)))))))
  have hpn:cl1.p≠none:=λe=>by have:=(cl1.ok.nil e).1;omega
  refine AR.callWX 0 (α:=List Pt) (K:=λys=>ys.Perm ps) (cs':=λys=>rowsL Aa ys) (v:=(Value.tuple #[])) (AI O) (Am (args:=[(qz cl1.p ps.length cl1.c),(Value.func (.func 131) #[] #[])]) O O call130) O (λw hw=>Wc ps _ _ _ 78 cl1.ok hpn O Z hbp w (hw.holds (i:=0) O)) (λd hd=>by cases hd<;>exact (A_ O)) λys hys=>?_
  have hyl:=hys.length_eq
  refine zx 0 O cl1.ok (by rw [AZ Ap,hyl]) O O λhn_cl1=>q6 (sL [1,2,3,12,13,14,6] O) (C8 [(0,true),(3,true),(4,true),(5,true),(1,false),(2,true),(6,true),(7,true)] sr (Bp O (Al (v:=(pP b1 0)) O (AA O underlying34 O sizeOf32 O) (BQ 2 (qz x.a.p ps.length x.a.c) C2 O (Al (v:=(vN ps.length)) O (AE O underlying32) (zN O (C3 call133 (λw hw=>Pq ys ps.length ⟨cl1.p,cl1.c,cl1.ok.row⟩ hyl Z (hys.nodup_iff.2 hv.dst) w (CL (S:=S) hw 0 O (At.new hn_cl1))) O (zD sr (Al (v:=(vN ps.length)) O (AE O underlying32) (Al O (BM (c:=true) O O (xI O)) ?_))))))))))
  exact pS' O (zQ (zB (sL [1,2,3,12,13,14,6] O) (zA (zG (ret_one O (rd_tmp (v:=(qa true)) O) (λw hw=>⟨rfl,hw.out⟩))))))
theorem Yw (s r:T3) (h:s.1=r.1/\s.2.1=r.2.1) (w:World)  :Calls prog 139 #[(aG (Af s)),(aG (Af r))] w (Ac w (qa true)):=by
 refine AW (args:=[(aG (Af s)),(aG (Af r))]) func139 O O (A_ O) (zM (sL [0,1] O) (q4 (BV (cs:=Af s) O λb1=>BV (cs:=Af r) O λb2=>asg' O (q3 (sL [2,3,4] O) (AD (v:=(pP b1 0)) (AA O underlying80 O sizeOf3 O) O (BG 1 (vN s.1) Bk O (AD (v:=(pP b2 0)) (AA O underlying80 O sizeOf3 O) O (BG 0 (vN r.1) Bk O (AD (BM (c:=true) O O (xI Z)) O ?_)))))))))
 exact AL O (BI (v:=(pP b1 1)) O (AA O underlying80 O sizeOf3 O) (BI (v:=(vN s.2.1)) O (AH (i:=1) (v:=(vN s.2.1)) O O Bk.a O) (BI (v:=(pP b2 1)) O (AA O underlying80 O sizeOf3 O) (BI (v:=(vN r.2.1)) O (AH (i:=0) (v:=(vN r.2.1)) O O Bk.a O) (BI (v:=(qa true)) O (BM (c:=true) O O (xI Z)) (AD (v:=(qa true)) (AX O O) O (asg' O (oNl' (zB (sL [4] O) (zA (zG (ret_one O (rd_tmp (v:=(qa true)) O) (λw hw=>⟨rfl,hw.out⟩)))))))))))))
theorem WQ (xs ys:List T3) (x:RX (rowsL Af xs) xs.length) (y:RX (rowsL Af ys) ys.length) (hn:xs.length=ys.length) (hl:xs.length<=1000000) (hk:∀j,j<xs.length->(xs.getD j (0,0,0)).1=(ys.getD j (0,0,0)).1/\(xs.getD j (0,0,0)).2.1=(ys.getD j (0,0,0)).2.1) (w:World) {S:Nat->Prop} (hx:Ro S w x) (hy:Ro S w y):Calls prog 70 #[(qz x.p xs.length x.c),(qz y.p ys.length y.c),(Value.func (.func 139) #[] #[])] w (Ac w (qa true)):=by
 have lx:=DT (W:=w) hx
 have ly:=DT (W:=w) hy
 refine Ag (args:=[(qz x.p xs.length x.c),(qz y.p ys.length y.c),(Value.func (.func 139) #[] #[])]) (L:=[AN x.p (rowsL Af xs),AN y.p (rowsL Af ys)]) func70 O O (A_ O) (DU hx (DU hy Az)) (zM (sL [0,1,2] O) (q4 (asg' O (oNl' (q1 (q4 (AL O (AD (v:=(vN xs.length)) (AE O underlying29) O (AL O (AD (v:=(vN ys.length)) (AE O underlying29) O (AD (Bv (c:=false) O O (xH Z)) O ?_)))))))))))
 refine oNl' (zB (sL [0,1,2,6,12] O) (zA (zS O (zC (q1 (q4 (AL O (AD (v:=(vN xs.length)) (AE O underlying29) O (AL O (oNl' (zB (sL [0,1,2,6,14,15] O) ?_)))))))))))
 refine zA (zI ?_)
 refine zy (tg λ(j:Nat)=>j<=xs.length) (tg λ(j:Nat)=>[(0,(qz x.p xs.length x.c)),(1,(qz y.p ys.length y.c)),(2,(Value.func (.func 139) #[] #[])),(14,(vN xs.length)),(15,(vN j))]) (tg λ(j:Nat)=>[AN x.p (rowsL Af xs),AN y.p (rowsL Af ys)]) (tg λ(j:Nat)=>xs.length-j) 0 (xJ _) (sF O) sr (λj hJ=>?_)
 have hj:=hJ
 refine q4 (AD (Ab (c:=(decide (j<xs.length))) O O (DA (a:=j) (b:=xs.length))) O (oNl' (q1 ?_)))
 refine zK O (λhc1=>?_) (λhc1=>?_)
 ·replace hc1:=xT hc1
  refine zC (q1 (zI (q4 (AL O (asg' O (q6 (sL [0,1,2,14,15,7] O) (C8 (El 9++[(9,false),(10,true)]) sr (Bp O (Bp O (Bp O (Al (v:=(pP (pB x.p) (pO x.p+j*3))) O (AO (j:=j) O O x.ok underlying29 sizeOf80 O Z) ?_)))))))))))
  refine Al (v:=(aG (Af (xs.getD j jJ)))) O (AM (vs:=Af (xs.getD j jJ)) (i:=0) O O (A8.ne x.ok Z) Qy (Ae Av _ _ _ Z) (Av _)) (Bp O (Bp O (Al (v:=(pP (pB y.p) (pO y.p+j*3))) O (AO (j:=j) O O y.ok underlying29 sizeOf80 O Z) (Al (v:=(aG (Af (ys.getD j jJ)))) O (AM (vs:=Af (ys.getD j jJ)) (i:=1) O O (A8.ne y.ok Z) Qy (Ae Av _ _ _ Z) (Av _)) (zN O (ck' call139 (Yw _ _ (hk j Z)) O (zD sr (Al O (BE (c:=false) O O) (zQ (zB (sL [0,1,2,14,15,28] O) (zA ?_)))))))))))
  exact zS O (zC (zF (zA (zH (AD (AS (c:=((j+1:Nat):Int)) O O (AV (a:=j) (b:=1) Z)) O (AL O (oNl' (zB (sL [0,1,2,14,15] O) (zm (j+1) Z Z (sF O) sr)))))))))
 ·replace hc1:=xS hc1
  exact zU (zO (zY (zP (q2 (asg' O (oNl' (zA (zG (ret_one O (rd_tmp (v:=(qa true)) O) (λw hw=>⟨rfl,hw.out⟩))))))))))
theorem TA {ps:List Pt} {ts ss:List T3} (x:MX ps ts ss) (hv:Eo ps ts ss) (w:World) {S:Nat->Prop} (hx:Ro S w x):Calls prog 65 #[(aG (Cf x))] w (Ac w (qa true)):=by
 have hp:=hv.pl
 have htl:=hv.tl
 have hsl:=hv.sl
 have h0:=hv.t0
 have lx:=DT (W:=w) hx
 refine Ag (args:=[(aG (Cf x))]) (L:=[AN x.a.p (rowsL Aa ps),AN x.b.p (rowsL Af ts),AN x.c.p (rowsL Af ss)]) func65 O O (A_ O) (DU hx Az) (zM (sL [0] O) (q4 (BV (cs:=Cf x) O λb1=>asg' O (q6 (sL [1,2] O) (C8 (El 6++[(6,false),(7,false),(8,true)]) sr (Al (v:=(pP b1 2)) O (AA O underlying34 O sizeOf29 O) (BQ 0 (qz x.c.p ss.length x.c.c) Qz O (Al (v:=(pP b1 0)) O (AA O underlying34 O sizeOf32 O) (BQ 0 (qz x.a.p ps.length x.a.c) C2 O (Al (v:=(pP b1 1)) O (AA O underlying34 O sizeOf28 O) ?_))))))))))
 refine BQ 0 (qz x.b.p ts.length x.b.c) C5 O (zN O (yH (S:=S) (V:=Ti) (LW:=Yo (T:=80) (z:=3) (cs:=rowsL Af (Ea ts)) (n:=(Ea ts).length)) (args:=[(qz x.a.p ps.length x.a.c),(qz x.b.p ts.length x.b.c)]) call138 (λw hw=>Zl ts x.b x.a.p ps.length x.a.c hv.num Z Z w (aZ (CL hw 1 O lx))) O λrm hrm=>zx 0 O rm.ok (AZ Av _) O O λhn_rm=>zD (sl sr) (zN O (C3 call70 (λw hw=>WQ ss (Ea ts) x.c ⟨rm.p,(Ea ts).length,rm.ok.clip⟩ hv.rl Z hv.rim w (cP (CL hw 2 O lx)) (CL (S:=S) hw 0 O (At.new hn_rm))) O (zD (sl sr) (pS' O (zQ (zB (sL [2] O) (zA ?_)))))))))
 exact zG (ret_one O (rd_tmp (v:=(qa true)) O) (λw hw=>⟨rfl,hw.out⟩))
theorem Kb {ps:List Pt} {ts ss:List T3} (x:MX ps ts ss) (hv:Eo ps ts ss) (w:World) {S:Nat->Prop} (hx:Ro S w x):Calls prog 22 #[(aG (Cf x))] w (Ac w (vI 0)):=by
 have hp:=hv.pl
 have htl:=hv.tl
 have hsl:=hv.sl
 have h0:=hv.t0
 have lx:=DT (W:=w) hx
 refine Ag (args:=[(aG (Cf x))]) (L:=[AN x.a.p (rowsL Aa ps),AN x.b.p (rowsL Af ts),AN x.c.p (rowsL Af ss)]) func22 O O (A_ O) (DU hx Az) (zM (sL [0] O) (q4 (BV (cs:=Cf x) O λb1=>asg' O (q6 (sL [1,2] O) (zI (q4 (AD (v:=(pP b1 0)) (AA O underlying34 O sizeOf32 O) O (BG 0 (qz x.a.p ps.length x.a.c) C2 O (AD (v:=(vN ps.length)) (AE O underlying32) O (AD (Da (c:=false) O O (xH Z)) O ?_))))))))))
 refine AL O (BI (v:=(pP b1 1)) O (AA O underlying34 O sizeOf28 O) (BI (v:=(qz x.b.p ts.length x.b.c)) O (AH (i:=0) (v:=(qz x.b.p ts.length x.b.c)) O O C5.a O) (BI (v:=(vN ts.length)) O (AE O underlying28) (BI (v:=(qa false)) O (Da (c:=false) O O (xH Z)) (AD (v:=(qa false)) (AP O O) O (AL O (BI (v:=(pP b1 2)) O (AA O underlying34 O sizeOf29 O) (BI (v:=(qz x.c.p ss.length x.c.c)) O (AH (i:=0) (v:=(qz x.c.p ss.length x.c.c)) O O Qz.a O) (BI (v:=(vN ss.length)) O (AE O underlying29) (BI (v:=(qa false)) O (Da (c:=false) O O (xH Z)) (AD (v:=(qa false)) (AP O O) O ?_)))))))))))
 refine asg' O (oNl' (zB (sL [1,2,3] O) (zA (zS O (q4 (Ak 0 BY O (C3 call62 (λw hw=>XZ x hv w (CL hw 1 O lx)) O (AD (BE (c:=false) O O) O (asg' O (oNl' (zB (sL [1,2,20] O) ?_)))))))))))
 refine zA (zS O (q4 (Ak 0 BY O (C3 call63 (λw hw=>Yl x hv w (CL hw 1 O lx)) O (AD (BE (c:=false) O O) O (AL O (BI (v:=(aG (Cf x))) O (Ad (i:=0) (vs:=Cf x) O O BY.a BY.s O O) (zg (v:=(qa true)) (AU O) (Am (args:=[(aG (Cf x))]) O O call64) (λw hw=>UO x hv w (CL hw 1 O lx)) O (A_ O) (BI (v:=(qa false)) O (BE (c:=false) O O) (AD (v:=(qa false)) (AP O O) O (AL O ?_)))))))))))
 refine BI (v:=(aG (Cf x))) O (Ad (i:=0) (vs:=Cf x) O O BY.a BY.s O O) (zg (v:=(qa true)) (AU O) (Am (args:=[(aG (Cf x))]) O O call65) (λw hw=>TA x hv w (CL hw 1 O lx)) O (A_ O) (BI (v:=(qa false)) O (BE (c:=false) O O) (AD (v:=(qa false)) (AP O O) O (asg' O (oNl' (zB (sL [1,2,24] O) (zA (zS O (zC (zF (q2 ?_)))))))))))
 exact asg' O (oNl' (zB (sL [1,2] O) (zA (zG (ret_one O (rd_tmp (v:=(vI 0)) O) (λw hw=>⟨rfl,hw.out⟩))))))
end
end Go.Proofs.YtbfdamnfcmefmaaGreatDoor
