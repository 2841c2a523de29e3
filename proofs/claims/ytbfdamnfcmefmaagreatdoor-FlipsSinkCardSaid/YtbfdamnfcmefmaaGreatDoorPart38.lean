import Derived.Test.YtbfdamnfcmefmaaGreatDoorPart37
namespace Go.Proofs.YtbfdamnfcmefmaaGreatDoor
open Go Go.RowKit Go.Proofs.Tryz
open Go.Value renaming slice→qz,bool→qa
set_option linter.unusedVariables false
set_option linter.unusedSimpArgs false
section
set_option maxRecDepth 100000
theorem H7:Px prog 257 J4 YX where
 law:=.of_law (deep_law_laid ZJ (m:=2) jY (by decide +kernel) jV jV)
 key:=λa h=>NB underlying257 ⟨rfl,rfl⟩ ⟨rfl,rfl⟩ (by decide +kernel) underlying3 jV jV jV (by decide +kernel) (OY h.1) (OY h.2)
 inj:=λa b h=>PS h
theorem L6 (x0:Tq3):Instr.fill (λi=>some (i*3,3)) ((Array.range (1*3)).map ((Value.agg (Ad jJ).toArray).cells[·%(Value.agg (Ad jJ).toArray).cells.size]!)) [(0,.agg (Ad x0).toArray)]=some (Ad x0).toArray:=by kernel_rfl
set_option maxHeartbeats 4000000 in
theorem Ze (ts:List T3) (x:RX (rowsL Ad ts) ts.length) (pp:Option Addr) (N pc:Nat) (hn:BV N ts=true) (hN:N<=4611686018427387904) (hl:ts.length<=1000000000) (w:World) {S:Nat->Prop} (hx:Ro S w x):Calls prog 138 #[(qz pp N pc),(qz x.p ts.length x.c)] w (E9 Ti (Yc (T:=80) (z:=3) (cs:=rowsL Ad (Eh ts)) (n:=(Eh ts).length)) S w):=by
 have lx:=Db (W:=w) hx
 refine Ak (args:=[(qz pp N pc),(qz x.p ts.length x.c)]) (L:=[AP x.p (rowsL Ad ts)]) func138 O O (BE O) (De hx A_) (zM (sL [0,1] O) (q4 (asg' O (oNl' (q1 (q4 (AM O (AM O (AC (v:=(vN N)) (AE O underlying32) O (C7 (args:=[(qz x.p ts.length x.c),(vN N)]) (v:=(qa true)) call103 (λw hw=>(by have h9:=Rt N ts x Z w (Cd hw 0 O lx);rw [hn] at h9;exact h9)) O (AC (BG (c:=false) O O) O ?_)))))))))))
 refine oNl' (zB (sL [1,4,18] O) (zA (zP O (zC (q2 (yo J4 vN (AK O) O λb1=>asg' O (q6 (sL [1,4,5] O) (q4 (AM O (AC (v:=(vN ts.length)) (AE O underlying28) O ?_))))))))))
 refine AM O (oNl' (zA (zI ?_)))
 refine zw (tg λ(t:Nat)=>t<=ts.length) (tg λ(t:Nat)=>[(1,(qz x.p ts.length x.c)),(4,jj),(5,(Value.map (some b1))),(20,(qz x.p ts.length x.c)),(21,(vN ts.length)),(22,(vN t))]) (tg λ(t:Nat)=>[Dp b1 J4 vN (C0 ts (3*t+0)),AP x.p (rowsL Ad ts)]) (tg λ(t:Nat)=>ts.length-t) 0 (xK _) (sF O) sr (λt hJ=>?_)
 have ht:=hJ
 refine q4 (AC (Aa (c:=(decide (t<ts.length))) O O (DF (a:=t) (b:=ts.length))) O (oNl' (q1 ?_)))
 refine zL O (λhc1=>?_) (λhc1=>?_)
 ·replace hc1:=xU hc1
  obtain ⟨T,hT⟩:∃q,q=ts.getD t (0,0,0):=⟨_,rfl⟩
  obtain ⟨g1,g2,g3⟩:=DP (CQ hn hc1)
  rw [<-hT] at g1 g2 g3
  refine zC (q1 (zI (q4 (AC (v:=(pP (pB x.p) (pO x.p+t*3))) (AO (j:=t) O O x.ok underlying28 sizeOf71 O Z) O (AC (v:=(aG (Ad (ts.getD t jJ)))) (AI (vs:=Ad (ts.getD t jJ)) (i:=1) O O (Aw.ne x.ok Z) Bm (Ae An _ _ _ Z) (An _)) O (zK (k:=25) (u:=(aG (Ad T))) O (by rw [hT]) (al Hk O λb2=>Ah O sizeOf71 O (q3 (sL [1,4,5,20,21,22,7] O) (AM O (oNl' ?_))))))))))
  refine zA (zI (yC 4 (zZ (q4 (AC (Aa (c:=true) O O jY) O (oNl' (q1 (zV O (zC (q1 (zI ?_)))))))))))
  refine q4 (AM O (asg' O (q6 (sL [1,4,5,20,21,22,7,26,8] O) (C_ (Ek 10) sr (Bx O (Aj (v:=(pP b2 0)) O (AB (j:=0) O O underlying71 sizeOf3 O jY O) (BK 0 (vN T.1) BP O (Bx O (Aj O (AR (c:=(1:Int)) O O jY) (Aj O (B7 (c:=(1:Int)) O O jY jY) (Aj (v:=(pP b2 1)) O (AB (j:=1) O O underlying71 sizeOf3 O jY O) ?_)))))))))))
  refine BK 0 (vN T.2.1) BP O (pS' O (pS' O (zQ (zB (sL [1,4,5,20,21,22,7,26,9,10] O) (zA ?_)))))
  obtain ⟨vq1,hvq1⟩:∃q,q=(BU (C0 ts (3*t+0)) ((min T.1 T.2.1,max T.1 T.2.1):P2)).getD 0:=⟨_,rfl⟩
  refine cy [(0,true),(1,true),(2,true),(3,true),(4,true),(5,true),(6,true),(7,true),(8,true),(9,true),(10,false),(11,true)] 12 [] (eJ 1 (x:=((min T.1 T.2.1,max T.1 T.2.1):P2)) (v:=vq1) O O) (List.nil_sublist _) jV (λ_ _ d _ _ h=>by cases d<;>exact h) (vM O O O (vM O O O (vM O O O (vE O (Gt (c:=((min T.1 T.2.1:Nat):Int)) O O (by split<;>omega)) O (vM O O O (vM O O O (vE O (GL (c:=((max T.1 T.2.1:Nat):Int)) O O (by split<;>omega)) O (vE (v:=(aG ([(vN (min T.1 T.2.1)),(vN (max T.1 T.2.1))]))) O (AT (zs:=Ay ((0,0):P2)) (vs:=[(vN (min T.1 T.2.1)),(vN (max T.1 T.2.1))]) (pv:=[(0,(vN (min T.1 T.2.1))),(1,(vN (max T.1 T.2.1)))]) (places:=[(0,1),(1,1)]) zeroValue257 underlying257 (λw=>by simp [sizeOf3]) O O) O (vE (v:=(vN vq1)) O (H5 H7 1 (kvs:=C0 ts (3*t+0)) (x:=((min T.1 T.2.1,max T.1 T.2.1):P2)) (z0:=0) O O underlying256 zeroValue3 O (Fb hn hN _ Z) (D9 Z Z) hvq1) O ?_)))))))))
  have hmq:=N_ (ts:=ts) (3*t+0) ((min T.1 T.2.1,max T.1 T.2.1):P2)
  refine vE O (AR (c:=((vq1+1:Nat):Int)) O O (AS (a:=vq1) (b:=1) Z)) O (zr O (yg H7 1 (kvs:=C0 ts (3*t+0)) (x:=((min T.1 T.2.1,max T.1 T.2.1):P2)) (z0:=0) (v:=vq1) O O underlying256 zeroValue3 O (Fb hn hN _ Z) (D9 Z Z) hvq1 O (yj (az 1 O O) (vE O (AJ (v:=(vN (DE (C0 ts (3*t+0)) ((min T.1 T.2.1,max T.1 T.2.1):P2)))) O O) O (yJ O (yT 1 (kvs:=C0 ts (3*t+0)) (x:=((min T.1 T.2.1,max T.1 T.2.1):P2)) (u:=vq1) (y:=vq1+1) O O O O ?_))))))
  rw [show Bl (C0 ts (3*t+0)) ((min T.1 T.2.1,max T.1 T.2.1):P2) (vq1+1)=C0 ts (3*t+1) from by rw [hvq1,hT];exact (JD (ts:=ts) (t:=t) (i:=0) Z).symm]
  refine zG (List.nil_sublist _) (zQ (zB (sL [1,4,5,20,21,22,7,26] O) (zF (zA (zD (AC (AR (c:=(1:Int)) O O jY) O (AM O (oNl' (zB (sL [1,4,5,20,21,22,7,26] O) (zl (zZ ?_)))))))))))
  refine q4 (AC (Aa (c:=true) O O jY) O (oNl' (q1 (zV O (zC (q1 (zI (q4 (AM O (asg' O (q6 (sL [1,4,5,20,21,22,7,26,8] O) ?_)))))))))))
  refine C_ (Ek 10) sr (Bx O (Aj (v:=(pP b2 1)) O (AB (j:=1) O O underlying71 sizeOf3 O jY O) (BK 0 (vN T.2.1) BP O (Bx O (Aj O (AR (c:=(2:Int)) O O jY) (Aj O (B7 (c:=(2:Int)) O O jY jY) (Aj (v:=(pP b2 2)) O (AB (j:=2) O O underlying71 sizeOf3 O jY O) (BK 0 (vN T.2.2) BP O (pS' O (pS' O (zQ ?_)))))))))))
  refine zB (sL [1,4,5,20,21,22,7,26,9,10] O) (zA ?_)
  obtain ⟨vq2,hvq2⟩:∃q,q=(BU (C0 ts (3*t+1)) ((min T.2.1 T.2.2,max T.2.1 T.2.2):P2)).getD 0:=⟨_,rfl⟩
  refine cy [(0,true),(1,true),(2,true),(3,true),(4,true),(5,true),(6,true),(7,true),(8,true),(9,true),(10,false),(11,true)] 12 [] (eJ 1 (x:=((min T.2.1 T.2.2,max T.2.1 T.2.2):P2)) (v:=vq2) O O) (List.nil_sublist _) jV (λ_ _ d _ _ h=>by cases d<;>exact h) (vM O O O (vM O O O (vM O O O (vE O (Gt (c:=((min T.2.1 T.2.2:Nat):Int)) O O (by split<;>omega)) O (vM O O O (vM O O O (vE O (GL (c:=((max T.2.1 T.2.2:Nat):Int)) O O (by split<;>omega)) O (vE (v:=(aG ([(vN (min T.2.1 T.2.2)),(vN (max T.2.1 T.2.2))]))) O (AT (zs:=Ay ((0,0):P2)) (vs:=[(vN (min T.2.1 T.2.2)),(vN (max T.2.1 T.2.2))]) (pv:=[(0,(vN (min T.2.1 T.2.2))),(1,(vN (max T.2.1 T.2.2)))]) (places:=[(0,1),(1,1)]) zeroValue257 underlying257 (λw=>by simp [sizeOf3]) O O) O (vE (v:=(vN vq2)) O (H5 H7 1 (kvs:=C0 ts (3*t+1)) (x:=((min T.2.1 T.2.2,max T.2.1 T.2.2):P2)) (z0:=0) O O underlying256 zeroValue3 O (Fb hn hN _ Z) (D9 Z Z) hvq2) O ?_)))))))))
  have hmq:=N_ (ts:=ts) (3*t+1) ((min T.2.1 T.2.2,max T.2.1 T.2.2):P2)
  refine vE O (AR (c:=((vq2+1:Nat):Int)) O O (AS (a:=vq2) (b:=1) Z)) O (zr O (yg H7 1 (kvs:=C0 ts (3*t+1)) (x:=((min T.2.1 T.2.2,max T.2.1 T.2.2):P2)) (z0:=0) (v:=vq2) O O underlying256 zeroValue3 O (Fb hn hN _ Z) (D9 Z Z) hvq2 O (yj (az 1 O O) (vE O (AJ (v:=(vN (DE (C0 ts (3*t+1)) ((min T.2.1 T.2.2,max T.2.1 T.2.2):P2)))) O O) O (yJ O (yT 1 (kvs:=C0 ts (3*t+1)) (x:=((min T.2.1 T.2.2,max T.2.1 T.2.2):P2)) (u:=vq2) (y:=vq2+1) O O O O ?_))))))
  rw [show Bl (C0 ts (3*t+1)) ((min T.2.1 T.2.2,max T.2.1 T.2.2):P2) (vq2+1)=C0 ts (3*t+2) from by rw [hvq2,hT];exact (JD (ts:=ts) (t:=t) (i:=1) Z).symm]
  refine zG (List.nil_sublist _) (zQ (zB (sL [1,4,5,20,21,22,7,26] O) (zF (zA (zD (AC (AR (c:=(2:Int)) O O jY) O (AM O (oNl' (zB (sL [1,4,5,20,21,22,7,26] O) (zl (zZ ?_)))))))))))
  refine q4 (AC (Aa (c:=true) O O jY) O (oNl' (q1 (zV O (zC (q1 (zI (q4 (AM O (asg' O (q6 (sL [1,4,5,20,21,22,7,26,8] O) ?_)))))))))))
  refine C_ (Ek 10) sr (Bx O (Aj (v:=(pP b2 2)) O (AB (j:=2) O O underlying71 sizeOf3 O jY O) (BK 0 (vN T.2.2) BP O (Bx O (Aj O (AR (c:=(3:Int)) O O jY) (Aj O (B7 (c:=(0:Int)) O O jY jY) (Aj (v:=(pP b2 0)) O (AB (j:=0) O O underlying71 sizeOf3 O jY O) (BK 0 (vN T.1) BP O (pS' O (pS' O (zQ ?_)))))))))))
  refine zB (sL [1,4,5,20,21,22,7,26,9,10] O) (zA ?_)
  obtain ⟨vq3,hvq3⟩:∃q,q=(BU (C0 ts (3*t+2)) ((min T.2.2 T.1,max T.2.2 T.1):P2)).getD 0:=⟨_,rfl⟩
  refine cy [(0,true),(1,true),(2,true),(3,true),(4,true),(5,true),(6,true),(7,true),(8,true),(9,true),(10,false),(11,true)] 12 [] (eJ 1 (x:=((min T.2.2 T.1,max T.2.2 T.1):P2)) (v:=vq3) O O) (List.nil_sublist _) jV (λ_ _ d _ _ h=>by cases d<;>exact h) (vM O O O (vM O O O (vM O O O (vE O (Gt (c:=((min T.2.2 T.1:Nat):Int)) O O (by split<;>omega)) O (vM O O O (vM O O O (vE O (GL (c:=((max T.2.2 T.1:Nat):Int)) O O (by split<;>omega)) O (vE (v:=(aG ([(vN (min T.2.2 T.1)),(vN (max T.2.2 T.1))]))) O (AT (zs:=Ay ((0,0):P2)) (vs:=[(vN (min T.2.2 T.1)),(vN (max T.2.2 T.1))]) (pv:=[(0,(vN (min T.2.2 T.1))),(1,(vN (max T.2.2 T.1)))]) (places:=[(0,1),(1,1)]) zeroValue257 underlying257 (λw=>by simp [sizeOf3]) O O) O (vE (v:=(vN vq3)) O (H5 H7 1 (kvs:=C0 ts (3*t+2)) (x:=((min T.2.2 T.1,max T.2.2 T.1):P2)) (z0:=0) O O underlying256 zeroValue3 O (Fb hn hN _ Z) (D9 Z Z) hvq3) O ?_)))))))))
  have hmq:=N_ (ts:=ts) (3*t+2) ((min T.2.2 T.1,max T.2.2 T.1):P2)
  refine vE O (AR (c:=((vq3+1:Nat):Int)) O O (AS (a:=vq3) (b:=1) Z)) O (zr O (yg H7 1 (kvs:=C0 ts (3*t+2)) (x:=((min T.2.2 T.1,max T.2.2 T.1):P2)) (z0:=0) (v:=vq3) O O underlying256 zeroValue3 O (Fb hn hN _ Z) (D9 Z Z) hvq3 O (yj (az 1 O O) (vE O (AJ (v:=(vN (DE (C0 ts (3*t+2)) ((min T.2.2 T.1,max T.2.2 T.1):P2)))) O O) O (yJ O (yT 1 (kvs:=C0 ts (3*t+2)) (x:=((min T.2.2 T.1,max T.2.2 T.1):P2)) (u:=vq3) (y:=vq3+1) O O O O ?_))))))
  rw [show Bl (C0 ts (3*t+2)) ((min T.2.2 T.1,max T.2.2 T.1):P2) (vq3+1)=C0 ts (3*t+3) from by rw [hvq3,hT];exact (JD (ts:=ts) (t:=t) (i:=2) Z).symm]
  refine zG (List.nil_sublist _) (zQ (zB (sL [1,4,5,20,21,22,7,26] O) (zF (zA (zD (AC (AR (c:=(3:Int)) O O jY) O (AM O (oNl' (zB (sL [1,4,5,20,21,22,7,26] O) (zl (zZ ?_)))))))))))
  refine q4 (AC (Aa (c:=false) O O jY) O (oNl' (q1 (zP O (zU (zO (zO (zR (zF (zA (zD ?_)))))))))))
  refine AC (AR (c:=((t+1:Nat):Int)) O O (AS (a:=t) (b:=1) Z)) O (AM O (oNl' (zB (sL [1,4,5,20,21,22,7,26] O) ?_)))
  rw [show 3*t+3=3*(t+1)+0 by omega]
  exact zh (t+1) Z Z (sF O) (sl sr)
 ·replace hc1:=xT hc1
  have htl:t=ts.length:=by omega
  refine zU (zO (zX (zR (q2 (asg' O (zy 80 3 (oNl' (q1 (q4 (AM O ?_))))))))))
  rw [show C0 ts (3*t+0)=(C0 ts (3*ts.length)) by rw [htl,Nat.add_zero]]
  refine cX (S:=S) (cs:=rowsL Bd (BJ ts)) (k:=(BJ ts).length) (args:=[(qz x.p ts.length x.c)]) call47 (λw hw=>Ut ts x N hn hN hl w (Cd hw 2 O lx)) O O O λo lo=>AC (v:=(vN ((BJ ts).length))) (AE O underlying51) O (AM O (oNl' (zB (sL [1,4,5,20,21,22,11,52,53,54] O) (zA (zI ?_)))))
  refine yR (tg λ(i:Nat) (p1:Option Addr) (c1:Nat) (out:List T3)=>i<=(BJ ts).length/\OwnOk p1 out.length c1/\out=J6 ts i) (tg λ(i:Nat) (p1:Option Addr) (c1:Nat) (out:List T3)=>[(4,jj),(5,(Value.map (some b1))),(52,(qz o.p ((BJ ts).length) o.c)),(53,(vN ((BJ ts).length))),(54,(vN i)),(11,(qz p1 out.length c1))]) (tg λ(i:Nat) (p1:Option Addr) (c1:Nat) (out:List T3)=>[AP o.p (rowsL Bd (BJ ts)),rowW p1 80 3 out.length c1 (rowsL Ad out),Dp b1 J4 vN (C0 ts (3*ts.length)),AP x.p (rowsL Ad ts)]) (tg λ(i:Nat) (p1:Option Addr) (c1:Nat) (out:List T3)=>(BJ ts).length-i) 0 none 0 ([]:List T3) (⟨xK _,OwnOk.none,rfl⟩) (sF O) sr (λi p1 c1 out hJ=>?_)
  obtain ⟨hi,ho,hou⟩:=hJ
  have hol:=WF (ts:=ts) i
  rw [<-hou] at hol
  refine q4 (AC (Aa (c:=(decide (i<((BJ ts).length)))) O O (DF (a:=i) (b:=(BJ ts).length))) O (oNl' (q1 ?_)))
  refine zL O (λhc3=>?_) (λhc3=>?_)
  ·replace hc3:=xU hc3
   have hel:=KJ (ts:=ts) (3*ts.length)
   rw [<-Ic] at hel
   have hmem:((BJ ts).getD i jA)∈BJ ts:=by rw [List.getD,xQ hc3];exact List.getElem_mem hc3
   obtain ⟨hea,heb⟩:=Us hn hN _ hmem
   refine zC (q1 (zI (q4 (AC (v:=(pP (pB o.p) (pO o.p+i*4))) (AO (j:=i) O O o.ok underlying51 sizeOf54 O Z) O (AC (v:=(aG (Bd ((BJ ts).getD i jA)))) (AI (vs:=Bd ((BJ ts).getD i jA)) (i:=0) O O (Aw.ne o.ok Z) G8 (Ae Cr _ _ _ Z) (Cr _)) O (al II O λb2=>Ah O sizeOf54 O (q3 (sL [4,5,52,53,54,11,13] O) (AM O (AC (v:=(pP b2 0)) (AA O underlying54 O sizeOf3 O) O (BA 0 (vN (((BJ ts).getD i jA).a)) BP O ?_))))))))))
   refine AC (v:=(pP b2 1)) (AA O underlying54 O sizeOf3 O) O (BA 0 (vN (((BJ ts).getD i jA).b)) BP O (AC (v:=(aG ([(vN (((BJ ts).getD i jA).a)),(vN (((BJ ts).getD i jA).b))]))) (AT (zs:=Ay ((0,0):P2)) (vs:=[(vN (((BJ ts).getD i jA).a)),(vN (((BJ ts).getD i jA).b))]) (pv:=[(0,(vN (((BJ ts).getD i jA).a))),(1,(vN (((BJ ts).getD i jA).b)))]) (places:=[(0,1),(1,1)]) zeroValue257 underlying257 (λw=>by simp [sizeOf3]) O O) O (AC (v:=(vN ((BU (C0 ts (3*ts.length)) ((((BJ ts).getD i jA).a,((BJ ts).getD i jA).b):P2)).getD 0))) (HP H7 3 (eV:=vN) (kvs:=(C0 ts (3*ts.length))) (x:=((((BJ ts).getD i jA).a,((BJ ts).getD i jA).b):P2)) (z0:=0) (co:=false) O O underlying256 zeroValue3 O (Fb hn hN _ Z) (aF Z Z)) O (AC (BM (c:=(decide (((BU (C0 ts (3*ts.length)) ((((BJ ts).getD i jA).a,((BJ ts).getD i jA).b):P2)).getD 0)=1))) O O (Mz (a:=(BU (C0 ts (3*ts.length)) ((((BJ ts).getD i jA).a,((BJ ts).getD i jA).b):P2)).getD 0) (b:=1))) O (oNl' (zB (sL [4,5,52,53,54,11,13,65] O) (zA ?_)))))))
   refine zL O (λhc4=>?_) (λhc4=>?_)
   ·replace hc4:=xU hc4
    refine zD (AM O (AC (v:=(pP b2 0)) (AA O underlying54 O sizeOf3 O) O (BA 0 (vN (((BJ ts).getD i jA).a)) BP O (AC (v:=(pP b2 1)) (AA O underlying54 O sizeOf3 O) O (BA 0 (vN (((BJ ts).getD i jA).b)) BP O (AC (v:=(aG ([(vN (((BJ ts).getD i jA).a)),(vN (((BJ ts).getD i jA).b)),(vI 0)]))) (AT (zs:=Ad jJ) (vs:=[(vN (((BJ ts).getD i jA).a)),(vN (((BJ ts).getD i jA).b)),(vI 0)]) (pv:=[(0,(vN (((BJ ts).getD i jA).a))),(1,(vN (((BJ ts).getD i jA).b)))]) (places:=[(0,1),(1,1),(2,1)]) zeroValue80 underlying80 (λw=>by simp [sizeOf3]) O O) O (ze (V:=λb3=>(qz (jk b3) 1 1)) (T:=80) (cs:=Ad (((BJ ts).getD i jA).a,((BJ ts).getD i jA).b,0)) (AK O) (A7 (z:=.agg (Ad jJ).toArray) (cs:=Ad (((BJ ts).getD i jA).a,((BJ ts).getD i jA).b,0)) (pv:=[(0,(aG ([(vN (((BJ ts).getD i jA).a)),(vN (((BJ ts).getD i jA).b)),(vI 0)])))]) underlying29 sizeOf80 zeroValue80 jY jY O (L6 (((BJ ts).getD i jA).a,((BJ ts).getD i jA).b,0))) O (BE O) λb3=>zu 3 (j:=0) (cs2:=rowsL Ad (out++[(((BJ ts).getD i jA).a,((BJ ts).getD i jA).b,0)])) an O ho (Ac An _) O O O O O jY (Mb Z) Z (by rw [Ba];rfl) O λp_1 c_1 ho_1 hne_1=>asg' O (oNl' (zB (sL [4,5,52,53,54,11,13] O) ?_)))))))))
    refine zF (zA (zD (AC (AR (c:=((i+1:Nat):Int)) O O (AS (a:=i) (b:=1) Z)) O (AM O (oNl' (zB (sL [4,5,52,53,54,11,13] O) ?_))))))
    rw [show out.length+1=(out++[(((BJ ts).getD i jA).a,((BJ ts).getD i jA).b,0)]).length by simp]
    exact z7 (i+1) p_1 c_1 (out++[(((BJ ts).getD i jA).a,((BJ ts).getD i jA).b,0)]) (⟨Z,(by simpa using ho_1),by rw [hou];exact (WG Z hc4).symm⟩) Z (sF O) (sl (sl sr))
   ·replace hc4:=xT hc4
    exact zC (zF (zA (zD (AC (AR (c:=((i+1:Nat):Int)) O O (AS (a:=i) (b:=1) Z)) O (AM O (oNl' (zB (sL [4,5,52,53,54,11,13] O) (z7 (i+1) p1 c1 out (⟨Z,ho,by rw [hou];exact (Yl Z hc4).symm⟩) Z (sF O) (sl sr)))))))))
  ·replace hc3:=xT hc3
   exact zU (zO (yB (zR (q2 (AM O (ck' call79 (Oy p1 out.length c1 ho.row.le) O (asg' O (oNl' (zB (sL [4,5,52,53,54,11] O) (zA (zH (ret_one O (rd_tmp (v:=(qz p1 out.length out.length)) O) (λw hw=>(by rw [show Eh ts=out by rw [hou,show i=(BJ ts).length by omega];rfl];exact PV hw (OX.mk p1 c1 ho) (sl (sk (sl (sl sr)))) (IU.own O IU.nil) O))))))))))))))
end
section
set_option maxRecDepth 100000
theorem ZY (us:List Bool) (n:Nat) (x:RX (bL us) n) (hn:us.length=n) (hl:n<=1000000) (hu:∀j,j<n->us.getD j false=true) (w:World) {S:Nat->Prop} (hx:Ro S w x):Calls prog 182 #[(qz x.p n x.c),(qa false)] w (Ag w (vI (-1:Int))):=by
 have lx:=Db (W:=w) hx
 refine Ak (args:=[(qz x.p n x.c),(qa false)]) (L:=[AP x.p (bL us)]) func182 O O (BE O) (De hx A_) (zM (sL [0,1] O) (q4 (asg' O (oNl' (q1 (q4 (AM O (AC (v:=(vN n)) (AE O underlying200) O (AM O (oNl' (zB (sL [0,1,4,7,8] O) ?_)))))))))))
 refine zA (zI ?_)
 refine zw (tg λ(j:Nat)=>j<=n) (tg λ(j:Nat)=>[(0,(qz x.p n x.c)),(1,(qa false)),(7,(vN n)),(8,(vN j))]) (tg λ(j:Nat)=>[AP x.p (bL us)]) (tg λ(j:Nat)=>n-j) 0 (xK _) (sF O) sr (λj hJ=>?_)
 have hj:=hJ
 refine q4 (AC (Aa (c:=(decide (j<n))) O O (DF (a:=j) (b:=n))) O (oNl' (q1 ?_)))
 refine zL O (λhc0=>?_) (λhc0=>?_)
 ·replace hc0:=xU hc0
  refine zC (q1 (zI (q4 (AM O (asg' O (q3 (sL [0,1,7,8,5] O) (AM O (AM O (AM O (AC (v:=(pP (pB x.p) (pO x.p+j*1))) (AO (j:=j) O O x.ok underlying200 sizeOf4 O Z) O (AC (Au (v:=(qa (us.getD j false))) (i:=0) O O (x.ok.ne Z) Wj (Zj (us:=us) (j:=j) Z)) O ?_)))))))))))
  refine AC (Jh (c:=false) O O underlying4 (by rw [hu j Z];rfl)) O (oNl' (zB (sL [0,1,7,8,5,16] O) (zA (zP O (zC (zF (zA (zD (AC (AR (c:=((j+1:Nat):Int)) O O (AS (a:=j) (b:=1) Z)) O (AM O (oNl' ?_)))))))))))
  exact zB (sL [0,1,7,8,5] O) (zh (j+1) Z Z (sF O) sr)
 ·replace hc0:=xT hc0
  exact zU (zO (zX (zR (q2 (asg' O (oNl' (zA (zH (ret_one O (rd_tmp (v:=(vI (-1:Int))) O) (λw hw=>⟨rfl,hw.out⟩))))))))))
theorem Tn (us:List Bool) (n:Nat) (x:RX (bL us) n) (hn:us.length=n) (hl:n<=1000000) (hu:∀j,j<n->us.getD j false=true) (w:World) {S:Nat->Prop} (hx:Ro S w x):Calls prog 129 #[(qz x.p n x.c),(qa false)] w (Ag w (qa false)):=by
 have lx:=Db (W:=w) hx
 refine Ak (args:=[(qz x.p n x.c),(qa false)]) (L:=[AP x.p (bL us)]) func129 O O (BE O) (De hx A_) (zM (sL [0,1] O) (q4 (asg' O (oNl' (q2 (AM O (AM O (C7 call182 (λw hw=>ZY us n x hn hl hu w (Cd hw 0 O lx)) O (AC (D5 (c:=false) O O jY) O (asg' O (oNl' ?_)))))))))))
 exact zB (sL [4] O) (zA (zH (ret_one O (rd_tmp (v:=(qa false)) O) (λw hw=>⟨rfl,hw.out⟩))))
theorem Pq (ys:List Pt) (n:Nat) (x:RX (rowsL AZ ys) n) (hn:ys.length=n) (hl:n<=1000000) (hy:ys.Nodup) (w:World) {S:Nat->Prop} (hx:Ro S w x):Calls prog 133 #[(qz x.p n x.c)] w (Ag w (qz x.p n x.c)):=by
 have lx:=Db (W:=w) hx
 refine Ak (args:=[(qz x.p n x.c)]) (L:=[AP x.p (rowsL AZ ys)]) func133 O O (BE O) (De hx A_) (zM (sL [0] O) (q4 (asg' O (oNl' (q1 (q4 (AM O (AC (v:=(vN n)) (AE O underlying32) O (AC (Aa (c:=(decide (n<2))) O O (DF (a:=n) (b:=2))) O (oNl' (zB (sL [0,2,8] O) ?_)))))))))))
 refine zA ?_
 refine zL O (λhc0=>?_) (λhc0=>?_)
 ·replace hc0:=xU hc0
  exact q4 (AM O (asg' O (oNl' (zB (sL [0,2] O) (zA (zH (zJ (ret_one O (rd_tmp (v:=(qz x.p n x.c)) O) (λw hw=>⟨rfl,hw.out⟩)))))))))
 ·replace hc0:=xT hc0
  refine zC (q1 (q4 (asg' O (oNl' (zA (zI ?_))))))
  refine zw (tg λ(k:Nat)=>1<=k/\k<=n) (tg λ(k:Nat)=>[(0,(qz x.p n x.c)),(3,(vN k))]) (tg λ(k:Nat)=>[AP x.p (rowsL AZ ys)]) (tg λ(k:Nat)=>n-k) 1 (⟨Nat.le_refl _,Z⟩) (sF O) sr (λk hJ=>?_)
  obtain ⟨hk1,hk⟩:=hJ
  refine zY (q4 (AM O (AM O (AC (v:=(vN n)) (AE O underlying32) O (AC (Aa (c:=(decide (k<n))) O O (DF (a:=k) (b:=n))) O (oNl' (zB (sL [0,3,13] O) (zA ?_))))))))
  refine zL O (λhc1=>?_) (λhc1=>?_)
  ·replace hc1:=xU hc1
   refine zC (q1 (zI (zY (C_ (Ek 10) sr (Bx O (Bx O (Aj (v:=(pP (pB x.p) (pO x.p+k*10))) O (AO (j:=k) O O x.ok underlying32 sizeOf78 O Z) (Aj (v:=(aG (AZ (ys.getD k (⟨0,0⟩:Pt))))) O (AI (vs:=AZ (ys.getD k (⟨0,0⟩:Pt))) (i:=0) O O (Aw.ne x.ok Z) BC (Ae Aq _ _ _ Z) (Aq _)) (Bx O (Bx O (Aj O (Bp (c:=((k-1:Nat):Int)) O O (Bz (a:=k) (b:=1) Z Z)) ?_)))))))))))
   refine Aj (v:=(pP (pB x.p) (pO x.p+(k-1)*10))) O (AO (j:=k-1) O O x.ok underlying32 sizeOf78 O Z) (Aj (v:=(aG (AZ (ys.getD (k-1) (⟨0,0⟩:Pt))))) O (AI (vs:=AZ (ys.getD (k-1) (⟨0,0⟩:Pt))) (i:=0) O O (Aw.ne x.ok Z) BC (Ae Aq _ _ _ Z) (Aq _)) (Aj O (By (c:=decide (ys.getD k (⟨0,0⟩:Pt)=ys.getD (k-1) (⟨0,0⟩:Pt))) O O eqGuardType78 (Uu 9994 (ys.getD k (⟨0,0⟩:Pt)) (ys.getD (k-1) (⟨0,0⟩:Pt)))) (zQ (zB (sL [0,3,25] O) (zA ?_)))))
   refine zL O (λhc2=>?_) (λhc2=>?_)
   ·replace hc2:=xU hc2
    exact (S2 hy Z Z hc2).elim
   ·replace hc2:=xT hc2
    exact zC (zF (zA (zD (AM O (AC (AR (c:=((k+1:Nat):Int)) O O (AS (a:=k) (b:=1) Z)) O (asg' O (oNl' (zB (sL [0,3] O) (zh (k+1) (⟨Z,Z⟩) Z (sF O) sr)))))))))
  ·replace hc1:=xT hc1
   exact zU (zO (zX (zR (q2 (AM O (asg' O (oNl' (zB (sL [0,3,2] O) (zA (zH (ret_one O (rd_tmp (v:=(qz x.p n x.c)) O) (λw hw=>⟨rfl,hw.out⟩))))))))))))
theorem cS:T0 prog 200 4 (.bool false) 1:=⟨underlying200,_,_,rfl,rfl,rfl,rfl,rfl⟩
set_option maxHeartbeats 1000000 in
theorem YZ {ps:List Pt} {ts ss:List T3} (x:MX ps ts ss) (hv:Fr ps ts ss) (w:World) {S:Nat->Prop} (hx:Ro S w x):Calls prog 63 #[(aG (Ce x))] w (Ag w (qa true)):=by
 have hp:=hv.pl
 have htl:=hv.tl
 have hsl:=hv.sl
 have h0:=hv.t0
 have hbp:∀p∈ps,Bn p<=1000:=λp hp=>by obtain ⟨j,hj,rfl⟩:=List.getElem_of_mem hp;have h9:=hv.sz j;rwa [cor,List.getD,xQ hj] at h9
 have hps0:0<ps.length:=by have h9:=(DP (CQ hv.num hv.t0)).1;omega
 have lx:=Db (W:=w) hx
 refine Ak (args:=[(aG (Ce x))]) (L:=[AP x.a.p (rowsL AZ ps),AP x.b.p (rowsL Ad ts),AP x.c.p (rowsL Ad ss)]) func63 O O (BE O) (De hx A_) (zM (sL [0] O) (q4 (BZ (cs:=Ce x) O λb1=>asg' O (q3 (sL [1,2] O) (AC (v:=(pP b1 0)) (AA O underlying34 O sizeOf32 O) O (BA 0 (qz x.a.p ps.length x.a.c) DC O (AC (v:=(vN ps.length)) (AE O underlying32) O ?_)))))))
 refine AU.makeBool (m:=ps.length) cS O O Z O O ?_;intro bm hbm;rw [TZ ts ps.length]
 refine asg' O (q6 (sL [1,2,3] O) (q4 (AC (v:=(pP b1 1)) (AA O underlying34 O sizeOf28 O) O (BA 1 (qz x.b.p ts.length x.b.c) CM O (AC (v:=(vN ts.length)) (AE O underlying28) O (AM O (oNl' (zB (sL [1,2,3,12,13,14] O) (zA (zI ?_))))))))))
 refine zw (tg λ(t:Nat)=>t<=ts.length) (tg λ(t:Nat)=>[(1,(pP b1 0)),(2,(qa false)),(3,(qz (jk bm) ps.length ps.length)),(12,(qz x.b.p ts.length x.b.c)),(13,(vN ts.length)),(14,(vN t))]) (tg λ(t:Nat)=>[rowW (jk bm) 4 1 ps.length ps.length (bL (MC ts ps.length t)),AX b1 34 (Ce x),AP x.a.p (rowsL AZ ps),AP x.b.p (rowsL Ad ts),AP x.c.p (rowsL Ad ss)]) (tg λ(t:Nat)=>ts.length-t) 0 (xK _) (sF O) sr (λt hJ=>?_)
 have ht:=hJ
 refine q4 (AC (Aa (c:=(decide (t<ts.length))) O O (DF (a:=t) (b:=ts.length))) O (oNl' (q1 ?_)))
 refine zL O (λhc0=>?_) (λhc0=>?_)
 ·replace hc0:=xU hc0
  obtain ⟨T,hT⟩:∃q,q=ts.getD t (0,0,0):=⟨_,rfl⟩
  obtain ⟨g1,g2,g3⟩:=DP (CQ hv.num hc0)
  rw [<-hT] at g1 g2 g3
  refine zC (q1 (zI (q4 (AC (v:=(pP (pB x.b.p) (pO x.b.p+t*3))) (AO (j:=t) O O x.b.ok underlying28 sizeOf71 O Z) O (AC (v:=(aG (Ad (ts.getD t jJ)))) (AI (vs:=Ad (ts.getD t jJ)) (i:=3) O O (Aw.ne x.b.ok Z) Bm (Ae An _ _ _ Z) (An _)) O (zK (k:=17) (u:=(aG (Ad T))) O (by rw [hT]) (al Hk O λb2=>Ah O sizeOf71 O (oNl' (zB (sL [1,2,3,12,13,14,5] O) (zA ?_))))))))))
  refine C_ (Ek 10++[(10,false),(11,true),(12,false),(13,true),(14,false)]) (sk (sl sr)) (Bx O (Aj (v:=(pP b2 0)) O (AB (j:=0) O O underlying71 sizeOf3 O jY O) (BK 0 (vN T.1) BP O (Bx O (Aj (v:=(pP b2 1)) O (AB (j:=1) O O underlying71 sizeOf3 O jY O) (BK 0 (vN T.2.1) BP O (Bx O (Aj (v:=(pP b2 2)) O (AB (j:=2) O O underlying71 sizeOf3 O jY O) (BK 0 (vN T.2.2) BP O (Aj (v:=(pP (pB (jk bm)) (pO (jk bm)+T.1*1))) O (AO (j:=T.1) O O hbm.row underlying200 sizeOf4 O Z) (zN O ?_)))))))))))
  refine yY (j:=T.1) (v:=(qa true)) O O hbm (by rw [NY,Nat.mul_one];simp [HE]) Z O sizeOf4 O (P3 _ _ _) (zG (sk (sl sr)) (Aj (v:=(pP (pB (jk bm)) (pO (jk bm)+T.2.1*1))) O (AO (j:=T.2.1) O O hbm.row underlying200 sizeOf4 O Z) (zN O (yY (j:=T.2.1) (v:=(qa true)) O O hbm (by rw [NY,Nat.mul_one];simp [HE]) Z O sizeOf4 O (P3 _ _ _) (zG (sk (sl sr)) (Aj (v:=(pP (pB (jk bm)) (pO (jk bm)+T.2.2*1))) O (AO (j:=T.2.2) O O hbm.row underlying200 sizeOf4 O Z) (zN O (yY (j:=T.2.2) (v:=(qa true)) O O hbm (by rw [NY,Nat.mul_one];simp [HE]) Z O sizeOf4 O (P3 _ _ _) (zG (sk (sl sr)) (zQ (zB (sL [1,2,3,12,13,14,5] O) ?_)))))))))))
  refine zF (zA (zD (AC (AR (c:=((t+1:Nat):Int)) O O (AS (a:=t) (b:=1) Z)) O (AM O (oNl' (zB (sL [1,2,3,12,13,14,5] O) ?_))))))
  rw [hT,TY Z]
  exact zh (t+1) Z Z (sF O) (sl sr)
 ·replace hc0:=xT hc0
  have htt:t=ts.length:=by omega
  refine zU (zO (zX (zR (q1 (q4 (AM O (zz 0 O hbm (by rw [NY,Nat.mul_one];simp [HE]) O O λhn_US=>C7 call129 (λw hw=>Tn (MC ts ps.length t) ps.length ⟨(jk bm),ps.length,hbm.row⟩ (HE _ _ _) Z (λj hj=>by rw [htt];exact Ww hj (hv.use j hj)) w (Cd (S:=S) hw 0 O (At.new hn_US))) O (oNl' (zB (sL [1,2,3,12,13,14,32] O) (zA ?_))))))))))
  refine zP O (zC (q2 (AC (v:=(pP b1 0)) (AA O underlying34 O sizeOf32 O) O (BA 1 (qz x.a.p ps.length x.a.c) DC O (yK (S:=S) (V:=aI) (LW:=Yc (T:=78) (z:=10) (cs:=rowsL AZ ps) (n:=ps.length)) (args:=[(qz x.a.p ps.length x.a.c)]) call76 (λw hw=>Ms ps x.a Z w (dv (Cd hw 2 O lx))) O λcl1 hcl1=>asg' O (q3 (sL [1,2,3,12,13,14,6] O) (AM O ?_)))))))
  have hpn:cl1.p≠none:=λe=>by have:=(cl1.ok.nil e).1;omega
  refine AU.callWX 0 (α:=List Pt) (K:=λys=>ys.Perm ps) (cs':=λys=>rowsL AZ ys) (v:=(Value.tuple #[])) (AK O) (Ao (args:=[(qz cl1.p ps.length cl1.c),(Value.func (.func 131) #[] #[])]) O O call130) O (λw hw=>Wa ps _ _ _ 78 cl1.ok hpn O Z hbp w (hw.holds (i:=0) O)) (λd hd=>by cases hd<;>exact (BE O)) λys hys=>?_
  have hyl:=hys.length_eq
  refine zz 0 O cl1.ok (by rw [Ac Aq,hyl]) O O λhn_cl1=>q6 (sL [1,2,3,12,13,14,6] O) (C_ [(0,true),(3,true),(4,true),(5,true),(1,false),(2,true),(6,true),(7,true)] sr (Bx O (Aj (v:=(pP b1 0)) O (AA O underlying34 O sizeOf32 O) (BK 2 (qz x.a.p ps.length x.a.c) DC O (Aj (v:=(vN ps.length)) O (AE O underlying32) (zN O (C7 call133 (λw hw=>Pq ys ps.length ⟨cl1.p,cl1.c,cl1.ok.row⟩ hyl Z (hys.nodup_iff.2 hv.dst) w (Cd (S:=S) hw 0 O (At.new hn_cl1))) O (zG sr (Aj (v:=(vN ps.length)) O (AE O underlying32) (Aj O (BM (c:=true) O O (xJ O)) ?_))))))))))
  exact pS' O (zQ (zB (sL [1,2,3,12,13,14,6] O) (zA (zH (ret_one O (rd_tmp (v:=(qa true)) O) (λw hw=>⟨rfl,hw.out⟩))))))
theorem Yk (s r:T3) (h:s.1=r.1/\s.2.1=r.2.1) (w:World)  :Calls prog 139 #[(aG (Ad s)),(aG (Ad r))] w (Ag w (qa true)):=by
 refine AW (args:=[(aG (Ad s)),(aG (Ad r))]) func139 O O (BE O) (zM (sL [0,1] O) (q4 (BZ (cs:=Ad s) O λb1=>BZ (cs:=Ad r) O λb2=>asg' O (q3 (sL [2,3,4] O) (AC (v:=(pP b1 0)) (AA O underlying80 O sizeOf3 O) O (BA 1 (vN s.1) BP O (AC (v:=(pP b2 0)) (AA O underlying80 O sizeOf3 O) O (BA 0 (vN r.1) BP O (AC (BM (c:=true) O O (xJ Z)) O ?_)))))))))
 exact AM O (Av (v:=(pP b1 1)) O (AA O underlying80 O sizeOf3 O) (Av (v:=(vN s.2.1)) O (AD (i:=1) (v:=(vN s.2.1)) O O BP.a O) (Av (v:=(pP b2 1)) O (AA O underlying80 O sizeOf3 O) (Av (v:=(vN r.2.1)) O (AD (i:=0) (v:=(vN r.2.1)) O O BP.a O) (Av (v:=(qa true)) O (BM (c:=true) O O (xJ Z)) (AC (v:=(qa true)) (AQ O O) O (asg' O (oNl' (zB (sL [4] O) (zA (zH (ret_one O (rd_tmp (v:=(qa true)) O) (λw hw=>⟨rfl,hw.out⟩)))))))))))))
theorem WN (xs ys:List T3) (x:RX (rowsL Ad xs) xs.length) (y:RX (rowsL Ad ys) ys.length) (hn:xs.length=ys.length) (hl:xs.length<=1000000) (hk:∀j,j<xs.length->(xs.getD j (0,0,0)).1=(ys.getD j (0,0,0)).1/\(xs.getD j (0,0,0)).2.1=(ys.getD j (0,0,0)).2.1) (w:World) {S:Nat->Prop} (hx:Ro S w x) (hy:Ro S w y):Calls prog 70 #[(qz x.p xs.length x.c),(qz y.p ys.length y.c),(Value.func (.func 139) #[] #[])] w (Ag w (qa true)):=by
 have lx:=Db (W:=w) hx
 have ly:=Db (W:=w) hy
 refine Ak (args:=[(qz x.p xs.length x.c),(qz y.p ys.length y.c),(Value.func (.func 139) #[] #[])]) (L:=[AP x.p (rowsL Ad xs),AP y.p (rowsL Ad ys)]) func70 O O (BE O) (De hx (De hy A_)) (zM (sL [0,1,2] O) (q4 (asg' O (oNl' (q1 (q4 (AM O (AC (v:=(vN xs.length)) (AE O underlying29) O (AM O (AC (v:=(vN ys.length)) (AE O underlying29) O (AC (Bw (c:=false) O O (xI Z)) O ?_)))))))))))
 refine oNl' (zB (sL [0,1,2,6,12] O) (zA (zP O (zC (q1 (q4 (AM O (AC (v:=(vN xs.length)) (AE O underlying29) O (AM O (oNl' (zB (sL [0,1,2,6,14,15] O) ?_)))))))))))
 refine zA (zI ?_)
 refine zw (tg λ(j:Nat)=>j<=xs.length) (tg λ(j:Nat)=>[(0,(qz x.p xs.length x.c)),(1,(qz y.p ys.length y.c)),(2,(Value.func (.func 139) #[] #[])),(14,(vN xs.length)),(15,(vN j))]) (tg λ(j:Nat)=>[AP x.p (rowsL Ad xs),AP y.p (rowsL Ad ys)]) (tg λ(j:Nat)=>xs.length-j) 0 (xK _) (sF O) sr (λj hJ=>?_)
 have hj:=hJ
 refine q4 (AC (Aa (c:=(decide (j<xs.length))) O O (DF (a:=j) (b:=xs.length))) O (oNl' (q1 ?_)))
 refine zL O (λhc1=>?_) (λhc1=>?_)
 ·replace hc1:=xU hc1
  refine zC (q1 (zI (q4 (AM O (asg' O (q6 (sL [0,1,2,14,15,7] O) (C_ (Ek 9++[(9,false),(10,true)]) sr (Bx O (Bx O (Bx O (Aj (v:=(pP (pB x.p) (pO x.p+j*3))) O (AO (j:=j) O O x.ok underlying29 sizeOf80 O Z) ?_)))))))))))
  refine Aj (v:=(aG (Ad (xs.getD j jJ)))) O (AI (vs:=Ad (xs.getD j jJ)) (i:=0) O O (Aw.ne x.ok Z) Qw (Ae An _ _ _ Z) (An _)) (Bx O (Bx O (Aj (v:=(pP (pB y.p) (pO y.p+j*3))) O (AO (j:=j) O O y.ok underlying29 sizeOf80 O Z) (Aj (v:=(aG (Ad (ys.getD j jJ)))) O (AI (vs:=Ad (ys.getD j jJ)) (i:=1) O O (Aw.ne y.ok Z) Qw (Ae An _ _ _ Z) (An _)) (zN O (ck' call139 (Yk _ _ (hk j Z)) O (zG sr (Aj O (BG (c:=false) O O) (zQ (zB (sL [0,1,2,14,15,28] O) (zA ?_)))))))))))
  exact zP O (zC (zF (zA (zD (AC (AR (c:=((j+1:Nat):Int)) O O (AS (a:=j) (b:=1) Z)) O (AM O (oNl' (zB (sL [0,1,2,14,15] O) (zh (j+1) Z Z (sF O) sr)))))))))
 ·replace hc1:=xT hc1
  exact zU (zO (zX (zR (q2 (asg' O (oNl' (zA (zH (ret_one O (rd_tmp (v:=(qa true)) O) (λw hw=>⟨rfl,hw.out⟩))))))))))
theorem TC {ps:List Pt} {ts ss:List T3} (x:MX ps ts ss) (hv:Fr ps ts ss) (w:World) {S:Nat->Prop} (hx:Ro S w x):Calls prog 65 #[(aG (Ce x))] w (Ag w (qa true)):=by
 have hp:=hv.pl
 have htl:=hv.tl
 have hsl:=hv.sl
 have h0:=hv.t0
 have lx:=Db (W:=w) hx
 refine Ak (args:=[(aG (Ce x))]) (L:=[AP x.a.p (rowsL AZ ps),AP x.b.p (rowsL Ad ts),AP x.c.p (rowsL Ad ss)]) func65 O O (BE O) (De hx A_) (zM (sL [0] O) (q4 (BZ (cs:=Ce x) O λb1=>asg' O (q6 (sL [1,2] O) (C_ (Ek 6++[(6,false),(7,false),(8,true)]) sr (Aj (v:=(pP b1 2)) O (AA O underlying34 O sizeOf29 O) (BK 0 (qz x.c.p ss.length x.c.c) Qx O (Aj (v:=(pP b1 0)) O (AA O underlying34 O sizeOf32 O) (BK 0 (qz x.a.p ps.length x.a.c) DC O (Aj (v:=(pP b1 1)) O (AA O underlying34 O sizeOf28 O) ?_))))))))))
 refine BK 0 (qz x.b.p ts.length x.b.c) CM O (zN O (yK (S:=S) (V:=Ti) (LW:=Yc (T:=80) (z:=3) (cs:=rowsL Ad (Eh ts)) (n:=(Eh ts).length)) (args:=[(qz x.a.p ps.length x.a.c),(qz x.b.p ts.length x.b.c)]) call138 (λw hw=>Ze ts x.b x.a.p ps.length x.a.c hv.num Z Z w (cE (Cd hw 1 O lx))) O λrm hrm=>zz 0 O rm.ok (Ac An _) O O λhn_rm=>zG (sl sr) (zN O (C7 call70 (λw hw=>WN ss (Eh ts) x.c ⟨rm.p,(Eh ts).length,rm.ok.clip⟩ hv.rl Z hv.rim w (dw (Cd hw 2 O lx)) (Cd (S:=S) hw 0 O (At.new hn_rm))) O (zG (sl sr) (pS' O (zQ (zB (sL [2] O) (zA ?_)))))))))
 exact zH (ret_one O (rd_tmp (v:=(qa true)) O) (λw hw=>⟨rfl,hw.out⟩))
theorem Og {ps:List Pt} {ts ss:List T3} (x:MX ps ts ss) (hv:Fr ps ts ss) (w:World) {S:Nat->Prop} (hx:Ro S w x):Calls prog 22 #[(aG (Ce x))] w (Ag w (vI 0)):=by
 have hp:=hv.pl
 have htl:=hv.tl
 have hsl:=hv.sl
 have h0:=hv.t0
 have lx:=Db (W:=w) hx
 refine Ak (args:=[(aG (Ce x))]) (L:=[AP x.a.p (rowsL AZ ps),AP x.b.p (rowsL Ad ts),AP x.c.p (rowsL Ad ss)]) func22 O O (BE O) (De hx A_) (zM (sL [0] O) (q4 (BZ (cs:=Ce x) O λb1=>asg' O (q6 (sL [1,2] O) (zI (q4 (AC (v:=(pP b1 0)) (AA O underlying34 O sizeOf32 O) O (BA 0 (qz x.a.p ps.length x.a.c) DC O (AC (v:=(vN ps.length)) (AE O underlying32) O (AC (D6 (c:=false) O O (xI Z)) O ?_))))))))))
 refine AM O (Av (v:=(pP b1 1)) O (AA O underlying34 O sizeOf28 O) (Av (v:=(qz x.b.p ts.length x.b.c)) O (AD (i:=0) (v:=(qz x.b.p ts.length x.b.c)) O O CM.a O) (Av (v:=(vN ts.length)) O (AE O underlying28) (Av (v:=(qa false)) O (D6 (c:=false) O O (xI Z)) (AC (v:=(qa false)) (AL O O) O (AM O (Av (v:=(pP b1 2)) O (AA O underlying34 O sizeOf29 O) (Av (v:=(qz x.c.p ss.length x.c.c)) O (AD (i:=0) (v:=(qz x.c.p ss.length x.c.c)) O O Qx.a O) (Av (v:=(vN ss.length)) O (AE O underlying29) (Av (v:=(qa false)) O (D6 (c:=false) O O (xI Z)) (AC (v:=(qa false)) (AL O O) O ?_)))))))))))
 refine asg' O (oNl' (zB (sL [1,2,3] O) (zA (zP O (q4 (Ai 0 Bg O (C7 call62 (λw hw=>XV x hv w (Cd hw 1 O lx)) O (AC (BG (c:=false) O O) O (asg' O (oNl' (zB (sL [1,2,20] O) ?_)))))))))))
 refine zA (zP O (q4 (Ai 0 Bg O (C7 call63 (λw hw=>YZ x hv w (Cd hw 1 O lx)) O (AC (BG (c:=false) O O) O (AM O (Av (v:=(aG (Ce x))) O (Ab (i:=0) (vs:=Ce x) O O Bg.a Bg.s O O) (zg (v:=(qa true)) (AY O) (Ao (args:=[(aG (Ce x))]) O O call64) (λw hw=>UL x hv w (Cd hw 1 O lx)) O (BE O) (Av (v:=(qa false)) O (BG (c:=false) O O) (AC (v:=(qa false)) (AL O O) O (AM O ?_)))))))))))
 refine Av (v:=(aG (Ce x))) O (Ab (i:=0) (vs:=Ce x) O O Bg.a Bg.s O O) (zg (v:=(qa true)) (AY O) (Ao (args:=[(aG (Ce x))]) O O call65) (λw hw=>TC x hv w (Cd hw 1 O lx)) O (BE O) (Av (v:=(qa false)) O (BG (c:=false) O O) (AC (v:=(qa false)) (AL O O) O (asg' O (oNl' (zB (sL [1,2,24] O) (zA (zP O (zC (zF (q2 ?_)))))))))))
 exact asg' O (oNl' (zB (sL [1,2] O) (zA (zH (ret_one O (rd_tmp (v:=(vI 0)) O) (λw hw=>⟨rfl,hw.out⟩))))))
end
end Go.Proofs.YtbfdamnfcmefmaaGreatDoor
