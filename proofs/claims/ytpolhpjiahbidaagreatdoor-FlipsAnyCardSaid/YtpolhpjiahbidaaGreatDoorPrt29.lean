import Derived.Test.YtpolhpjiahbidaaGreatDoorPrt28
namespace Go.Proofs.YtpolhpjiahbidaaGreatDoor
open Go Go.RowKit Go.Proofs.Tryz
open Go.Value renaming slice→qz,bool→qa
set_option linter.unusedVariables false
set_option linter.unusedSimpArgs false
section
set_option maxRecDepth 100000
theorem IA:QI prog 192 J0 YE where
 law:=.of_law (deep_law_laid aO (m:=2) jY (by decide +kernel) jV jV)
 key:=λa h=>M8 underlying192 ⟨rfl,rfl⟩ ⟨rfl,rfl⟩ (by decide +kernel) underlying3 jV jV jV (by decide +kernel) (OQ h.1) (OQ h.2)
 inj:=λa b h=>Pg h
theorem J6 (x0:Tq3):Instr.fill (λi=>some (i*3,3)) ((Array.range (1*3)).map ((Value.agg (Am jJ).toArray).cells[·%(Value.agg (Am jJ).toArray).cells.size]!)) [(0,.agg (Am x0).toArray)]=some (Am x0).toArray:=by kernel_rfl
set_option maxHeartbeats 4000000 in
theorem ap (ts:List T3) (x:RX (rowsL Am ts) ts.length) (pp:Option Addr) (N pc:Nat) (hn:Bn N ts=true) (hN:N<=4611686018427387904) (hl:ts.length<=1000000000) (w:World) {S:Nat->Prop} (hx:Ro S w x):Calls prog 56 #[(qz pp N pc),(qz x.p ts.length x.c)] w (DC Ul (ZO (T:=110) (z:=3) (cs:=rowsL Am (J3 ts)) (n:=(J3 ts).length)) S w):=by
 have lx:=Bq (W:=w) hx
 refine AR (args:=[(qz pp N pc),(qz x.p ts.length x.c)]) (L:=[AC x.p (rowsL Am ts)]) func56 O O (leB O) (C7 hx Ae) (zM (sL [0,1] O) (q4 (asg' O (oNl' (q1 (q4 (AJ O (AJ O (st' (v:=(vN N)) (AD O underlying28) O (Bx (args:=[(qz x.p ts.length x.c),(vN N)]) (v:=(qa true)) call110 (λw hw=>(by have h9:=Sf N ts x Z w (inS hw 0 O lx);rw [hn] at h9;exact h9)) O (st' (BB (c:=false) O O) O ?_)))))))))))
 refine oNl' (zF (sL [1,4,18] O) (zC (zX O (zJ (q2 (xE J0 vN (AM O) O λb1=>asg' O (q6 (sL [1,4,5] O) (q4 (AJ O (st' (v:=(vN ts.length)) (AD O underlying23) O ?_))))))))))
 refine AJ O (oNl' (zC (zN ?_)))
 refine zw (tg λ(t:Nat)=>t<=ts.length) (tg λ(t:Nat)=>[(1,(qz x.p ts.length x.c)),(4,jj),(5,(Value.map (some b1))),(20,(qz x.p ts.length x.c)),(21,(vN ts.length)),(22,(vN t))]) (tg λ(t:Nat)=>[Dw b1 J0 vN (C_ ts (3*t+0)),AC x.p (rowsL Am ts)]) (tg λ(t:Nat)=>ts.length-t) 0 (xu _) (sF O) sr (λt hJ=>?_)
 have ht:=hJ
 refine q4 (st' (AW (c:=(decide (t<ts.length))) O O (B_ (a:=t) (b:=ts.length))) O (oNl' (q1 ?_)))
 refine zO O (λhc1=>?_) (λhc1=>?_)
 ·replace hc1:=xR hc1
  obtain ⟨T,hT⟩:∃q,q=ts.getD t (0,0,0):=⟨_,rfl⟩
  obtain ⟨g1,g2,g3⟩:=DZ (Cs hn hc1)
  rw [<-hT] at g1 g2 g3
  refine zJ (q1 (zN (q4 (st' (v:=(pP (pB x.p) (pO x.p+t*3))) (AF (j:=t) O O x.ok underlying23 sizeOf105 O Z) O (st' (v:=(aG (Am (ts.getD t jJ)))) (AH (vs:=Am (ts.getD t jJ)) (i:=1) O O (Ao.ne x.ok Z) CY (AZ A8 _ _ _ Z) (A8 _)) O (zK (k:=25) (u:=(aG (Am T))) O (by rw [hT]) (al Gu O λb2=>Aj O sizeOf105 O (q3 (sL [1,4,5,20,21,22,7] O) (AJ O (oNl' ?_))))))))))
  refine zC (zN (yG 4 (zk (q4 (st' (AW (c:=true) O O jY) O (oNl' (q1 (zZ O (zJ (q1 (zN ?_)))))))))))
  refine q4 (AJ O (asg' O (q6 (sL [1,4,5,20,21,22,7,26,8] O) (CE (Dm 10) sr (Bl O (Ag (v:=(pP b2 0)) O (AB (j:=0) O O underlying105 sizeOf3 O jY O) (BC 0 (vN T.1) BN O (Bl O (Ag O (AV (c:=(1:Int)) O O jY) (Ag O (Dn (c:=(1:Int)) O O jY jY) (Ag (v:=(pP b2 1)) O (AB (j:=1) O O underlying105 sizeOf3 O jY O) ?_)))))))))))
  refine BC 0 (vN T.2.1) BN O (pS' O (pS' O (zT (zF (sL [1,4,5,20,21,22,7,26,9,10] O) (zC ?_)))))
  obtain ⟨vq1,hvq1⟩:∃q,q=(Bb (C_ ts (3*t+0)) ((min T.1 T.2.1,max T.1 T.2.1):P2)).getD 0:=⟨_,rfl⟩
  refine ew [(0,true),(1,true),(2,true),(3,true),(4,true),(5,true),(6,true),(7,true),(8,true),(9,true),(10,false),(11,true)] 12 [] (gI 1 (x:=((min T.1 T.2.1,max T.1 T.2.1):P2)) (v:=vq1) O O) (List.nil_sublist _) jV (λ_ _ d _ _ h=>by cases d<;>exact h) (vM O O O (vM O O O (vM O O O (vE O (F7 (c:=((min T.1 T.2.1:Nat):Int)) O O (by split<;>omega)) O (vM O O O (vM O O O (vE O (E6 (c:=((max T.1 T.2.1:Nat):Int)) O O (by split<;>omega)) O (vE (v:=(aG ([(vN (min T.1 T.2.1)),(vN (max T.1 T.2.1))]))) O (AO (zs:=In ((0,0):P2)) (vs:=[(vN (min T.1 T.2.1)),(vN (max T.1 T.2.1))]) (pv:=[(0,(vN (min T.1 T.2.1))),(1,(vN (max T.1 T.2.1)))]) (places:=[(0,1),(1,1)]) zeroValue192 underlying192 (λw=>by simp [sizeOf3]) O O) O (vE (v:=(vN vq1)) O (H8 IA 1 (kvs:=C_ ts (3*t+0)) (x:=((min T.1 T.2.1,max T.1 T.2.1):P2)) (z0:=0) O O underlying190 zeroValue3 O (Fw hn hN _ Z) (EQ Z Z) hvq1) O ?_)))))))))
  have hmq:=N7 (ts:=ts) (3*t+0) ((min T.1 T.2.1,max T.1 T.2.1):P2)
  refine vE O (AV (c:=((vq1+1:Nat):Int)) O O (AY (a:=vq1) (b:=1) Z)) O (yC O (y5 IA 1 (kvs:=C_ ts (3*t+0)) (x:=((min T.1 T.2.1,max T.1 T.2.1):P2)) (z0:=0) (v:=vq1) O O underlying190 zeroValue3 O (Fw hn hN _ Z) (EQ Z Z) hvq1 O (y9 (cv 1 O O) (vE O (AK (v:=(vN (DL (C_ ts (3*t+0)) ((min T.1 T.2.1,max T.1 T.2.1):P2)))) O O) O (yU O (yn 1 (kvs:=C_ ts (3*t+0)) (x:=((min T.1 T.2.1,max T.1 T.2.1):P2)) (u:=vq1) (y:=vq1+1) O O O O ?_))))))
  rw [show Br (C_ ts (3*t+0)) ((min T.1 T.2.1,max T.1 T.2.1):P2) (vq1+1)=C_ ts (3*t+1) from by rw [hvq1,hT];exact (JJ (ts:=ts) (t:=t) (i:=0) Z).symm]
  refine zG (List.nil_sublist _) (zT (zF (sL [1,4,5,20,21,22,7,26] O) (zP (zC (zQ (st' (AV (c:=(1:Int)) O O jY) O (AJ O (oNl' (zF (sL [1,4,5,20,21,22,7,26] O) (zu (zk ?_)))))))))))
  refine q4 (st' (AW (c:=true) O O jY) O (oNl' (q1 (zZ O (zJ (q1 (zN (q4 (AJ O (asg' O (q6 (sL [1,4,5,20,21,22,7,26,8] O) ?_)))))))))))
  refine CE (Dm 10) sr (Bl O (Ag (v:=(pP b2 1)) O (AB (j:=1) O O underlying105 sizeOf3 O jY O) (BC 0 (vN T.2.1) BN O (Bl O (Ag O (AV (c:=(2:Int)) O O jY) (Ag O (Dn (c:=(2:Int)) O O jY jY) (Ag (v:=(pP b2 2)) O (AB (j:=2) O O underlying105 sizeOf3 O jY O) (BC 0 (vN T.2.2) BN O (pS' O (pS' O (zT ?_)))))))))))
  refine zF (sL [1,4,5,20,21,22,7,26,9,10] O) (zC ?_)
  obtain ⟨vq2,hvq2⟩:∃q,q=(Bb (C_ ts (3*t+1)) ((min T.2.1 T.2.2,max T.2.1 T.2.2):P2)).getD 0:=⟨_,rfl⟩
  refine ew [(0,true),(1,true),(2,true),(3,true),(4,true),(5,true),(6,true),(7,true),(8,true),(9,true),(10,false),(11,true)] 12 [] (gI 1 (x:=((min T.2.1 T.2.2,max T.2.1 T.2.2):P2)) (v:=vq2) O O) (List.nil_sublist _) jV (λ_ _ d _ _ h=>by cases d<;>exact h) (vM O O O (vM O O O (vM O O O (vE O (F7 (c:=((min T.2.1 T.2.2:Nat):Int)) O O (by split<;>omega)) O (vM O O O (vM O O O (vE O (E6 (c:=((max T.2.1 T.2.2:Nat):Int)) O O (by split<;>omega)) O (vE (v:=(aG ([(vN (min T.2.1 T.2.2)),(vN (max T.2.1 T.2.2))]))) O (AO (zs:=In ((0,0):P2)) (vs:=[(vN (min T.2.1 T.2.2)),(vN (max T.2.1 T.2.2))]) (pv:=[(0,(vN (min T.2.1 T.2.2))),(1,(vN (max T.2.1 T.2.2)))]) (places:=[(0,1),(1,1)]) zeroValue192 underlying192 (λw=>by simp [sizeOf3]) O O) O (vE (v:=(vN vq2)) O (H8 IA 1 (kvs:=C_ ts (3*t+1)) (x:=((min T.2.1 T.2.2,max T.2.1 T.2.2):P2)) (z0:=0) O O underlying190 zeroValue3 O (Fw hn hN _ Z) (EQ Z Z) hvq2) O ?_)))))))))
  have hmq:=N7 (ts:=ts) (3*t+1) ((min T.2.1 T.2.2,max T.2.1 T.2.2):P2)
  refine vE O (AV (c:=((vq2+1:Nat):Int)) O O (AY (a:=vq2) (b:=1) Z)) O (yC O (y5 IA 1 (kvs:=C_ ts (3*t+1)) (x:=((min T.2.1 T.2.2,max T.2.1 T.2.2):P2)) (z0:=0) (v:=vq2) O O underlying190 zeroValue3 O (Fw hn hN _ Z) (EQ Z Z) hvq2 O (y9 (cv 1 O O) (vE O (AK (v:=(vN (DL (C_ ts (3*t+1)) ((min T.2.1 T.2.2,max T.2.1 T.2.2):P2)))) O O) O (yU O (yn 1 (kvs:=C_ ts (3*t+1)) (x:=((min T.2.1 T.2.2,max T.2.1 T.2.2):P2)) (u:=vq2) (y:=vq2+1) O O O O ?_))))))
  rw [show Br (C_ ts (3*t+1)) ((min T.2.1 T.2.2,max T.2.1 T.2.2):P2) (vq2+1)=C_ ts (3*t+2) from by rw [hvq2,hT];exact (JJ (ts:=ts) (t:=t) (i:=1) Z).symm]
  refine zG (List.nil_sublist _) (zT (zF (sL [1,4,5,20,21,22,7,26] O) (zP (zC (zQ (st' (AV (c:=(2:Int)) O O jY) O (AJ O (oNl' (zF (sL [1,4,5,20,21,22,7,26] O) (zu (zk ?_)))))))))))
  refine q4 (st' (AW (c:=true) O O jY) O (oNl' (q1 (zZ O (zJ (q1 (zN (q4 (AJ O (asg' O (q6 (sL [1,4,5,20,21,22,7,26,8] O) ?_)))))))))))
  refine CE (Dm 10) sr (Bl O (Ag (v:=(pP b2 2)) O (AB (j:=2) O O underlying105 sizeOf3 O jY O) (BC 0 (vN T.2.2) BN O (Bl O (Ag O (AV (c:=(3:Int)) O O jY) (Ag O (Dn (c:=(0:Int)) O O jY jY) (Ag (v:=(pP b2 0)) O (AB (j:=0) O O underlying105 sizeOf3 O jY O) (BC 0 (vN T.1) BN O (pS' O (pS' O (zT ?_)))))))))))
  refine zF (sL [1,4,5,20,21,22,7,26,9,10] O) (zC ?_)
  obtain ⟨vq3,hvq3⟩:∃q,q=(Bb (C_ ts (3*t+2)) ((min T.2.2 T.1,max T.2.2 T.1):P2)).getD 0:=⟨_,rfl⟩
  refine ew [(0,true),(1,true),(2,true),(3,true),(4,true),(5,true),(6,true),(7,true),(8,true),(9,true),(10,false),(11,true)] 12 [] (gI 1 (x:=((min T.2.2 T.1,max T.2.2 T.1):P2)) (v:=vq3) O O) (List.nil_sublist _) jV (λ_ _ d _ _ h=>by cases d<;>exact h) (vM O O O (vM O O O (vM O O O (vE O (F7 (c:=((min T.2.2 T.1:Nat):Int)) O O (by split<;>omega)) O (vM O O O (vM O O O (vE O (E6 (c:=((max T.2.2 T.1:Nat):Int)) O O (by split<;>omega)) O (vE (v:=(aG ([(vN (min T.2.2 T.1)),(vN (max T.2.2 T.1))]))) O (AO (zs:=In ((0,0):P2)) (vs:=[(vN (min T.2.2 T.1)),(vN (max T.2.2 T.1))]) (pv:=[(0,(vN (min T.2.2 T.1))),(1,(vN (max T.2.2 T.1)))]) (places:=[(0,1),(1,1)]) zeroValue192 underlying192 (λw=>by simp [sizeOf3]) O O) O (vE (v:=(vN vq3)) O (H8 IA 1 (kvs:=C_ ts (3*t+2)) (x:=((min T.2.2 T.1,max T.2.2 T.1):P2)) (z0:=0) O O underlying190 zeroValue3 O (Fw hn hN _ Z) (EQ Z Z) hvq3) O ?_)))))))))
  have hmq:=N7 (ts:=ts) (3*t+2) ((min T.2.2 T.1,max T.2.2 T.1):P2)
  refine vE O (AV (c:=((vq3+1:Nat):Int)) O O (AY (a:=vq3) (b:=1) Z)) O (yC O (y5 IA 1 (kvs:=C_ ts (3*t+2)) (x:=((min T.2.2 T.1,max T.2.2 T.1):P2)) (z0:=0) (v:=vq3) O O underlying190 zeroValue3 O (Fw hn hN _ Z) (EQ Z Z) hvq3 O (y9 (cv 1 O O) (vE O (AK (v:=(vN (DL (C_ ts (3*t+2)) ((min T.2.2 T.1,max T.2.2 T.1):P2)))) O O) O (yU O (yn 1 (kvs:=C_ ts (3*t+2)) (x:=((min T.2.2 T.1,max T.2.2 T.1):P2)) (u:=vq3) (y:=vq3+1) O O O O ?_))))))
  rw [show Br (C_ ts (3*t+2)) ((min T.2.2 T.1,max T.2.2 T.1):P2) (vq3+1)=C_ ts (3*t+3) from by rw [hvq3,hT];exact (JJ (ts:=ts) (t:=t) (i:=2) Z).symm]
  refine zG (List.nil_sublist _) (zT (zF (sL [1,4,5,20,21,22,7,26] O) (zP (zC (zQ (st' (AV (c:=(3:Int)) O O jY) O (AJ O (oNl' (zF (sL [1,4,5,20,21,22,7,26] O) (zu (zk ?_)))))))))))
  refine q4 (st' (AW (c:=false) O O jY) O (oNl' (q1 (zX O (zY (zR (zR (zV (zP (zC (zQ ?_)))))))))))
  refine st' (AV (c:=((t+1:Nat):Int)) O O (AY (a:=t) (b:=1) Z)) O (AJ O (oNl' (zF (sL [1,4,5,20,21,22,7,26] O) ?_)))
  rw [show 3*t+3=3*(t+1)+0 by omega]
  exact zm (t+1) Z Z (sF O) (sl sr)
 ·replace hc1:=xQ hc1
  have htl:t=ts.length:=by omega
  refine zY (zR (zh (zV (q2 (asg' O (zx 110 3 (oNl' (q1 (q4 (AJ O ?_))))))))))
  rw [show C_ ts (3*t+0)=(C_ ts (3*ts.length)) by rw [htl,Nat.add_zero]]
  refine cX (S:=S) (cs:=rowsL Ba (BI ts)) (k:=(BI ts).length) (args:=[(qz x.p ts.length x.c)]) call101 (λw hw=>Vr ts x N hn hN hl w (inS hw 2 O lx)) O O O λo lo=>st' (v:=(vN ((BI ts).length))) (AD O underlying46) O (AJ O (oNl' (zF (sL [1,4,5,20,21,22,11,52,53,54] O) (zC (zN ?_)))))
  refine yb (tg λ(i:Nat) (p1:Option Addr) (c1:Nat) (out:List T3)=>i<=(BI ts).length/\OwnOk p1 out.length c1/\out=MW ts i) (tg λ(i:Nat) (p1:Option Addr) (c1:Nat) (out:List T3)=>[(4,jj),(5,(Value.map (some b1))),(52,(qz o.p ((BI ts).length) o.c)),(53,(vN ((BI ts).length))),(54,(vN i)),(11,(qz p1 out.length c1))]) (tg λ(i:Nat) (p1:Option Addr) (c1:Nat) (out:List T3)=>[AC o.p (rowsL Ba (BI ts)),rowW p1 110 3 out.length c1 (rowsL Am out),Dw b1 J0 vN (C_ ts (3*ts.length)),AC x.p (rowsL Am ts)]) (tg λ(i:Nat) (p1:Option Addr) (c1:Nat) (out:List T3)=>(BI ts).length-i) 0 none 0 ([]:List T3) (⟨xu _,OwnOk.none,rfl⟩) (sF O) sr (λi p1 c1 out hJ=>?_)
  obtain ⟨hi,ho,hou⟩:=hJ
  have hol:=XH (ts:=ts) i
  rw [<-hou] at hol
  refine q4 (st' (AW (c:=(decide (i<((BI ts).length)))) O O (B_ (a:=i) (b:=(BI ts).length))) O (oNl' (q1 ?_)))
  refine zO O (λhc3=>?_) (λhc3=>?_)
  ·replace hc3:=xR hc3
   have hel:=KK (ts:=ts) (3*ts.length)
   rw [<-KH] at hel
   have hmem:((BI ts).getD i jA)∈BI ts:=by rw [List.getD,xN hc3];exact List.getElem_mem hc3
   obtain ⟨hea,heb⟩:=Vq hn hN _ hmem
   refine zJ (q1 (zN (q4 (st' (v:=(pP (pB o.p) (pO o.p+i*4))) (AF (j:=i) O O o.ok underlying46 sizeOf49 O Z) O (st' (v:=(aG (Ba ((BI ts).getD i jA)))) (AH (vs:=Ba ((BI ts).getD i jA)) (i:=0) O O (Ao.ne o.ok Z) IN (AZ B6 _ _ _ Z) (B6 _)) O (al Hx O λb2=>Aj O sizeOf49 O (q3 (sL [4,5,52,53,54,11,13] O) (AJ O (st' (v:=(pP b2 0)) (AA O underlying49 O sizeOf3 O) O (A_ 0 (vN (((BI ts).getD i jA).a)) BN O ?_))))))))))
   refine st' (v:=(pP b2 1)) (AA O underlying49 O sizeOf3 O) O (A_ 0 (vN (((BI ts).getD i jA).b)) BN O (st' (v:=(aG ([(vN (((BI ts).getD i jA).a)),(vN (((BI ts).getD i jA).b))]))) (AO (zs:=In ((0,0):P2)) (vs:=[(vN (((BI ts).getD i jA).a)),(vN (((BI ts).getD i jA).b))]) (pv:=[(0,(vN (((BI ts).getD i jA).a))),(1,(vN (((BI ts).getD i jA).b)))]) (places:=[(0,1),(1,1)]) zeroValue192 underlying192 (λw=>by simp [sizeOf3]) O O) O (st' (v:=(vN ((Bb (C_ ts (3*ts.length)) ((((BI ts).getD i jA).a,((BI ts).getD i jA).b):P2)).getD 0))) (Hb IA 3 (eV:=vN) (kvs:=(C_ ts (3*ts.length))) (x:=((((BI ts).getD i jA).a,((BI ts).getD i jA).b):P2)) (z0:=0) (co:=false) O O underlying190 zeroValue3 O (Fw hn hN _ Z) (b_ Z Z)) O (st' (A9 (c:=(decide (((Bb (C_ ts (3*ts.length)) ((((BI ts).getD i jA).a,((BI ts).getD i jA).b):P2)).getD 0)=1))) O O (MA (a:=(Bb (C_ ts (3*ts.length)) ((((BI ts).getD i jA).a,((BI ts).getD i jA).b):P2)).getD 0) (b:=1))) O (oNl' (zF (sL [4,5,52,53,54,11,13,65] O) (zC ?_)))))))
   refine zO O (λhc4=>?_) (λhc4=>?_)
   ·replace hc4:=xR hc4
    refine zQ (AJ O (st' (v:=(pP b2 0)) (AA O underlying49 O sizeOf3 O) O (A_ 0 (vN (((BI ts).getD i jA).a)) BN O (st' (v:=(pP b2 1)) (AA O underlying49 O sizeOf3 O) O (A_ 0 (vN (((BI ts).getD i jA).b)) BN O (st' (v:=(aG ([(vN (((BI ts).getD i jA).a)),(vN (((BI ts).getD i jA).b)),(vI 0)]))) (AO (zs:=Am jJ) (vs:=[(vN (((BI ts).getD i jA).a)),(vN (((BI ts).getD i jA).b)),(vI 0)]) (pv:=[(0,(vN (((BI ts).getD i jA).a))),(1,(vN (((BI ts).getD i jA).b)))]) (places:=[(0,1),(1,1),(2,1)]) zeroValue110 underlying110 (λw=>by simp [sizeOf3]) O O) O (zn (V:=λb3=>(qz (jk b3) 1 1)) (T:=110) (cs:=Am (((BI ts).getD i jA).a,((BI ts).getD i jA).b,0)) (AM O) (BH (z:=.agg (Am jJ).toArray) (cs:=Am (((BI ts).getD i jA).a,((BI ts).getD i jA).b,0)) (pv:=[(0,(aG ([(vN (((BI ts).getD i jA).a)),(vN (((BI ts).getD i jA).b)),(vI 0)])))]) underlying24 sizeOf110 zeroValue110 jY jY O (J6 (((BI ts).getD i jA).a,((BI ts).getD i jA).b,0))) O (leB O) λb3=>yf 3 (j:=0) (cs2:=rowsL Am (out++[(((BI ts).getD i jA).a,((BI ts).getD i jA).b,0)])) cg O ho (Al A8 _) O O O O O jY (KU Z) Z (by rw [DE];rfl) O λp_1 c_1 ho_1 hne_1=>asg' O (oNl' (zF (sL [4,5,52,53,54,11,13] O) ?_)))))))))
    refine zP (zC (zQ (st' (AV (c:=((i+1:Nat):Int)) O O (AY (a:=i) (b:=1) Z)) O (AJ O (oNl' (zF (sL [4,5,52,53,54,11,13] O) ?_))))))
    rw [show out.length+1=(out++[(((BI ts).getD i jA).a,((BI ts).getD i jA).b,0)]).length by simp]
    exact yO (i+1) p_1 c_1 (out++[(((BI ts).getD i jA).a,((BI ts).getD i jA).b,0)]) (⟨Z,(by simpa using ho_1),by rw [hou];exact (XI Z hc4).symm⟩) Z (sF O) (sl (sl sr))
   ·replace hc4:=xQ hc4
    exact zJ (zP (zC (zQ (st' (AV (c:=((i+1:Nat):Int)) O O (AY (a:=i) (b:=1) Z)) O (AJ O (oNl' (zF (sL [4,5,52,53,54,11,13] O) (yO (i+1) p1 c1 out (⟨Z,ho,by rw [hou];exact (Zi Z hc4).symm⟩) Z (sF O) (sl sr)))))))))
  ·replace hc3:=xQ hc3
   exact zY (zR (yK (zV (q2 (AJ O (ck' call102 (On p1 out.length c1 ho.row.le) O (asg' O (oNl' (zF (sL [4,5,52,53,54,11] O) (zC (zH (ret_one O (rd_tmp (v:=(qz p1 out.length out.length)) O) (λw hw=>(by rw [show J3 ts=out by rw [hou,show i=(BI ts).length by omega];rfl];exact OE hw (OX.mk p1 c1 ho) (sl (sk (sl (sl sr)))) (Ht.own O Ht.nil) O))))))))))))))
end
section
set_option maxRecDepth 100000
theorem ag (us:List Bool) (n:Nat) (x:RX (bL us) n) (hn:us.length=n) (hl:n<=1000000) (hu:∀j,j<n->us.getD j false=true) (w:World) {S:Nat->Prop} (hx:Ro S w x):Calls prog 256 #[(qz x.p n x.c),(qa false)] w (AX w (vI (-1:Int))):=by
 have lx:=Bq (W:=w) hx
 refine AR (args:=[(qz x.p n x.c),(qa false)]) (L:=[AC x.p (bL us)]) func256 O O (leB O) (C7 hx Ae) (zM (sL [0,1] O) (q4 (asg' O (oNl' (q1 (q4 (AJ O (st' (v:=(vN n)) (AD O underlying143) O (AJ O (oNl' (zF (sL [0,1,4,7,8] O) ?_)))))))))))
 refine zC (zN ?_)
 refine zw (tg λ(j:Nat)=>j<=n) (tg λ(j:Nat)=>[(0,(qz x.p n x.c)),(1,(qa false)),(7,(vN n)),(8,(vN j))]) (tg λ(j:Nat)=>[AC x.p (bL us)]) (tg λ(j:Nat)=>n-j) 0 (xu _) (sF O) sr (λj hJ=>?_)
 have hj:=hJ
 refine q4 (st' (AW (c:=(decide (j<n))) O O (B_ (a:=j) (b:=n))) O (oNl' (q1 ?_)))
 refine zO O (λhc0=>?_) (λhc0=>?_)
 ·replace hc0:=xR hc0
  refine zJ (q1 (zN (q4 (AJ O (asg' O (q3 (sL [0,1,7,8,5] O) (AJ O (AJ O (AJ O (st' (v:=(pP (pB x.p) (pO x.p+j*1))) (AF (j:=j) O O x.ok underlying143 sizeOf4 O Z) O (st' (Ab (v:=(qa (us.getD j false))) (i:=0) O O (x.ok.ne Z) Kc (aw (us:=us) (j:=j) Z)) O ?_)))))))))))
  refine st' (Fu (c:=false) O O underlying4 (by rw [hu j Z];rfl)) O (oNl' (zF (sL [0,1,7,8,5,16] O) (zC (zX O (zJ (zP (zC (zQ (st' (AV (c:=((j+1:Nat):Int)) O O (AY (a:=j) (b:=1) Z)) O (AJ O (oNl' ?_)))))))))))
  exact zF (sL [0,1,7,8,5] O) (zm (j+1) Z Z (sF O) sr)
 ·replace hc0:=xQ hc0
  exact zY (zR (zh (zV (q2 (asg' O (oNl' (zC (zH (ret_one O (rd_tmp (v:=(vI (-1:Int))) O) (λw hw=>⟨rfl,hw.out⟩))))))))))
theorem Ur (us:List Bool) (n:Nat) (x:RX (bL us) n) (hn:us.length=n) (hl:n<=1000000) (hu:∀j,j<n->us.getD j false=true) (w:World) {S:Nat->Prop} (hx:Ro S w x):Calls prog 220 #[(qz x.p n x.c),(qa false)] w (AX w (qa false)):=by
 have lx:=Bq (W:=w) hx
 refine AR (args:=[(qz x.p n x.c),(qa false)]) (L:=[AC x.p (bL us)]) func220 O O (leB O) (C7 hx Ae) (zM (sL [0,1] O) (q4 (asg' O (oNl' (q2 (AJ O (AJ O (Bx call256 (λw hw=>ag us n x hn hl hu w (inS hw 0 O lx)) O (st' (CU (c:=false) O O jY) O (asg' O (oNl' ?_)))))))))))
 exact zF (sL [4] O) (zC (zH (ret_one O (rd_tmp (v:=(qa false)) O) (λw hw=>⟨rfl,hw.out⟩))))
theorem QE (ys:List Pt) (n:Nat) (x:RX (rowsL Ad ys) n) (hn:ys.length=n) (hl:n<=1000000) (hy:ys.Nodup) (w:World) {S:Nat->Prop} (hx:Ro S w x):Calls prog 224 #[(qz x.p n x.c)] w (AX w (qz x.p n x.c)):=by
 have lx:=Bq (W:=w) hx
 refine AR (args:=[(qz x.p n x.c)]) (L:=[AC x.p (rowsL Ad ys)]) func224 O O (leB O) (C7 hx Ae) (zM (sL [0] O) (q4 (asg' O (oNl' (q1 (q4 (AJ O (st' (v:=(vN n)) (AD O underlying28) O (st' (AW (c:=(decide (n<2))) O O (B_ (a:=n) (b:=2))) O (oNl' (zF (sL [0,2,8] O) ?_)))))))))))
 refine zC ?_
 refine zO O (λhc0=>?_) (λhc0=>?_)
 ·replace hc0:=xR hc0
  exact q4 (AJ O (asg' O (oNl' (zF (sL [0,2] O) (zC (zH (zI (ret_one O (rd_tmp (v:=(qz x.p n x.c)) O) (λw hw=>⟨rfl,hw.out⟩)))))))))
 ·replace hc0:=xQ hc0
  refine zJ (q1 (q4 (asg' O (oNl' (zC (zN ?_))))))
  refine zw (tg λ(k:Nat)=>1<=k/\k<=n) (tg λ(k:Nat)=>[(0,(qz x.p n x.c)),(3,(vN k))]) (tg λ(k:Nat)=>[AC x.p (rowsL Ad ys)]) (tg λ(k:Nat)=>n-k) 1 (⟨Nat.le_refl _,Z⟩) (sF O) sr (λk hJ=>?_)
  obtain ⟨hk1,hk⟩:=hJ
  refine zf (q4 (AJ O (AJ O (st' (v:=(vN n)) (AD O underlying28) O (st' (AW (c:=(decide (k<n))) O O (B_ (a:=k) (b:=n))) O (oNl' (zF (sL [0,3,13] O) (zC ?_))))))))
  refine zO O (λhc1=>?_) (λhc1=>?_)
  ·replace hc1:=xR hc1
   refine zJ (q1 (zN (zf (CE (Dm 10) sr (Bl O (Bl O (Ag (v:=(pP (pB x.p) (pO x.p+k*10))) O (AF (j:=k) O O x.ok underlying28 sizeOf99 O Z) (Ag (v:=(aG (Ad (ys.getD k (⟨0,0⟩:Pt))))) O (AH (vs:=Ad (ys.getD k (⟨0,0⟩:Pt))) (i:=0) O O (Ao.ne x.ok Z) BD (AZ Az _ _ _ Z) (Az _)) (Bl O (Bl O (Ag O (Bc (c:=((k-1:Nat):Int)) O O (B8 (a:=k) (b:=1) Z Z)) ?_)))))))))))
   refine Ag (v:=(pP (pB x.p) (pO x.p+(k-1)*10))) O (AF (j:=k-1) O O x.ok underlying28 sizeOf99 O Z) (Ag (v:=(aG (Ad (ys.getD (k-1) (⟨0,0⟩:Pt))))) O (AH (vs:=Ad (ys.getD (k-1) (⟨0,0⟩:Pt))) (i:=0) O O (Ao.ne x.ok Z) BD (AZ Az _ _ _ Z) (Az _)) (Ag O (Cf (c:=decide (ys.getD k (⟨0,0⟩:Pt)=ys.getD (k-1) (⟨0,0⟩:Pt))) O O eqGuardType99 (Vs 9994 (ys.getD k (⟨0,0⟩:Pt)) (ys.getD (k-1) (⟨0,0⟩:Pt)))) (zT (zF (sL [0,3,25] O) (zC ?_)))))
   refine zO O (λhc2=>?_) (λhc2=>?_)
   ·replace hc2:=xR hc2
    exact (Tu hy Z Z hc2).elim
   ·replace hc2:=xQ hc2
    exact zJ (zP (zC (zQ (AJ O (st' (AV (c:=((k+1:Nat):Int)) O O (AY (a:=k) (b:=1) Z)) O (asg' O (oNl' (zF (sL [0,3] O) (zm (k+1) (⟨Z,Z⟩) Z (sF O) sr)))))))))
  ·replace hc1:=xQ hc1
   exact zY (zR (zh (zV (q2 (AJ O (asg' O (oNl' (zF (sL [0,3,2] O) (zC (zH (ret_one O (rd_tmp (v:=(qz x.p n x.c)) O) (λw hw=>⟨rfl,hw.out⟩))))))))))))
theorem eT:Oe prog 143 4 (.bool false) 1:=⟨underlying143,_,_,rfl,rfl,rfl,rfl,rfl⟩
set_option maxHeartbeats 1000000 in
theorem ZL {ps:List Pt} {ts ss:List T3} (x:MX ps ts ss) (hv:NU ps ts ss) (w:World) {S:Nat->Prop} (hx:Ro S w x):Calls prog 183 #[(aG (E9 x))] w (AX w (qa true)):=by
 have hp:=hv.pl
 have htl:=hv.tl
 have hsl:=hv.sl
 have h0:=hv.t0
 have hbp:∀p∈ps,BV p<=1000:=λp hp=>by obtain ⟨j,hj,rfl⟩:=List.getElem_of_mem hp;have h9:=hv.sz j;rwa [BQ,List.getD,xN hj] at h9
 have hps0:0<ps.length:=by have h9:=(DZ (Cs hv.num hv.t0)).1;omega
 have lx:=Bq (W:=w) hx
 refine AR (args:=[(aG (E9 x))]) (L:=[AC x.a.p (rowsL Ad ps),AC x.b.p (rowsL Am ts),AC x.c.p (rowsL Am ss)]) func183 O O (leB O) (C7 hx Ae) (zM (sL [0] O) (q4 (BG (cs:=E9 x) O λb1=>asg' O (q3 (sL [1,2] O) (st' (v:=(pP b1 0)) (AA O underlying30 O sizeOf28 O) O (A_ 0 (qz x.a.p ps.length x.a.c) DS O (st' (v:=(vN ps.length)) (AD O underlying28) O ?_)))))))
 refine AQ.makeBool (m:=ps.length) eT O O Z O O ?_;intro bm hbm;rw [UZ ts ps.length]
 refine asg' O (q6 (sL [1,2,3] O) (q4 (st' (v:=(pP b1 1)) (AA O underlying30 O sizeOf23 O) O (A_ 1 (qz x.b.p ts.length x.b.c) CQ O (st' (v:=(vN ts.length)) (AD O underlying23) O (AJ O (oNl' (zF (sL [1,2,3,12,13,14] O) (zC (zN ?_))))))))))
 refine zw (tg λ(t:Nat)=>t<=ts.length) (tg λ(t:Nat)=>[(1,(pP b1 0)),(2,(qa false)),(3,(qz (jk bm) ps.length ps.length)),(12,(qz x.b.p ts.length x.b.c)),(13,(vN ts.length)),(14,(vN t))]) (tg λ(t:Nat)=>[rowW (jk bm) 4 1 ps.length ps.length (bL (L3 ts ps.length t)),AU b1 30 (E9 x),AC x.a.p (rowsL Ad ps),AC x.b.p (rowsL Am ts),AC x.c.p (rowsL Am ss)]) (tg λ(t:Nat)=>ts.length-t) 0 (xu _) (sF O) sr (λt hJ=>?_)
 have ht:=hJ
 refine q4 (st' (AW (c:=(decide (t<ts.length))) O O (B_ (a:=t) (b:=ts.length))) O (oNl' (q1 ?_)))
 refine zO O (λhc0=>?_) (λhc0=>?_)
 ·replace hc0:=xR hc0
  obtain ⟨T,hT⟩:∃q,q=ts.getD t (0,0,0):=⟨_,rfl⟩
  obtain ⟨g1,g2,g3⟩:=DZ (Cs hv.num hc0)
  rw [<-hT] at g1 g2 g3
  refine zJ (q1 (zN (q4 (st' (v:=(pP (pB x.b.p) (pO x.b.p+t*3))) (AF (j:=t) O O x.b.ok underlying23 sizeOf105 O Z) O (st' (v:=(aG (Am (ts.getD t jJ)))) (AH (vs:=Am (ts.getD t jJ)) (i:=3) O O (Ao.ne x.b.ok Z) CY (AZ A8 _ _ _ Z) (A8 _)) O (zK (k:=17) (u:=(aG (Am T))) O (by rw [hT]) (al Gu O λb2=>Aj O sizeOf105 O (oNl' (zF (sL [1,2,3,12,13,14,5] O) (zC ?_))))))))))
  refine CE (Dm 10++[(10,false),(11,true),(12,false),(13,true),(14,false)]) (sk (sl sr)) (Bl O (Ag (v:=(pP b2 0)) O (AB (j:=0) O O underlying105 sizeOf3 O jY O) (BC 0 (vN T.1) BN O (Bl O (Ag (v:=(pP b2 1)) O (AB (j:=1) O O underlying105 sizeOf3 O jY O) (BC 0 (vN T.2.1) BN O (Bl O (Ag (v:=(pP b2 2)) O (AB (j:=2) O O underlying105 sizeOf3 O jY O) (BC 0 (vN T.2.2) BN O (Ag (v:=(pP (pB (jk bm)) (pO (jk bm)+T.1*1))) O (AF (j:=T.1) O O hbm.row underlying143 sizeOf4 O Z) (zL O ?_)))))))))))
  refine yv (j:=T.1) (v:=(qa true)) O O hbm (by rw [Nd,Nat.mul_one];simp [HR]) Z O sizeOf4 O (QS _ _ _) (zG (sk (sl sr)) (Ag (v:=(pP (pB (jk bm)) (pO (jk bm)+T.2.1*1))) O (AF (j:=T.2.1) O O hbm.row underlying143 sizeOf4 O Z) (zL O (yv (j:=T.2.1) (v:=(qa true)) O O hbm (by rw [Nd,Nat.mul_one];simp [HR]) Z O sizeOf4 O (QS _ _ _) (zG (sk (sl sr)) (Ag (v:=(pP (pB (jk bm)) (pO (jk bm)+T.2.2*1))) O (AF (j:=T.2.2) O O hbm.row underlying143 sizeOf4 O Z) (zL O (yv (j:=T.2.2) (v:=(qa true)) O O hbm (by rw [Nd,Nat.mul_one];simp [HR]) Z O sizeOf4 O (QS _ _ _) (zG (sk (sl sr)) (zT (zF (sL [1,2,3,12,13,14,5] O) ?_)))))))))))
  refine zP (zC (zQ (st' (AV (c:=((t+1:Nat):Int)) O O (AY (a:=t) (b:=1) Z)) O (AJ O (oNl' (zF (sL [1,2,3,12,13,14,5] O) ?_))))))
  rw [hT,UY Z]
  exact zm (t+1) Z Z (sF O) (sl sr)
 ·replace hc0:=xQ hc0
  have htt:t=ts.length:=by omega
  refine zY (zR (zh (zV (q1 (q4 (AJ O (yJ 0 O hbm (by rw [Nd,Nat.mul_one];simp [HR]) O O λhn_US=>Bx call220 (λw hw=>Ur (L3 ts ps.length t) ps.length ⟨(jk bm),ps.length,hbm.row⟩ (HR _ _ _) Z (λj hj=>by rw [htt];exact Xx hj (hv.use j hj)) w (inS (S:=S) hw 0 O (At.new hn_US))) O (oNl' (zF (sL [1,2,3,12,13,14,32] O) (zC ?_))))))))))
  refine zX O (zJ (q2 (st' (v:=(pP b1 0)) (AA O underlying30 O sizeOf28 O) O (A_ 1 (qz x.a.p ps.length x.a.c) DS O (yR (S:=S) (V:=Pc) (LW:=ZO (T:=99) (z:=10) (cs:=rowsL Ad ps) (n:=ps.length)) (args:=[(qz x.a.p ps.length x.a.c)]) call51 (λw hw=>Ml ps x.a Z w (f3 (inS hw 2 O lx))) O λcl1 hcl1=>asg' O (q3 (sL [1,2,3,12,13,14,6] O) (AJ O ?_)))))))
  have hpn:cl1.p≠none:=λe=>by have:=(cl1.ok.nil e).1;omega
  refine AQ.callWX 0 (α:=List Pt) (K:=λys=>ys.Perm ps) (cs':=λys=>rowsL Ad ys) (v:=(Value.tuple #[])) (AM O) (Ak (args:=[(qz cl1.p ps.length cl1.c),(Value.func (.func 222) #[] #[])]) O O call221) O (λw hw=>Xd ps _ _ _ 99 cl1.ok hpn O Z hbp w (hw.holds (i:=0) O)) (λd hd=>by cases hd<;>exact (leB O)) λys hys=>?_
  have hyl:=hys.length_eq
  refine yJ 0 O cl1.ok (by rw [Al Az,hyl]) O O λhn_cl1=>q6 (sL [1,2,3,12,13,14,6] O) (CE [(0,true),(3,true),(4,true),(5,true),(1,false),(2,true),(6,true),(7,true)] sr (Bl O (Ag (v:=(pP b1 0)) O (AA O underlying30 O sizeOf28 O) (BC 2 (qz x.a.p ps.length x.a.c) DS O (Ag (v:=(vN ps.length)) O (AD O underlying28) (zL O (Bx call224 (λw hw=>QE ys ps.length ⟨cl1.p,cl1.c,cl1.ok.row⟩ hyl Z (hys.nodup_iff.2 hv.dst) w (inS (S:=S) hw 0 O (At.new hn_cl1))) O (zG sr (Ag (v:=(vN ps.length)) O (AD O underlying28) (Ag O (A9 (c:=true) O O (xr O)) ?_))))))))))
  exact pS' O (zT (zF (sL [1,2,3,12,13,14,6] O) (zC (zH (ret_one O (rd_tmp (v:=(qa true)) O) (λw hw=>⟨rfl,hw.out⟩))))))
theorem Zh (s r:T3) (h:s.1=r.1/\s.2.1=r.2.1) (w:World)  :Calls prog 229 #[(aG (Am s)),(aG (Am r))] w (AX w (qa true)):=by
 refine AS (args:=[(aG (Am s)),(aG (Am r))]) func229 O O (leB O) (zM (sL [0,1] O) (q4 (BG (cs:=Am s) O λb1=>BG (cs:=Am r) O λb2=>asg' O (q3 (sL [2,3,4] O) (st' (v:=(pP b1 0)) (AA O underlying110 O sizeOf3 O) O (A_ 1 (vN s.1) BN O (st' (v:=(pP b2 0)) (AA O underlying110 O sizeOf3 O) O (A_ 0 (vN r.1) BN O (st' (A9 (c:=true) O O (xr Z)) O ?_)))))))))
 exact AJ O (Au (v:=(pP b1 1)) O (AA O underlying110 O sizeOf3 O) (Au (v:=(vN s.2.1)) O (AE (i:=1) (v:=(vN s.2.1)) O O BN.a O) (Au (v:=(pP b2 1)) O (AA O underlying110 O sizeOf3 O) (Au (v:=(vN r.2.1)) O (AE (i:=0) (v:=(vN r.2.1)) O O BN.a O) (Au (v:=(qa true)) O (A9 (c:=true) O O (xr Z)) (st' (v:=(qa true)) (ex_pick_true O O) O (asg' O (oNl' (zF (sL [4] O) (zC (zH (ret_one O (rd_tmp (v:=(qa true)) O) (λw hw=>⟨rfl,hw.out⟩)))))))))))))
theorem XU (xs ys:List T3) (x:RX (rowsL Am xs) xs.length) (y:RX (rowsL Am ys) ys.length) (hn:xs.length=ys.length) (hl:xs.length<=1000000) (hk:∀j,j<xs.length->(xs.getD j (0,0,0)).1=(ys.getD j (0,0,0)).1/\(xs.getD j (0,0,0)).2.1=(ys.getD j (0,0,0)).2.1) (w:World) {S:Nat->Prop} (hx:Ro S w x) (hy:Ro S w y):Calls prog 138 #[(qz x.p xs.length x.c),(qz y.p ys.length y.c),(Value.func (.func 229) #[] #[])] w (AX w (qa true)):=by
 have lx:=Bq (W:=w) hx
 have ly:=Bq (W:=w) hy
 refine AR (args:=[(qz x.p xs.length x.c),(qz y.p ys.length y.c),(Value.func (.func 229) #[] #[])]) (L:=[AC x.p (rowsL Am xs),AC y.p (rowsL Am ys)]) func138 O O (leB O) (C7 hx (C7 hy Ae)) (zM (sL [0,1,2] O) (q4 (asg' O (oNl' (q1 (q4 (AJ O (st' (v:=(vN xs.length)) (AD O underlying24) O (AJ O (st' (v:=(vN ys.length)) (AD O underlying24) O (st' (Bf (c:=false) O O (xq Z)) O ?_)))))))))))
 refine oNl' (zF (sL [0,1,2,6,12] O) (zC (zX O (zJ (q1 (q4 (AJ O (st' (v:=(vN xs.length)) (AD O underlying24) O (AJ O (oNl' (zF (sL [0,1,2,6,14,15] O) ?_)))))))))))
 refine zC (zN ?_)
 refine zw (tg λ(j:Nat)=>j<=xs.length) (tg λ(j:Nat)=>[(0,(qz x.p xs.length x.c)),(1,(qz y.p ys.length y.c)),(2,(Value.func (.func 229) #[] #[])),(14,(vN xs.length)),(15,(vN j))]) (tg λ(j:Nat)=>[AC x.p (rowsL Am xs),AC y.p (rowsL Am ys)]) (tg λ(j:Nat)=>xs.length-j) 0 (xu _) (sF O) sr (λj hJ=>?_)
 have hj:=hJ
 refine q4 (st' (AW (c:=(decide (j<xs.length))) O O (B_ (a:=j) (b:=xs.length))) O (oNl' (q1 ?_)))
 refine zO O (λhc1=>?_) (λhc1=>?_)
 ·replace hc1:=xR hc1
  refine zJ (q1 (zN (q4 (AJ O (asg' O (q6 (sL [0,1,2,14,15,7] O) (CE (Dm 9++[(9,false),(10,true)]) sr (Bl O (Bl O (Bl O (Ag (v:=(pP (pB x.p) (pO x.p+j*3))) O (AF (j:=j) O O x.ok underlying24 sizeOf110 O Z) ?_)))))))))))
  refine Ag (v:=(aG (Am (xs.getD j jJ)))) O (AH (vs:=Am (xs.getD j jJ)) (i:=0) O O (Ao.ne x.ok Z) Ls (AZ A8 _ _ _ Z) (A8 _)) (Bl O (Bl O (Ag (v:=(pP (pB y.p) (pO y.p+j*3))) O (AF (j:=j) O O y.ok underlying24 sizeOf110 O Z) (Ag (v:=(aG (Am (ys.getD j jJ)))) O (AH (vs:=Am (ys.getD j jJ)) (i:=1) O O (Ao.ne y.ok Z) Ls (AZ A8 _ _ _ Z) (A8 _)) (zL O (ck' call229 (Zh _ _ (hk j Z)) O (zG sr (Ag O (BB (c:=false) O O) (zT (zF (sL [0,1,2,14,15,28] O) (zC ?_)))))))))))
  exact zX O (zJ (zP (zC (zQ (st' (AV (c:=((j+1:Nat):Int)) O O (AY (a:=j) (b:=1) Z)) O (AJ O (oNl' (zF (sL [0,1,2,14,15] O) (zm (j+1) Z Z (sF O) sr)))))))))
 ·replace hc1:=xQ hc1
  exact zY (zR (zh (zV (q2 (asg' O (oNl' (zC (zH (ret_one O (rd_tmp (v:=(qa true)) O) (λw hw=>⟨rfl,hw.out⟩))))))))))
theorem UI {ps:List Pt} {ts ss:List T3} (x:MX ps ts ss) (hv:NU ps ts ss) (w:World) {S:Nat->Prop} (hx:Ro S w x):Calls prog 185 #[(aG (E9 x))] w (AX w (qa true)):=by
 have hp:=hv.pl
 have htl:=hv.tl
 have hsl:=hv.sl
 have h0:=hv.t0
 have lx:=Bq (W:=w) hx
 refine AR (args:=[(aG (E9 x))]) (L:=[AC x.a.p (rowsL Ad ps),AC x.b.p (rowsL Am ts),AC x.c.p (rowsL Am ss)]) func185 O O (leB O) (C7 hx Ae) (zM (sL [0] O) (q4 (BG (cs:=E9 x) O λb1=>asg' O (q6 (sL [1,2] O) (CE (Dm 6++[(6,false),(7,false),(8,true)]) sr (Ag (v:=(pP b1 2)) O (AA O underlying30 O sizeOf24 O) (BC 0 (qz x.c.p ss.length x.c.c) GS O (Ag (v:=(pP b1 0)) O (AA O underlying30 O sizeOf28 O) (BC 0 (qz x.a.p ps.length x.a.c) DS O (Ag (v:=(pP b1 1)) O (AA O underlying30 O sizeOf23 O) ?_))))))))))
 refine BC 0 (qz x.b.p ts.length x.b.c) CQ O (zL O (yR (S:=S) (V:=Ul) (LW:=ZO (T:=110) (z:=3) (cs:=rowsL Am (J3 ts)) (n:=(J3 ts).length)) (args:=[(qz x.a.p ps.length x.a.c),(qz x.b.p ts.length x.b.c)]) call56 (λw hw=>ap ts x.b x.a.p ps.length x.a.c hv.num Z Z w (eB (inS hw 1 O lx))) O λrm hrm=>yJ 0 O rm.ok (Al A8 _) O O λhn_rm=>zG (sl sr) (zL O (Bx call138 (λw hw=>XU ss (J3 ts) x.c ⟨rm.p,(J3 ts).length,rm.ok.clip⟩ hv.rl Z hv.rim w (f4 (inS hw 2 O lx)) (inS (S:=S) hw 0 O (At.new hn_rm))) O (zG (sl sr) (pS' O (zT (zF (sL [2] O) (zC ?_)))))))))
 exact zH (ret_one O (rd_tmp (v:=(qa true)) O) (λw hw=>⟨rfl,hw.out⟩))
theorem Up {ps:List Pt} {ts ss:List T3} (x:MX ps ts ss) (hv:NU ps ts ss) (w:World) {S:Nat->Prop} (hx:Ro S w x):Calls prog 128 #[(aG (E9 x))] w (AX w (vI 0)):=by
 have hp:=hv.pl
 have htl:=hv.tl
 have hsl:=hv.sl
 have h0:=hv.t0
 have lx:=Bq (W:=w) hx
 refine AR (args:=[(aG (E9 x))]) (L:=[AC x.a.p (rowsL Ad ps),AC x.b.p (rowsL Am ts),AC x.c.p (rowsL Am ss)]) func128 O O (leB O) (C7 hx Ae) (zM (sL [0] O) (q4 (BG (cs:=E9 x) O λb1=>asg' O (q6 (sL [1,2] O) (zN (q4 (st' (v:=(pP b1 0)) (AA O underlying30 O sizeOf28 O) O (A_ 0 (qz x.a.p ps.length x.a.c) DS O (st' (v:=(vN ps.length)) (AD O underlying28) O (st' (B2 (c:=false) O O (xq Z)) O ?_))))))))))
 refine AJ O (Au (v:=(pP b1 1)) O (AA O underlying30 O sizeOf23 O) (Au (v:=(qz x.b.p ts.length x.b.c)) O (AE (i:=0) (v:=(qz x.b.p ts.length x.b.c)) O O CQ.a O) (Au (v:=(vN ts.length)) O (AD O underlying23) (Au (v:=(qa false)) O (B2 (c:=false) O O (xq Z)) (st' (v:=(qa false)) (AI O O) O (AJ O (Au (v:=(pP b1 2)) O (AA O underlying30 O sizeOf24 O) (Au (v:=(qz x.c.p ss.length x.c.c)) O (AE (i:=0) (v:=(qz x.c.p ss.length x.c.c)) O O GS.a O) (Au (v:=(vN ss.length)) O (AD O underlying24) (Au (v:=(qa false)) O (B2 (c:=false) O O (xq Z)) (st' (v:=(qa false)) (AI O O) O ?_)))))))))))
 refine asg' O (oNl' (zF (sL [1,2,3] O) (zC (zX O (q4 (An 0 Bu O (Bx call182 (λw hw=>YV x hv w (inS hw 1 O lx)) O (st' (BB (c:=false) O O) O (asg' O (oNl' (zF (sL [1,2,20] O) ?_)))))))))))
 refine zC (zX O (q4 (An 0 Bu O (Bx call183 (λw hw=>ZL x hv w (inS hw 1 O lx)) O (st' (BB (c:=false) O O) O (AJ O (Au (v:=(aG (E9 x))) O (Ac (i:=0) (vs:=E9 x) O O Bu.a Bu.s O O) (zj (v:=(qa true)) (AN O) (Ak (args:=[(aG (E9 x))]) O O call184) (λw hw=>VM x hv w (inS hw 1 O lx)) O (leB O) (Au (v:=(qa false)) O (BB (c:=false) O O) (st' (v:=(qa false)) (AI O O) O (AJ O ?_)))))))))))
 refine Au (v:=(aG (E9 x))) O (Ac (i:=0) (vs:=E9 x) O O Bu.a Bu.s O O) (zj (v:=(qa true)) (AN O) (Ak (args:=[(aG (E9 x))]) O O call185) (λw hw=>UI x hv w (inS hw 1 O lx)) O (leB O) (Au (v:=(qa false)) O (BB (c:=false) O O) (st' (v:=(qa false)) (AI O O) O (asg' O (oNl' (zF (sL [1,2,24] O) (zC (zX O (zJ (zP (q2 ?_)))))))))))
 exact asg' O (oNl' (zF (sL [1,2] O) (zC (zH (ret_one O (rd_tmp (v:=(vI 0)) O) (λw hw=>⟨rfl,hw.out⟩))))))
end
section
set_option maxRecDepth 100000
theorem Qw (w:World):Calls prog 42 #[(vI 0),(vI (0))] w (AX w (aG (Ad (⟨0,0⟩:Pt)))):=by
 have h:=KZ 0 (0) jY jY jY jY w
 rw [show (⟨((0:Int):Rat),((0:Int):Rat)⟩:Pt)=(⟨0,0⟩:Pt) from by decide +kernel] at h
 exact h
theorem PQ (w:World):Calls prog 42 #[(vI 2),(vI (-1))] w (AX w (aG (Ad (⟨2,-1⟩:Pt)))):=by
 have h:=KZ 2 (-1) jY jY jY jY w
 rw [show (⟨((2:Int):Rat),((-1:Int):Rat)⟩:Pt)=(⟨2,-1⟩:Pt) from by decide +kernel] at h
 exact h
theorem Qy (w:World):Calls prog 42 #[(vI 4),(vI (0))] w (AX w (aG (Ad (⟨4,0⟩:Pt)))):=by
 have h:=KZ 4 (0) jY jY jY jY w
 rw [show (⟨((4:Int):Rat),((0:Int):Rat)⟩:Pt)=(⟨4,0⟩:Pt) from by decide +kernel] at h
 exact h
theorem Qx (w:World):Calls prog 42 #[(vI 2),(vI (1))] w (AX w (aG (Ad (⟨2,1⟩:Pt)))):=by
 have h:=KZ 2 (1) jY jY jY jY w
 rw [show (⟨((2:Int):Rat),((1:Int):Rat)⟩:Pt)=(⟨2,1⟩:Pt) from by decide +kernel] at h
 exact h
theorem aj {ps:List Pt} {ts ss:List T3} (x:MX ps ts ss) (u v:Int) {b:Bool} {e:Nat} (h1:Y9 ps ts u v=b) (h2:Y_ ts u v=e) (hnb:Bn ps.length ts=true) (htl:ts.length<=1000000) (hN:ps.length<=1000000) (hz:∀i,BV (BQ ps i)<=200000) (w:World) {S:Nat->Prop} (hx:Ro S w x):Calls prog 26 #[(aG (E9 x)),(vI u),(vI v)] w (AX w (.tuple #[.bool b,vN e])):=by
 subst h1 h2
 obtain ⟨y,hy,hro⟩:=Sc x
 have h9:=Od y u v hnb htl hN hz w (hro hx)
 rw [hy] at h9
 exact h9
theorem Uz {ps:List Pt} {ts ss:List T3} (x:MX ps ts ss) (u v:Int) {p':List Pt} {t':List T3} {s':List Z3} {e:Nat} (h:Uh ps ts u v=p'/\Uj ps ts u v=t'/\Ui ps ts (ss.map CH) u v=s'/\Ug ps ts u v=e) (hnb:Bn ps.length ts=true) (htl:ts.length<=1000000) (hN:ps.length<=1000000) (hsl:ss.length<=1000000) (hz:∀i,BV (BQ ps i)<=200000) (w:World) {S:Nat->Prop} (hx:Ro S w x):Calls prog 28 #[(aG (E9 x)),(vI u),(vI v)] w (Ai (S7 p' t' s' e) S w):=by
 obtain ⟨rfl,rfl,rfl,rfl⟩:=h
 obtain ⟨y,hy,hro⟩:=Sc x
 have h9:=Rx y u v hnb htl hN (by rw [xv];exact hsl) hz w (hro hx)
 rw [hy] at h9
 exact h9
theorem fA {ps:List Pt} {ts ss:List T3} (x:MX ps ts ss) (hk:NU ps ts ss) {t':List T3} (h1:ID ps ts=true) (h2:Fl ps ts=t') (h3:ID ps t'=false) (hn2:Bn ps.length t'=true) (hz:∀i,BV (BQ ps i)<=200000) (w:World) {S:Nat->Prop} (hx:Ro S w x):Calls prog 76 #[(aG (E9 x))] w (Ai (dG ps t' (ss.map CH) 1 0) S w):=by
 subst h2
 have l1:=hk.pl
 have l2:=hk.tl
 have l3:=hk.sl
 have hcx:=λ(w:World) (S:Nat->Prop) (h:Ro S w x)=>Up x hk w h
 obtain ⟨y,hy,hro,hor⟩:=bn x
 have h9:=YI y hk.num Z Z (by rw [xv];omega) hz (λw S h=>by have h8:=hcx w S (hor h);rw [<-hy] at h8;exact h8) h1 h3 hn2 w (hro hx)
 rw [hy] at h9
 exact h9
theorem dK {ps:List Pt} {ts ss:List T3} (x:MX ps ts ss) (hnb:Bn ps.length ts=true) (htl:ts.length<=8192) (hN:ps.length<=1000000) (hz:∀i,BV (BQ ps i)<=1000) (w:World) {S:Nat->Prop} (hx:Ro S w x):Calls prog 31 #[(aG (E9 x))] w (AX w (aG (AG (HA ps ts)))):=by
 obtain ⟨y,hy,hro⟩:=Sc x
 have h9:=NY y htl hN hz hnb w (hro hx)
 rw [hy] at h9
 exact h9
theorem U9 {ps:List Pt} {ts:List T3} {ss:List Z3} (x y:MN ps ts ss) (hp:ps.length<=1000000) (ht:ts.length<=1000000) (hs:ss.length<=1000000) (w:World) {S:Nat->Prop} (hx:Ro S w x) (hy:Ro S w y):Calls prog 78 #[(aG (Ca x)),(aG (Ca y))] w (AX w (qa true)):=by
 obtain ⟨y1,e1,r1⟩:=PY x
 obtain ⟨y2,e2,r2⟩:=PY y
 have h9:=U_ y1 y2 hp (by rw [xv];exact ht) hs w (r1 hx) (r2 hy)
 rw [xr ⟨rfl,rfl,rfl⟩,e1,e2] at h9
 exact h9
theorem L0 (x0 x1 x2 x3:Pt):Instr.fill (λi=>some (i*10,10)) ((Array.range (4*10)).map ((Value.agg (Ad (⟨0,0⟩:Pt)).toArray).cells[·%(Value.agg (Ad (⟨0,0⟩:Pt)).toArray).cells.size]!)) [(0,.agg (Ad x0).toArray),(1,.agg (Ad x1).toArray),(2,.agg (Ad x2).toArray),(3,.agg (Ad x3).toArray)]=some (Ad x0++Ad x1++Ad x2++Ad x3).toArray:=by kernel_rfl
theorem D5 (x0 x1 x2:Nat):Instr.fill (λi=>some (i*1,1)) (Am jJ).toArray [(0,vN x0),(1,vN x1),(2,vN x2)]=some (Am (x0,x1,x2)).toArray:=by kernel_rfl
theorem J9 (x0 x1:Tq3):Instr.fill (λi=>some (i*3,3)) ((Array.range (2*3)).map ((Value.agg (Am jJ).toArray).cells[·%(Value.agg (Am jJ).toArray).cells.size]!)) [(0,.agg (Am x0).toArray),(1,.agg (Am x1).toArray)]=some (Am x0++Am x1).toArray:=by kernel_rfl
theorem J_ (x0 x1 x2 x3:Tq3):Instr.fill (λi=>some (i*3,3)) ((Array.range (4*3)).map ((Value.agg (Am jJ).toArray).cells[·%(Value.agg (Am jJ).toArray).cells.size]!)) [(0,.agg (Am x0).toArray),(1,.agg (Am x1).toArray),(2,.agg (Am x2).toArray),(3,.agg (Am x3).toArray)]=some (Am x0++Am x1++Am x2++Am x3).toArray:=by kernel_rfl
set_option maxHeartbeats 1000000 in
theorem LS  (w:World) (hT:Kh w):Calls prog 25 #[] w (AX w (qa true)):=by
 have hf2:DP.length=2:=rfl
 refine AS (args:=[]) func25 O O (leB O) (zM sN (q4 (asg' O (oNl' (q2 (ck' call42 (Qw) O (ck' call42 (PQ) O (ck' call42 (Qy) O (ck' call42 (Qx) O (zn (V:=λb1=>(qz (jk b1) 4 4)) (T:=99) (cs:=Ad (⟨0,0⟩:Pt)++Ad (⟨2,-1⟩:Pt)++Ad (⟨4,0⟩:Pt)++Ad (⟨2,1⟩:Pt)) (AM O) (BH (z:=.agg (Ad (⟨0,0⟩:Pt)).toArray) (cs:=Ad (⟨0,0⟩:Pt)++Ad (⟨2,-1⟩:Pt)++Ad (⟨4,0⟩:Pt)++Ad (⟨2,1⟩:Pt)) (pv:=[(0,(aG (Ad (⟨0,0⟩:Pt)))),(1,(aG (Ad (⟨2,-1⟩:Pt)))),(2,(aG (Ad (⟨4,0⟩:Pt)))),(3,(aG (Ad (⟨2,1⟩:Pt))))]) underlying28 sizeOf99 zeroValue99 jY jY O (L0 (⟨0,0⟩:Pt) (⟨2,-1⟩:Pt) (⟨4,0⟩:Pt) (⟨2,1⟩:Pt))) O (leB O) λb1=>st' (v:=(aG (Am (0,1,2)))) (Bk (zs:=Am jJ) (vs:=Am (0,1,2)) (pv:=[(0,(vI 0)),(1,(vI 1)),(2,(vI 2))]) zeroValue105 underlying105 sizeOf3 O (D5 0 1 2)) O ?_))))))))))
 refine st' (v:=(aG (Am (0,2,3)))) (Bk (zs:=Am jJ) (vs:=Am (0,2,3)) (pv:=[(0,(vI 0)),(1,(vI 2)),(2,(vI 3))]) zeroValue105 underlying105 sizeOf3 O (D5 0 2 3)) O (zn (V:=λb2=>(qz (jk b2) 2 2)) (T:=105) (cs:=Am (0,1,2)++Am (0,2,3)) (AM O) (BH (z:=.agg (Am jJ).toArray) (cs:=Am (0,1,2)++Am (0,2,3)) (pv:=[(0,(aG (Am (0,1,2)))),(1,(aG (Am (0,2,3))))]) underlying23 sizeOf105 zeroValue105 jY jY O (J9 (0,1,2) (0,2,3))) O (leB O) λb2=>st' (v:=(aG ([(vI 0),(vI 1),(vI 0)]))) (AO (zs:=Am jJ) (vs:=[(vI 0),(vI 1),(vI 0)]) (pv:=[(0,(vI 0)),(1,(vI 1))]) (places:=[(0,1),(1,1),(2,1)]) zeroValue110 underlying110 (λw=>by simp [sizeOf3]) O O) O (st' (v:=(aG ([(vI 0),(vI 3),(vI 0)]))) (AO (zs:=Am jJ) (vs:=[(vI 0),(vI 3),(vI 0)]) (pv:=[(0,(vI 0)),(1,(vI 3))]) (places:=[(0,1),(1,1),(2,1)]) zeroValue110 underlying110 (λw=>by simp [sizeOf3]) O O) O (st' (v:=(aG ([(vI 1),(vI 2),(vI 0)]))) (AO (zs:=Am jJ) (vs:=[(vI 1),(vI 2),(vI 0)]) (pv:=[(0,(vI 1)),(1,(vI 2))]) (places:=[(0,1),(1,1),(2,1)]) zeroValue110 underlying110 (λw=>by simp [sizeOf3]) O O) O (st' (v:=(aG ([(vI 2),(vI 3),(vI 0)]))) (AO (zs:=Am jJ) (vs:=[(vI 2),(vI 3),(vI 0)]) (pv:=[(0,(vI 2)),(1,(vI 3))]) (places:=[(0,1),(1,1),(2,1)]) zeroValue110 underlying110 (λw=>by simp [sizeOf3]) O O) O (zn (V:=λb3=>(qz (jk b3) 4 4)) (T:=110) (cs:=Am ((0,1,0):T3)++Am ((0,3,0):T3)++Am ((1,2,0):T3)++Am ((2,3,0):T3)) (AM O) (BH (z:=.agg (Am jJ).toArray) (cs:=Am ((0,1,0):T3)++Am ((0,3,0):T3)++Am ((1,2,0):T3)++Am ((2,3,0):T3)) (pv:=[(0,(aG ([(vI 0),(vI 1),(vI 0)]))),(1,(aG ([(vI 0),(vI 3),(vI 0)]))),(2,(aG ([(vI 1),(vI 2),(vI 0)]))),(3,(aG ([(vI 2),(vI 3),(vI 0)])))]) underlying24 sizeOf110 zeroValue110 jY jY O (J_ ((0,1,0):T3) ((0,3,0):T3) ((1,2,0):T3) ((2,3,0):T3))) O (leB O) λb3=>st' (v:=(aG ([(qz (jk b1) 4 4),(qz (jk b2) 2 2),(qz (jk b3) 4 4)]))) (AO (zs:=[jj,jj,jj]) (vs:=[(qz (jk b1) 4 4),(qz (jk b2) 2 2),(qz (jk b3) 4 4)]) (pv:=[(0,(qz (jk b1) 4 4)),(1,(qz (jk b2) 2 2)),(2,(qz (jk b3) 4 4))]) (places:=[(0,1),(1,1),(2,1)]) zeroValue30 underlying30 (λw=>by simp [sizeOf23,sizeOf24,sizeOf28]) O O) O (al Hw O λb4=>Aj O sizeOf30 O (AQ.litM (S:=λ_=>False) (ps:=CD) (ts:=Do) (ss:=Y4) (λmm=>[AU b4 30 (E9 mm),AC mm.c.p (rowsL Am Y4),AC mm.b.p (rowsL Am Do),AC mm.a.p (rowsL Ad CD)]) 3 2 1 jY O O O O O O λmm hmm=>q3 (sL [0,1] O) ?_)))))))
 refine An 0 Bu O (Bx call26 (λw hw=>aj mm 2 0 WO.1 WO.2 LP jY jY Id w (WF hw [3,2,1] O hmm)) O (AJ O (st' (AK (v:=(qa false)) O O) O (st' (AK (v:=(vI 0)) O O) O (asg' O (asg' O (q3 (sL [0,1,2,3] O) (An 0 Bu O (yE (S:=λ_=>False) (α:=S7 CD DP G9 0) (args:=[(aG (E9 mm)),(vI 0),(vI 2)]) call28 (λw hw=>Uz mm 0 2 bW LP jY jY jY Id w (WF hw [3,2,1] O hmm)) O O O λf lf=>AJ O (st' (AK (v:=(aG ([(qz f.x.a.p CD.length f.x.a.c),(qz f.x.b.p DP.length f.x.b.c),(qz f.x.c.p G9.length f.x.c.c)]))) O O) O ?_))))))))))
 refine st' (AK (v:=(vI 0)) O O) O (al Hw O λb5=>Aj O sizeOf30 O (asg' O (q3 (sL [0,1,2,3,4,5] O) (An 4 Bu O (yE (S:=λ_=>False) (α:=dG CD DP G9 1 0) (args:=[(aG (E9 mm))]) call76 (λw hw=>fA mm Y5 Qv.1 Qv.2.1 Qv.2.2 WP Id w (WF hw [7,6,5] O hmm)) O O O λd ld=>AJ O (st' (AK (v:=(aG ([(qz d.x.a.p CD.length d.x.a.c),(qz d.x.b.p DP.length d.x.b.c),(qz d.x.c.p G9.length d.x.c.c)]))) O O) O (st' (AK (v:=(vI 1)) O O) O (st' (AK (v:=(vI 0)) O O) O (al Hw O λb6=>?_)))))))))
 refine Aj O sizeOf30 O (asg' O (asg' O (q3 (sL [0,1,2,3,4,5,6,7,8] O) (An 8 Bu O (yE (S:=λ_=>False) (α:=S7 [] [] [] 7) (args:=[(aG (E9 mm)),(vI 0),(vI 1)]) call28 (λw hw=>Uz mm 0 1 bU LP jY jY jY Id w (WF hw [11,10,9] O hmm)) O O O λg lg=>AJ O (st' (AK (v:=(aG ([(qz g.x.a.p 0 g.x.a.c),(qz g.x.b.p 0 g.x.b.c),(qz g.x.c.p 0 g.x.c.c)]))) O O) O (st' (AK (v:=(vI 7)) O O) O (al Hw O λb7=>Aj O sizeOf30 O (asg' O ?_)))))))))
 refine q3 (sL [0,1,2,3,4,5,6,7,8,10] O) (An 12 Bu O (yE (S:=λ_=>False) (α:=S7 [] [] [] 1) (args:=[(aG (E9 mm)),(vI 1),(vI 3)]) call28 (λw hw=>Uz mm 1 3 bV LP jY jY jY Id w (WF hw [15,14,13] O hmm)) O O O λk lk=>AJ O (st' (AK (v:=(aG ([(qz k.x.a.p 0 k.x.a.c),(qz k.x.b.p 0 k.x.b.c),(qz k.x.c.p 0 k.x.c.c)]))) O O) O (st' (AK (v:=(vI 1)) O O) O (al Hw O λb8=>Aj O sizeOf30 O (asg' O (q3 (sL [0,1,2,3,4,5,6,7,8,10,12] O) (AJ O (st' (BB (c:=true) O O) O ?_)))))))))
 refine AJ O (EV O (Au (v:=(qa true)) O (A9 (c:=true) O O jY) (st' (v:=(qa true)) (ex_pick_true O O) O (AJ O (EV O (Au (v:=(qa true)) O (A9 (c:=true) O O jY) (st' (v:=(qa true)) (ex_pick_true O O) O (AJ O (Au (v:=(pP b5 1)) O (AA O underlying30 O sizeOf23 O) (Au (v:=(qz f.x.b.p DP.length f.x.b.c)) O (AE (i:=12) (v:=(qz f.x.b.p DP.length f.x.b.c)) O O CQ.a O) (Au (v:=(vN DP.length)) O (AD O underlying23) ?_)))))))))))
 refine Au (v:=(qa true)) O (A9 (c:=true) O O jY) (st' (v:=(qa true)) (ex_pick_true O O) O (AJ O (Au (v:=(pP b5 1)) O (AA O underlying30 O sizeOf23 O) (Au (v:=(qz f.x.b.p DP.length f.x.b.c)) O (AE (i:=12) (v:=(qz f.x.b.p DP.length f.x.b.c)) O O CQ.a O) (Au (v:=(pP (pB f.x.b.p) (pO f.x.b.p+0*3))) O (AF (j:=0) O O f.x.b.ok underlying23 sizeOf105 O Z) (Au (v:=(aG (Am (DP.getD 0 jJ)))) O (AH (vs:=Am (DP.getD 0 jJ)) (i:=14) O O (Ao.ne f.x.b.ok Z) CY (AZ A8 _ _ _ Z) (A8 _)) (Au (v:=(aG (Am (1,2,3)))) O (Bk (zs:=Am jJ) (vs:=Am (1,2,3)) (pv:=[(0,(vI 1)),(1,(vI 2)),(2,(vI 3))]) zeroValue105 underlying105 sizeOf3 O (D5 1 2 3)) (Au (v:=(qa true)) O (Cf (c:=true) O O eqGuardType105 (O8 (a:=DP.getD 0 jJ) (b:=(1,2,3)) 9998 (by decide +kernel))) (st' (v:=(qa true)) (ex_pick_true O O) O (AJ O (Au (v:=(pP b5 1)) O (AA O underlying30 O sizeOf23 O) ?_)))))))))))
 refine Au (v:=(qz f.x.b.p DP.length f.x.b.c)) O (AE (i:=12) (v:=(qz f.x.b.p DP.length f.x.b.c)) O O CQ.a O) (Au (v:=(pP (pB f.x.b.p) (pO f.x.b.p+1*3))) O (AF (j:=1) O O f.x.b.ok underlying23 sizeOf105 O Z) (Au (v:=(aG (Am (DP.getD 1 jJ)))) O (AH (vs:=Am (DP.getD 1 jJ)) (i:=14) O O (Ao.ne f.x.b.ok Z) CY (AZ A8 _ _ _ Z) (A8 _)) (Au (v:=(aG (Am (0,1,3)))) O (Bk (zs:=Am jJ) (vs:=Am (0,1,3)) (pv:=[(0,(vI 0)),(1,(vI 1)),(2,(vI 3))]) zeroValue105 underlying105 sizeOf3 O (D5 0 1 3)) (Au (v:=(qa true)) O (Cf (c:=true) O O eqGuardType105 (O8 (a:=DP.getD 1 jJ) (b:=(0,1,3)) 9998 (by decide +kernel))) (st' (v:=(qa true)) (ex_pick_true O O) O (AJ O (Au (v:=(aG (E9 mm))) O (Ac (i:=16) (vs:=E9 mm) O O Bu.a Bu.s O O) (zj (v:=(aG (AG (HA CD Do)))) (AN O) (Ak (args:=[(aG (E9 mm))]) O O call31) (λw hw=>dK mm LP jY jY N1 w (WF hw [19,18,17] O hmm)) O (leB O) (zj (v:=(Value.string (txB (KA (HA CD Do))))) (AN O) (Ak (args:=[(aG (AG (HA CD Do)))]) O O call77) (λw hw=>JE (HA CD Do) (by rw [Qt];decide +kernel) (by rw [Qt];decide +kernel) w (hT.below hw.out)) O (leB O) (Au (v:=(qa true)) O (BY (c:=true) O O (by rw [Qt];decide +kernel)) (st' (v:=(qa true)) (ex_pick_true O O) O ?_)))))))))))
 refine AJ O (Au (v:=(aG ([(qz f.x.a.p CD.length f.x.a.c),(qz f.x.b.p DP.length f.x.b.c),(qz f.x.c.p G9.length f.x.c.c)]))) O (Ac (i:=12) (vs:=[(qz f.x.a.p CD.length f.x.a.c),(qz f.x.b.p DP.length f.x.b.c),(qz f.x.c.p G9.length f.x.c.c)]) O O Bu.a Bu.s O O) (zj (v:=(aG (AG (HA CD DP)))) (AN O) (Ak (args:=[(aG ([(qz f.x.a.p CD.length f.x.a.c),(qz f.x.b.p DP.length f.x.b.c),(qz f.x.c.p G9.length f.x.c.c)]))]) O O call31) (λw hw=>NY f.x jY jY N1 WP w (WF (a:=f.x) hw [13,14,15] O lf)) O (leB O) (zj (v:=(Value.string (txB (KA (HA CD DP))))) (AN O) (Ak (args:=[(aG (AG (HA CD DP)))]) O O call77) (λw hw=>JE (HA CD DP) (by rw [Qu];decide +kernel) (by rw [Qu];decide +kernel) w (hT.below hw.out)) O (leB O) (Au (v:=(qa true)) O (BY (c:=true) O O (by rw [Qu];decide +kernel)) (st' (v:=(qa true)) (ex_pick_true O O) O (AJ O (EV O (Au (v:=(qa true)) O (A9 (c:=true) O O jY) (st' (v:=(qa true)) (ex_pick_true O O) O (AJ O (EV O ?_)))))))))))
 refine Au (v:=(qa true)) O (A9 (c:=true) O O jY) (st' (v:=(qa true)) (ex_pick_true O O) O (AJ O (Au (v:=(aG ([(qz d.x.a.p CD.length d.x.a.c),(qz d.x.b.p DP.length d.x.b.c),(qz d.x.c.p G9.length d.x.c.c)]))) O (Ac (i:=8) (vs:=[(qz d.x.a.p CD.length d.x.a.c),(qz d.x.b.p DP.length d.x.b.c),(qz d.x.c.p G9.length d.x.c.c)]) O O Bu.a Bu.s O O) (Au (v:=(aG ([(qz f.x.a.p CD.length f.x.a.c),(qz f.x.b.p DP.length f.x.b.c),(qz f.x.c.p G9.length f.x.c.c)]))) O (Ac (i:=12) (vs:=[(qz f.x.a.p CD.length f.x.a.c),(qz f.x.b.p DP.length f.x.b.c),(qz f.x.c.p G9.length f.x.c.c)]) O O Bu.a Bu.s O O) (zj (v:=(qa true)) (AN O) (Ak (args:=[(aG ([(qz d.x.a.p CD.length d.x.a.c),(qz d.x.b.p DP.length d.x.b.c),(qz d.x.c.p G9.length d.x.c.c)])),(aG ([(qz f.x.a.p CD.length f.x.a.c),(qz f.x.b.p DP.length f.x.b.c),(qz f.x.c.p G9.length f.x.c.c)]))]) O O call78) (λw hw=>U9 d.x f.x jY jY jY w (WF (a:=d.x) hw [9,10,11] O ld) (WF (a:=f.x) hw [13,14,15] O lf)) O (leB O) (st' (v:=(qa true)) (ex_pick_true O O) O (AJ O (EV O (Au (v:=(qa true)) O (A9 (c:=true) O O jY) (st' (v:=(qa true)) (ex_pick_true O O) O (AJ O ?_)))))))))))
 exact EV O (Au (v:=(qa true)) O (A9 (c:=true) O O jY) (st' (v:=(qa true)) (ex_pick_true O O) O (asg' O (oNl' (zF (sL [0,1,4,6] O) (zC (zH (ret_one O (rd_tmp (v:=(qa true)) O) (λw hw=>⟨rfl,hw.out⟩)))))))))
end
section
set_option maxRecDepth 100000
end
section
set_option maxRecDepth 100000
end
section
set_option maxRecDepth 100000
end
section
set_option maxRecDepth 100000
end
section
set_option maxRecDepth 100000
end
section
set_option maxRecDepth 100000
end
section
open Go Go.RowKit Go.Builtin
section
variable {P:Program} {t:TypeId} {q:Option Addr} {c c2:Nat} {cs news:List Value}
end
section
variable {P:Program} {ops:Array Oper} {rest:List Oper} {Q:Exit->Act->World->Prop} {n d b z m c c2:Nat} {F:List (Nat×Value)} {w0:BA} {L:List As} {t ty T:TypeId} {p:String} {af:Array Edge} {x:Operand} {cs cs2 news:List Value} {q:Option Addr}
end
end
section
set_option maxRecDepth 100000
end
end Go.Proofs.YtpolhpjiahbidaaGreatDoor
