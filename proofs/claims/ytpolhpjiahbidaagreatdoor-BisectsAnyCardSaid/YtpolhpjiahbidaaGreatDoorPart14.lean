import Derived.Test.YtpolhpjiahbidaaGreatDoorPart13
namespace Go.Proofs.YtpolhpjiahbidaaGreatDoor
open Go Go.RowKit Go.Proofs.Tryz
open Go.Value renaming slice→qw,bool→qa
set_option linter.unusedVariables false
set_option linter.unusedSimpArgs false
section
set_option maxRecDepth 100000
theorem IA:Lk prog 192 ER KD where
 law:=.of_law (deep_law_laid Sy (m:=2) jY (by decide +kernel) jV jV)
 key:=λa h=>M1 underlying192 ⟨rfl,rfl⟩ ⟨rfl,rfl⟩ (by decide +kernel) underlying3 jV jV jV (by decide +kernel) (Jh h.1) (Jh h.2)
 inj:=λa b h=>La h
theorem KM (x0:Tq3):Instr.fill (λi=>some (i*3,3)) ((Array.range (1*3)).map ((Value.agg (Ac jJ).toArray).cells[·%(Value.agg (Ac jJ).toArray).cells.size]!)) [(0,.agg (Ac x0).toArray)]=some (Ac x0).toArray:=by kernel_rfl
set_option maxHeartbeats 4000000 in
theorem bJ (ts:List T3) (x:RX (rowsL Ac ts) ts.length) (pp:Option Addr) (N pc:Nat) (hn:Bu N ts=true) (hN:N<=4611686018427387904) (hl:ts.length<=1000000000) (w:World) {S:Nat->Prop} (hx:Ro S w x):Calls prog 56 #[(qw pp N pc),(qw x.p ts.length x.c)] w (CS Qu (Oy (T:=110) (z:=3) (cs:=rowsL Ac (GW ts)) (n:=(GW ts).length)) S w):=by
 have lx:=Bx (W:=w) hx
 refine AX (args:=[(qw pp N pc),(qw x.p ts.length x.c)]) (L:=[AB x.p (rowsL Ac ts)]) func56 O O (Av O) (DF hx Ah) (zN (sL [0,1] O) (q4 (asg' O (oNl' (q1 (q4 (AM O (AM O (AG (v:=(vN N)) (AC O underlying28) O (Ct (args:=[(qw x.p ts.length x.c),(vN N)]) (v:=(qa true)) call110 (λw hw=>(by have h9:=Sc N ts x Z w (inS hw 0 O lx);rw [hn] at h9;exact h9)) O (AG (BQ (c:=false) O O) O ?_)))))))))))
 refine oNl' (zB (sL [1,4,18] O) (zA (zb O (zG (q2 (yV ER vN (AJ O) O λb1=>asg' O (q6 (sL [1,4,5] O) (q4 (AM O (AG (v:=(vN ts.length)) (AC O underlying23) O ?_))))))))))
 refine AM O (oNl' (zA (zI ?_)))
 refine zo (tg λ(t:Nat)=>t<=ts.length) (tg λ(t:Nat)=>[(1,(qw x.p ts.length x.c)),(4,jj),(5,(Value.map (some b1))),(20,(qw x.p ts.length x.c)),(21,(vN ts.length)),(22,(vN t))]) (tg λ(t:Nat)=>[CC b1 ER vN (DE ts (3*t+0)),AB x.p (rowsL Ac ts)]) (tg λ(t:Nat)=>ts.length-t) 0 (xH _) (sF O) sr (λt hJ=>?_)
 have ht:=hJ
 refine q4 (AG (Ae (c:=(decide (t<ts.length))) O O (CM (a:=t) (b:=ts.length))) O (oNl' (q1 ?_)))
 refine zM O (λhc1=>?_) (λhc1=>?_)
 ·replace hc1:=xR hc1
  obtain ⟨T,hT⟩:∃q,q=ts.getD t (0,0,0):=⟨_,rfl⟩
  obtain ⟨g1,g2,g3⟩:=Ee (Dt hn hc1)
  rw [<-hT] at g1 g2 g3
  refine zG (q1 (zI (q4 (AG (v:=(pP (pB x.p) (pO x.p+t*3))) (AF (j:=t) O O x.ok underlying23 sizeOf105 O Z) O (AG (v:=(aG (Ac (ts.getD t jJ)))) (AQ (vs:=Ac (ts.getD t jJ)) (i:=1) O O (An.ne x.ok Z) B_ (Al Am _ _ _ Z) (Am _)) O (zC (k:=25) (u:=(aG (Ac T))) O (by rw [hT]) (al Id O λb2=>Ax O sizeOf105 O (q3 (sL [1,4,5,20,21,22,7] O) (AM O (oNl' ?_))))))))))
  refine zA (zI (yd 4 (z6 (q4 (AG (Ae (c:=true) O O jY) O (oNl' (q1 (ze O (zG (q1 (zI ?_)))))))))))
  refine q4 (AM O (asg' O (q6 (sL [1,4,5,20,21,22,7,26,8] O) (CQ (Db 10) sr (BT O (Aj (v:=(pP b2 0)) O (AD (j:=0) O O underlying105 sizeOf3 O jY O) (Be 0 (vN T.1) BN O (BT O (Aj O (AW (c:=(1:Int)) O O jY) (Aj O (Dh (c:=(1:Int)) O O jY jY) (Aj (v:=(pP b2 1)) O (AD (j:=1) O O underlying105 sizeOf3 O jY O) ?_)))))))))))
  refine Be 0 (vN T.2.1) BN O (pS' O (pS' O (zT (zB (sL [1,4,5,20,21,22,7,26,9,10] O) (zA ?_)))))
  obtain ⟨vq1,hvq1⟩:∃q,q=(Ap (DE ts (3*t+0)) ((min T.1 T.2.1,max T.1 T.2.1):P2)).getD 0:=⟨_,rfl⟩
  refine dT [(0,true),(1,true),(2,true),(3,true),(4,true),(5,true),(6,true),(7,true),(8,true),(9,true),(10,false),(11,true)] 12 [] (ew 1 (x:=((min T.1 T.2.1,max T.1 T.2.1):P2)) (v:=vq1) O O) (List.nil_sublist _) jV (λ_ _ d _ _ h=>by cases d<;>exact h) (vM O O O (vM O O O (vM O O O (vE O (FS (c:=((min T.1 T.2.1:Nat):Int)) O O (by split<;>omega)) O (vM O O O (vM O O O (vE O (Eu (c:=((max T.1 T.2.1:Nat):Int)) O O (by split<;>omega)) O (vE (v:=(aG ([(vN (min T.1 T.2.1)),(vN (max T.1 T.2.1))]))) O (AT (zs:=DC ((0,0):P2)) (vs:=[(vN (min T.1 T.2.1)),(vN (max T.1 T.2.1))]) (pv:=[(0,(vN (min T.1 T.2.1))),(1,(vN (max T.1 T.2.1)))]) (places:=[(0,1),(1,1)]) zeroValue192 underlying192 (λw=>by simp [sizeOf3]) O O) O (vE (v:=(vN vq1)) O (IQ IA 1 (kvs:=DE ts (3*t+0)) (x:=((min T.1 T.2.1,max T.1 T.2.1):P2)) (z0:=0) O O underlying190 zeroValue3 O (Fq hn hN _ Z) (Bm Z Z) hvq1) O ?_)))))))))
  have hmq:=Nv (ts:=ts) (3*t+0) ((min T.1 T.2.1,max T.1 T.2.1):P2)
  refine vE O (AW (c:=((vq1+1:Nat):Int)) O O (AU (a:=vq1) (b:=1) Z)) O (zp O (yf IA 1 (kvs:=DE ts (3*t+0)) (x:=((min T.1 T.2.1,max T.1 T.2.1):P2)) (z0:=0) (v:=vq1) O O underlying190 zeroValue3 O (Fq hn hN _ Z) (Bm Z Z) hvq1 O (yv (ax 1 O O) (vE O (AZ (v:=(vN (DP (DE ts (3*t+0)) ((min T.1 T.2.1,max T.1 T.2.1):P2)))) O O) O (yC O (yU 1 (kvs:=DE ts (3*t+0)) (x:=((min T.1 T.2.1,max T.1 T.2.1):P2)) (u:=vq1) (y:=vq1+1) O O O O ?_))))))
  rw [show BZ (DE ts (3*t+0)) ((min T.1 T.2.1,max T.1 T.2.1):P2) (vq1+1)=DE ts (3*t+1) from by rw [hvq1,hT];exact (JG (ts:=ts) (t:=t) (i:=0) Z).symm]
  refine zD (List.nil_sublist _) (zT (zB (sL [1,4,5,20,21,22,7,26] O) (zJ (zA (zH (AG (AW (c:=(1:Int)) O O jY) O (AM O (oNl' (zB (sL [1,4,5,20,21,22,7,26] O) (yD (z6 ?_)))))))))))
  refine q4 (AG (Ae (c:=true) O O jY) O (oNl' (q1 (ze O (zG (q1 (zI (q4 (AM O (asg' O (q6 (sL [1,4,5,20,21,22,7,26,8] O) ?_)))))))))))
  refine CQ (Db 10) sr (BT O (Aj (v:=(pP b2 1)) O (AD (j:=1) O O underlying105 sizeOf3 O jY O) (Be 0 (vN T.2.1) BN O (BT O (Aj O (AW (c:=(2:Int)) O O jY) (Aj O (Dh (c:=(2:Int)) O O jY jY) (Aj (v:=(pP b2 2)) O (AD (j:=2) O O underlying105 sizeOf3 O jY O) (Be 0 (vN T.2.2) BN O (pS' O (pS' O (zT ?_)))))))))))
  refine zB (sL [1,4,5,20,21,22,7,26,9,10] O) (zA ?_)
  obtain ⟨vq2,hvq2⟩:∃q,q=(Ap (DE ts (3*t+1)) ((min T.2.1 T.2.2,max T.2.1 T.2.2):P2)).getD 0:=⟨_,rfl⟩
  refine dT [(0,true),(1,true),(2,true),(3,true),(4,true),(5,true),(6,true),(7,true),(8,true),(9,true),(10,false),(11,true)] 12 [] (ew 1 (x:=((min T.2.1 T.2.2,max T.2.1 T.2.2):P2)) (v:=vq2) O O) (List.nil_sublist _) jV (λ_ _ d _ _ h=>by cases d<;>exact h) (vM O O O (vM O O O (vM O O O (vE O (FS (c:=((min T.2.1 T.2.2:Nat):Int)) O O (by split<;>omega)) O (vM O O O (vM O O O (vE O (Eu (c:=((max T.2.1 T.2.2:Nat):Int)) O O (by split<;>omega)) O (vE (v:=(aG ([(vN (min T.2.1 T.2.2)),(vN (max T.2.1 T.2.2))]))) O (AT (zs:=DC ((0,0):P2)) (vs:=[(vN (min T.2.1 T.2.2)),(vN (max T.2.1 T.2.2))]) (pv:=[(0,(vN (min T.2.1 T.2.2))),(1,(vN (max T.2.1 T.2.2)))]) (places:=[(0,1),(1,1)]) zeroValue192 underlying192 (λw=>by simp [sizeOf3]) O O) O (vE (v:=(vN vq2)) O (IQ IA 1 (kvs:=DE ts (3*t+1)) (x:=((min T.2.1 T.2.2,max T.2.1 T.2.2):P2)) (z0:=0) O O underlying190 zeroValue3 O (Fq hn hN _ Z) (Bm Z Z) hvq2) O ?_)))))))))
  have hmq:=Nv (ts:=ts) (3*t+1) ((min T.2.1 T.2.2,max T.2.1 T.2.2):P2)
  refine vE O (AW (c:=((vq2+1:Nat):Int)) O O (AU (a:=vq2) (b:=1) Z)) O (zp O (yf IA 1 (kvs:=DE ts (3*t+1)) (x:=((min T.2.1 T.2.2,max T.2.1 T.2.2):P2)) (z0:=0) (v:=vq2) O O underlying190 zeroValue3 O (Fq hn hN _ Z) (Bm Z Z) hvq2 O (yv (ax 1 O O) (vE O (AZ (v:=(vN (DP (DE ts (3*t+1)) ((min T.2.1 T.2.2,max T.2.1 T.2.2):P2)))) O O) O (yC O (yU 1 (kvs:=DE ts (3*t+1)) (x:=((min T.2.1 T.2.2,max T.2.1 T.2.2):P2)) (u:=vq2) (y:=vq2+1) O O O O ?_))))))
  rw [show BZ (DE ts (3*t+1)) ((min T.2.1 T.2.2,max T.2.1 T.2.2):P2) (vq2+1)=DE ts (3*t+2) from by rw [hvq2,hT];exact (JG (ts:=ts) (t:=t) (i:=1) Z).symm]
  refine zD (List.nil_sublist _) (zT (zB (sL [1,4,5,20,21,22,7,26] O) (zJ (zA (zH (AG (AW (c:=(2:Int)) O O jY) O (AM O (oNl' (zB (sL [1,4,5,20,21,22,7,26] O) (yD (z6 ?_)))))))))))
  refine q4 (AG (Ae (c:=true) O O jY) O (oNl' (q1 (ze O (zG (q1 (zI (q4 (AM O (asg' O (q6 (sL [1,4,5,20,21,22,7,26,8] O) ?_)))))))))))
  refine CQ (Db 10) sr (BT O (Aj (v:=(pP b2 2)) O (AD (j:=2) O O underlying105 sizeOf3 O jY O) (Be 0 (vN T.2.2) BN O (BT O (Aj O (AW (c:=(3:Int)) O O jY) (Aj O (Dh (c:=(0:Int)) O O jY jY) (Aj (v:=(pP b2 0)) O (AD (j:=0) O O underlying105 sizeOf3 O jY O) (Be 0 (vN T.1) BN O (pS' O (pS' O (zT ?_)))))))))))
  refine zB (sL [1,4,5,20,21,22,7,26,9,10] O) (zA ?_)
  obtain ⟨vq3,hvq3⟩:∃q,q=(Ap (DE ts (3*t+2)) ((min T.2.2 T.1,max T.2.2 T.1):P2)).getD 0:=⟨_,rfl⟩
  refine dT [(0,true),(1,true),(2,true),(3,true),(4,true),(5,true),(6,true),(7,true),(8,true),(9,true),(10,false),(11,true)] 12 [] (ew 1 (x:=((min T.2.2 T.1,max T.2.2 T.1):P2)) (v:=vq3) O O) (List.nil_sublist _) jV (λ_ _ d _ _ h=>by cases d<;>exact h) (vM O O O (vM O O O (vM O O O (vE O (FS (c:=((min T.2.2 T.1:Nat):Int)) O O (by split<;>omega)) O (vM O O O (vM O O O (vE O (Eu (c:=((max T.2.2 T.1:Nat):Int)) O O (by split<;>omega)) O (vE (v:=(aG ([(vN (min T.2.2 T.1)),(vN (max T.2.2 T.1))]))) O (AT (zs:=DC ((0,0):P2)) (vs:=[(vN (min T.2.2 T.1)),(vN (max T.2.2 T.1))]) (pv:=[(0,(vN (min T.2.2 T.1))),(1,(vN (max T.2.2 T.1)))]) (places:=[(0,1),(1,1)]) zeroValue192 underlying192 (λw=>by simp [sizeOf3]) O O) O (vE (v:=(vN vq3)) O (IQ IA 1 (kvs:=DE ts (3*t+2)) (x:=((min T.2.2 T.1,max T.2.2 T.1):P2)) (z0:=0) O O underlying190 zeroValue3 O (Fq hn hN _ Z) (Bm Z Z) hvq3) O ?_)))))))))
  have hmq:=Nv (ts:=ts) (3*t+2) ((min T.2.2 T.1,max T.2.2 T.1):P2)
  refine vE O (AW (c:=((vq3+1:Nat):Int)) O O (AU (a:=vq3) (b:=1) Z)) O (zp O (yf IA 1 (kvs:=DE ts (3*t+2)) (x:=((min T.2.2 T.1,max T.2.2 T.1):P2)) (z0:=0) (v:=vq3) O O underlying190 zeroValue3 O (Fq hn hN _ Z) (Bm Z Z) hvq3 O (yv (ax 1 O O) (vE O (AZ (v:=(vN (DP (DE ts (3*t+2)) ((min T.2.2 T.1,max T.2.2 T.1):P2)))) O O) O (yC O (yU 1 (kvs:=DE ts (3*t+2)) (x:=((min T.2.2 T.1,max T.2.2 T.1):P2)) (u:=vq3) (y:=vq3+1) O O O O ?_))))))
  rw [show BZ (DE ts (3*t+2)) ((min T.2.2 T.1,max T.2.2 T.1):P2) (vq3+1)=DE ts (3*t+3) from by rw [hvq3,hT];exact (JG (ts:=ts) (t:=t) (i:=2) Z).symm]
  refine zD (List.nil_sublist _) (zT (zB (sL [1,4,5,20,21,22,7,26] O) (zJ (zA (zH (AG (AW (c:=(3:Int)) O O jY) O (AM O (oNl' (zB (sL [1,4,5,20,21,22,7,26] O) (yD (z6 ?_)))))))))))
  refine q4 (AG (Ae (c:=false) O O jY) O (oNl' (q1 (zb O (zU (zP (zP (zS (zJ (zA (zH ?_)))))))))))
  refine AG (AW (c:=((t+1:Nat):Int)) O O (AU (a:=t) (b:=1) Z)) O (AM O (oNl' (zB (sL [1,4,5,20,21,22,7,26] O) ?_)))
  rw [show 3*t+3=3*(t+1)+0 by omega]
  exact zc (t+1) Z Z (sF O) (sl sr)
 ·replace hc1:=xQ hc1
  have htl:t=ts.length:=by omega
  refine zU (zP (za (zS (q2 (asg' O (zf 110 3 (oNl' (q1 (q4 (AM O ?_))))))))))
  rw [show DE ts (3*t+0)=(DE ts (3*ts.length)) by rw [htl,Nat.add_zero]]
  refine cX (S:=S) (cs:=rowsL BL (BG ts)) (k:=(BG ts).length) (args:=[(qw x.p ts.length x.c)]) call101 (λw hw=>Wr ts x N hn hN hl w (inS hw 2 O lx)) O O O λo lo=>AG (v:=(vN ((BG ts).length))) (AC O underlying46) O (AM O (oNl' (zB (sL [1,4,5,20,21,22,11,52,53,54] O) (zA (zI ?_)))))
  refine yO (tg λ(i:Nat) (p1:Option Addr) (c1:Nat) (out:List T3)=>i<=(BG ts).length/\OwnOk p1 out.length c1/\out=JI ts i) (tg λ(i:Nat) (p1:Option Addr) (c1:Nat) (out:List T3)=>[(4,jj),(5,(Value.map (some b1))),(52,(qw o.p ((BG ts).length) o.c)),(53,(vN ((BG ts).length))),(54,(vN i)),(11,(qw p1 out.length c1))]) (tg λ(i:Nat) (p1:Option Addr) (c1:Nat) (out:List T3)=>[AB o.p (rowsL BL (BG ts)),rowW p1 110 3 out.length c1 (rowsL Ac out),CC b1 ER vN (DE ts (3*ts.length)),AB x.p (rowsL Ac ts)]) (tg λ(i:Nat) (p1:Option Addr) (c1:Nat) (out:List T3)=>(BG ts).length-i) 0 none 0 ([]:List T3) (⟨xH _,OwnOk.none,rfl⟩) (sF O) sr (λi p1 c1 out hJ=>?_)
  obtain ⟨hi,ho,hou⟩:=hJ
  have hol:=Pl (ts:=ts) i
  rw [<-hou] at hol
  refine q4 (AG (Ae (c:=(decide (i<((BG ts).length)))) O O (CM (a:=i) (b:=(BG ts).length))) O (oNl' (q1 ?_)))
  refine zM O (λhc3=>?_) (λhc3=>?_)
  ·replace hc3:=xR hc3
   have hel:=Iv (ts:=ts) (3*ts.length)
   rw [<-JC] at hel
   have hmem:((BG ts).getD i jA)∈BG ts:=by rw [List.getD,xN hc3];exact List.getElem_mem hc3
   obtain ⟨hea,heb⟩:=Ie hn hN _ hmem
   refine zG (q1 (zI (q4 (AG (v:=(pP (pB o.p) (pO o.p+i*4))) (AF (j:=i) O O o.ok underlying46 sizeOf49 O Z) O (AG (v:=(aG (BL ((BG ts).getD i jA)))) (AQ (vs:=BL ((BG ts).getD i jA)) (i:=0) O O (An.ne o.ok Z) OL (Al Bh _ _ _ Z) (Bh _)) O (al PJ O λb2=>Ax O sizeOf49 O (q3 (sL [4,5,52,53,54,11,13] O) (AM O (AG (v:=(pP b2 0)) (AA O underlying49 O sizeOf3 O) O (Az 0 (vN (((BG ts).getD i jA).a)) BN O ?_))))))))))
   refine AG (v:=(pP b2 1)) (AA O underlying49 O sizeOf3 O) O (Az 0 (vN (((BG ts).getD i jA).b)) BN O (AG (v:=(aG ([(vN (((BG ts).getD i jA).a)),(vN (((BG ts).getD i jA).b))]))) (AT (zs:=DC ((0,0):P2)) (vs:=[(vN (((BG ts).getD i jA).a)),(vN (((BG ts).getD i jA).b))]) (pv:=[(0,(vN (((BG ts).getD i jA).a))),(1,(vN (((BG ts).getD i jA).b)))]) (places:=[(0,1),(1,1)]) zeroValue192 underlying192 (λw=>by simp [sizeOf3]) O O) O (AG (v:=(vN ((Ap (DE ts (3*ts.length)) ((((BG ts).getD i jA).a,((BG ts).getD i jA).b):P2)).getD 0))) (Cr IA 3 (eV:=vN) (kvs:=(DE ts (3*ts.length))) (x:=((((BG ts).getD i jA).a,((BG ts).getD i jA).b):P2)) (z0:=0) (co:=false) O O underlying190 zeroValue3 O (Fq hn hN _ Z) (aX Z Z)) O (AG (BO (c:=(decide (((Ap (DE ts (3*ts.length)) ((((BG ts).getD i jA).a,((BG ts).getD i jA).b):P2)).getD 0)=1))) O O (Mf (a:=(Ap (DE ts (3*ts.length)) ((((BG ts).getD i jA).a,((BG ts).getD i jA).b):P2)).getD 0) (b:=1))) O (oNl' (zB (sL [4,5,52,53,54,11,13,65] O) (zA ?_)))))))
   refine zM O (λhc4=>?_) (λhc4=>?_)
   ·replace hc4:=xR hc4
    refine zH (AM O (AG (v:=(pP b2 0)) (AA O underlying49 O sizeOf3 O) O (Az 0 (vN (((BG ts).getD i jA).a)) BN O (AG (v:=(pP b2 1)) (AA O underlying49 O sizeOf3 O) O (Az 0 (vN (((BG ts).getD i jA).b)) BN O (AG (v:=(aG ([(vN (((BG ts).getD i jA).a)),(vN (((BG ts).getD i jA).b)),(vI 0)]))) (AT (zs:=Ac jJ) (vs:=[(vN (((BG ts).getD i jA).a)),(vN (((BG ts).getD i jA).b)),(vI 0)]) (pv:=[(0,(vN (((BG ts).getD i jA).a))),(1,(vN (((BG ts).getD i jA).b)))]) (places:=[(0,1),(1,1),(2,1)]) zeroValue110 underlying110 (λw=>by simp [sizeOf3]) O O) O (zZ (V:=λb3=>(qw (jk b3) 1 1)) (T:=110) (cs:=Ac (((BG ts).getD i jA).a,((BG ts).getD i jA).b,0)) (AJ O) (Af (z:=.agg (Ac jJ).toArray) (cs:=Ac (((BG ts).getD i jA).a,((BG ts).getD i jA).b,0)) (pv:=[(0,(aG ([(vN (((BG ts).getD i jA).a)),(vN (((BG ts).getD i jA).b)),(vI 0)])))]) underlying24 sizeOf110 zeroValue110 jY jY O (KM (((BG ts).getD i jA).a,((BG ts).getD i jA).b,0))) O (Av O) λb3=>zh 3 (j:=0) (cs2:=rowsL Ac (out++[(((BG ts).getD i jA).a,((BG ts).getD i jA).b,0)])) ap O ho (AV Am _) O O O O O jY (FD Z) Z (by rw [BI];rfl) O λp_1 c_1 ho_1 hne_1=>asg' O (oNl' (zB (sL [4,5,52,53,54,11,13] O) ?_)))))))))
    refine zJ (zA (zH (AG (AW (c:=((i+1:Nat):Int)) O O (AU (a:=i) (b:=1) Z)) O (AM O (oNl' (zB (sL [4,5,52,53,54,11,13] O) ?_))))))
    rw [show out.length+1=(out++[(((BG ts).getD i jA).a,((BG ts).getD i jA).b,0)]).length by simp]
    exact zu (i+1) p_1 c_1 (out++[(((BG ts).getD i jA).a,((BG ts).getD i jA).b,0)]) (⟨Z,(by simpa using ho_1),by rw [hou];exact (Wa Z hc4).symm⟩) Z (sF O) (sl (sl sr))
   ·replace hc4:=xQ hc4
    exact zG (zJ (zA (zH (AG (AW (c:=((i+1:Nat):Int)) O O (AU (a:=i) (b:=1) Z)) O (AM O (oNl' (zB (sL [4,5,52,53,54,11,13] O) (zu (i+1) p1 c1 out (⟨Z,ho,by rw [hou];exact (Y_ Z hc4).symm⟩) Z (sF O) (sl sr)))))))))
  ·replace hc3:=xQ hc3
   exact zU (zP (zr (zS (q2 (AM O (ck' call102 (Pg p1 out.length c1 ho.row.le) O (asg' O (oNl' (zB (sL [4,5,52,53,54,11] O) (zA (zF (ret_one O (rd_tmp (v:=(qw p1 out.length out.length)) O) (λw hw=>(by rw [show GW ts=out by rw [hou,show i=(BG ts).length by omega];rfl];exact J6 hw (OX.mk p1 c1 ho) (sl (sk (sl (sl sr)))) (GL.own O GL.nil) O))))))))))))))
end
section
set_option maxRecDepth 100000
theorem H8:Lk prog 114 ER KD:=Sf Sy (by decide +kernel) jV jV underlying114 underlying3 jV jV jV
end
section
set_option maxRecDepth 100000
end
section
theorem aS (a b:T3):(((a.1:Int) == (b.1:Int))&&(((a.2.1:Int) == (b.2.1:Int))&&(((a.2.2:Int) == (b.2.2:Int))&&true)))=decide (a=b):=by
  obtain ⟨a1,a2,a3⟩:=a
  obtain ⟨b1,b2,b3⟩:=b
  rw [Bool.eq_iff_iff]
  simp
  constructor<;>(rintro ⟨h1,h2,h3⟩;refine ⟨?_,?_,?_⟩<;>omega)
theorem ar (D:Nat) (a b:T3):H0 prog (D+2) 105 (.agg (Ac a).toArray) (.agg (Ac b).toArray) (decide (a=b)):=by
  rw [<-aS]
  exact H0.array underlying105 QU NI (S2.one isAgg3 O O (H0.int underlying3) (S2.one isAgg3 O O (H0.int underlying3) (S2.one isAgg3 O O (H0.int underlying3) S2.nil)))
theorem FY (D:Nat) {a b:T3} (h:a=b):H0 prog (D+2) 105 (.agg (Ac a).toArray) (.agg (Ac b).toArray) true:=by
  have:=ar D a b;rwa [xy h] at this
theorem M_ (b n:Nat):An (jk b) n n:=⟨λe=>(by cases e),λa e=>(by injection e with e;subst e;rfl),Nat.le_refl _⟩
theorem VX {ps:List Pt} {k:Nat} (h:(ps.all λp=>decide (DU p<=k))=true) (h0:DU (⟨0,0⟩:Pt)<=k) (i:Nat):DU (IR ps i)<=k:=by
  unfold IR
  rcases Nat.lt_or_ge i ps.length with hi|hi
  · rw [List.getD,xN hi]
    exact xR (List.all_eq_true.1 h _ (List.getElem_mem hi))
  · rw [List.getD,List.getElem?_eq_none hi];exact h0
theorem Vj {T:T3} {r:Nat} (h:r<3):(Ac T)[r]?=some (vN (CJ T r)):=by
  have e:r=0\/r=1\/r=2:=by omega
  rcases e with rfl|rfl|rfl<;>rfl
theorem Qx {T:T3} {r:Nat} (h:r<3):(Ac T)[0+r*1]?=some (vN (CJ T r)):=by rw [Nat.zero_add,Nat.mul_one];exact Vj h
theorem Ms {ts:List T3} {f:Nat->Nat} {k i:Nat} {T:T3} (hk:k<ts.length) (hT:T=(CL ts f k).getD k (0,0,0)) (hi:i=f k) (h3:i<3):(CL ts f k).set k (CJ T i,CJ T ((i+1)%3),CJ T ((i+2)%3))=CL ts f (k+1):=by
  rw [G6 f k k Z hk,if_neg (Nat.lt_irrefl _)] at hT
  show _=(CL ts f k).set k (Tk (ts.getD k (0,0,0)) (f k))
  rw [<-hT,<-hi]
  unfold Tk
  rw [Nat.mod_eq_of_lt h3]
section
variable {P:Program} {ops:Array Oper} {rest:List Oper} {Q:Exit->Act->World->Prop} {n:Nat} {F:List (Nat×Value)} {w0:BC} {S:Nat->Prop} {L:List As} {ps:List Pt} {ts ss:List T3}
theorem WQ {w:World} {i b:Nat} {T:TypeId} {cs:List Value} (hw:Own w0 w L) (hi:L[i]?=some (AR b T cs)) (hex:w0.ex=none):w0.w.heap.size<=b:=by
  rcases (hw.2.1 _ (List.mem_of_getElem? hi) b rfl).1 with h1|h1|h1
  · cases h1
  · exact h1
  · rw [hex] at h1;cases h1
theorem AL.litM2 {b1 b2 U1 U2:Nat} {cs1 cs2:List Value} (LL:MX ps ts []->List As) (i j:Nat) (hn:i≠j) (h1:L[i]?=some (AR b1 U1 cs1)) (h2:L[j]?=some (AR b2 U2 cs2)) (hex:w0.ex=none)
    (e:(cs1,cs2)=(rowsL BB ps,rowsL Ac ts))
    (hL:AB none (rowsL Ac [])::(L.set i (AB (jk b1) cs1)).set j (AB (jk b2) cs2)=LL ⟨⟨some ⟨b1,0,none⟩,ps.length,M_ _ _⟩,⟨some ⟨b2,0,none⟩,ts.length,M_ _ _⟩,⟨none,0,OwnOk.none.row⟩⟩)
    (next:∀mm:MX ps ts [],At w0 S mm->AL P ops rest Q n F w0 (LL mm)):AL P ops rest Q n F w0 L:=λa w ha hw=>by
  have n1:=WQ hw h1 hex
  have n2:=WQ hw h2 hex
  have w1:=hw.freeze (x:=AR b1 U1 cs1) (y:=AB (jk b1) cs1) h1 rfl (λo hp=>Hl hp) (λe=>by cases e)
  have w2:=w1.freeze (i:=j) (x:=AR b2 U2 cs2) (y:=AB (jk b2) cs2) (by rw [List.getElem?_set_ne hn];exact h2) rfl (λo hp=>Hl hp) (λe=>by cases e)
  have w3:=w2.addRo (a:=AB none (rowsL Ac [])) (Gx.refl _ _) rfl (λb e=>by cases e) (λb e=>by cases e)
  rw [hL] at w3
  refine next _ (λy hy b eb=>?_) a w ha w3
  have hy:y∈[AB (jk b1) (rowsL BB ps),AB (jk b2) (rowsL Ac ts),AB none (rowsL Ac [])]:=hy
  simp only [xL,List.not_mem_nil,or_false] at hy
  rcases hy with rfl|rfl|rfl
  · injection eb with eb;subst eb;exact .inl (by assumption)
  · injection eb with eb;subst eb;exact .inl (by assumption)
  · cases eb
end
theorem fE {α:Type} [C8 α] {w0:BC} {w:World} {S:Nat->Prop} {L:List As} (hw:Own w0 w L) (is:List Nat) {a:α} (hi:(is.map λi=>L[i]?)=(C8.rows a).map some) (ha:At w0 S a):Ro (SL w0 S L) w a:=λy hy=>by
  have h1:some y∈(is.map λi=>L[i]?):=by rw [hi];exact List.mem_map.2 ⟨y,hy,rfl⟩
  obtain ⟨i,_,h2⟩:=List.mem_map.1 h1
  have hm:=List.mem_of_getElem? h2
  exact ⟨λb e=>(hw.2.1 y hm b e).2,λb e=>⟨⟨y,hm,C8.ro a y hy,e⟩,ha y hy b e⟩⟩
end
section
abbrev M3:=List Pt×List T3×List T3
def d_ (M:M3):Prop:=M.1.length+(BG M.2.1).length<=4096/\4*M.2.1.length<=8192
instance (M:M3):Decidable (d_ M):=inferInstanceAs (Decidable (_/\_))
theorem IG (ts:List T3):(BG ts).length<=3*ts.length:=by rw [JC];exact Iv _
structure fh (ps:List Pt) (ts ss:List T3) (e:Nat) where
  m:MX ps ts ss
instance {ps:List Pt} {ts ss:List T3} {e:Nat}:C8 (fh ps ts ss e):=⟨λx=>.tuple #[aG (UU x.m),vN e],λx=>C8.rows x.m,λx y hy=>C8.ro x.m y hy⟩
section
variable {P:Program} {ops:Array Oper} {rest:List Oper} {Q:Exit->Act->World->Prop} {n d:Nat} {F:List (Nat×Value)} {w0:BC} {S:Nat->Prop} {L:List As} {t:TypeId} {p:String} {af:Array Edge} {y:Operand} {f:FuncId} {xs:List Operand} {args:List Value} {tys:Array TypeId} {ps:List Pt} {ts ss:List T3} {e:Nat}
end
def eI (ts:List T3):List Value:=vI (-1)::vN 0::vN 1::rowsL Ac ts
structure MB (ps:List Pt) (ts ss:List T3) where
  a:RX (rowsL BB ps) ps.length
  b:RX (eI ts) (1+ts.length)
  c:RX (rowsL Ac ss) ss.length
def fQ {ps:List Pt} {ts ss:List T3} (x:MB ps ts ss):List Value:=[x.a.val,x.b.val,x.c.val]
theorem dE {ps:List Pt} {ts ss:List T3} {x:MB ps ts ss} {y:As} (hy:y∈[x.a.row,x.b.row,x.c.row]):y.ro=true:=by
  simp only [xL,List.not_mem_nil,or_false] at hy
  rcases hy with rfl|rfl|rfl<;>rfl
instance {ps:List Pt} {ts ss:List T3}:C8 (MB ps ts ss):=⟨λx=>aG (fQ x),λx=>[x.a.row,x.b.row,x.c.row],λx y hy=>dE hy⟩
end
section
def zL (l:List Int):List Value:=l.map λ(d:Int)=>.int .i64 d
theorem NA (l:List Int):(zL l).length=l.length:=by simp [zL]
theorem Ea {l:List Int} {j:Nat} (h:j<l.length):(zL l)[j*1]?=some (.int .i64 (l.getD j 0)):=by simp [zL,h]
def OE {α β:Type} (b:Nat) (enc:α->Value) (eV:β->Value) (kvs:List (α×β)):As:=⟨some b,λo=>o=.map (entsM enc eV kvs 0).toArray kvs.length,true⟩
section
variable {α β:Type} [DecidableEq α] {enc:α->Value} {eV:β->Value} {ok:α->Prop} {P:Program} {kt:TypeId} {n:Nat} {F:List (Nat×Value)} {w0:BC} {L:List As} {d:Option Tmp} {tx et t b:Nat} {pp:String} {af:Array Edge} {g:Option (Nat×Bool)} {mp kp:Operand}
theorem Qk (K:Lk P kt enc ok) (i:Nat) {kvs:List (α×β)} {x:α} {z0:β} {co:Bool} (hx:evF F mp=some (.map (some b))) (hk:evF F kp=some (enc x)) (ht:P.underlying tx=some (.map kt et)) (hz:∀w,(zeroValue et).run P w=.ok (eV z0) w) (hi:L[i]?=some (OE b enc eV kvs)) (hm:H3 ok kvs) (hok:ok x) :
    Ex P n F w0 L ⟨d,.lookup tx mp kp co,t,pp,af,g⟩ (if co then .tuple #[eV ((Ap kvs x).getD z0),.bool (Ap kvs x).isSome] else eV ((Ap kvs x).getD z0)):=λA w ha hw=>by
  obtain ⟨_,o,ho,hp⟩:=hw.2.1 _ (List.mem_of_getElem? hi) b rfl
  have ho:w.heap[b]?=some (.map (entsM enc eV kvs 0).toArray kvs.length):=by rw [ho,hp]
  obtain ⟨lx,hlx⟩:=K.key x hok
  have hc:=λem=>K.law.check w em hlx
  rcases GH (eV:=eV) K hm hok w with ⟨h1,_,h2⟩|⟨j,v,_,h1,h2⟩
  · simp only [execOp,ha.ev hx,ha.ev hk,Instr.lookup,Sem.run_bind,run_underlying ht,CG ho,Result.andThen_ok,Sem.run_pure,hc,List.toList_toArray,h2,hz,h1,Option.getD_none,Option.isSome_none]
  · simp only [execOp,ha.ev hx,ha.ev hk,Instr.lookup,Sem.run_bind,run_underlying ht,CG ho,Result.andThen_ok,Sem.run_pure,hc,List.toList_toArray,h2,h1,Option.getD_some,Option.isSome_some]
end
def Cf (t:T3):P2:=Br t.2.1 t.2.2
def Mi (ts:List T3) (ms:List Int) (k:P2):Prop:=∃z∈ms,0<=z/\z<(ts.length:Int)/\k=Cf (ts.getD z.toNat (0,0,0))
inductive Mn (ts:List T3) (S:P2->Prop):P2->Prop
  | start {k:P2}:S k->Mn ts S k
  | up {t:T3} {k:P2}:t∈ts->Mn ts S k->(k=Br t.1 t.2.1\/k=Br t.2.2 t.1)->Mn ts S (Cf t)
structure F0 (ts:List T3) (ms:List Int) (i:Nat) (kvs:List (P2×Nat)):Prop where
  ok:H3 KD kvs
  one:∀k,Ap kvs k=none\/Ap kvs k=some 1
  sub:∀k,Ap kvs k=some 1->Mn ts (Mi ts ms) k
  mrk:∀k,Mi ts (ms.take i) k->Ap kvs k=some 1
section
variable {ts:List T3} {ms:List Int} {i:Nat} {kvs:List (P2×Nat)}
theorem F0.zero (ts:List T3) (ms:List Int):F0 ts ms 0 []:=⟨⟨λp hp=>(by cases hp),List.Pairwise.nil⟩,λk=>.inl rfl,λk h=>(by cases h),λk ⟨z,hz,_⟩=>by rw [List.take_zero] at hz;cases hz⟩
theorem F0.put (h:F0 ts ms i kvs) {k:P2} (hk:KD k) (hc:Mn ts (Mi ts ms) k):F0 ts ms i (BZ kvs k 1):=⟨h.ok.put hk,λx=>by
    rw [CB];split
    · exact .inr O
    · exact h.one x,λx hx=>by
    rw [CB] at hx;split at hx
    · rename_i e;rw [e];exact hc
    · exact h.sub x hx,λx hx=>by
    rw [CB];split
    · rfl
    · exact h.mrk x hx⟩
theorem Gj {l:List Int} {j:Nat} (h:j<l.length):l.take (j+1)=l.take j++[l.getD j 0]:=by
  rw [List.take_add_one,List.getD,xN h];rfl
theorem VJ (hi:i<ms.length) (h0:0<=ms.getD i 0) (h1:ms.getD i 0<(ts.length:Int)):Mi ts ms (Cf (ts.getD (ms.getD i 0).toNat (0,0,0))) :=
  ⟨ms.getD i 0,by rw [List.getD,xN hi];exact List.getElem_mem hi,h0,h1,rfl⟩
theorem F0.mark (h:F0 ts ms i kvs) (hi:i<ms.length) (h0:0<=ms.getD i 0) (h1:ms.getD i 0<(ts.length:Int)) (hk:KD (Cf (ts.getD (ms.getD i 0).toNat (0,0,0)))):F0 ts ms (i+1) (BZ kvs (Cf (ts.getD (ms.getD i 0).toNat (0,0,0))) 1):=by
  have h2:=h.put hk (.start (VJ hi h0 h1))
  refine ⟨h2.ok,h2.one,h2.sub,λx hx=>?_⟩
  rw [Gj hi] at hx
  obtain ⟨z,hz,a,b,rfl⟩:=hx
  rcases List.mem_append.1 hz with hz|hz
  · exact h2.mrk _ ⟨z,hz,a,b,rfl⟩
  · rw [xM.1 hz,CB,if_pos rfl]
theorem F0.skip (h:F0 ts ms i kvs) (hi:i<ms.length) (hn:¬(0<=ms.getD i 0/\ms.getD i 0<(ts.length:Int))):F0 ts ms (i+1) kvs:=by
  refine ⟨h.ok,h.one,h.sub,λx hx=>?_⟩
  rw [Gj hi] at hx
  obtain ⟨z,hz,a,b,rfl⟩:=hx
  rcases List.mem_append.1 hz with hz|hz
  · exact h.mrk _ ⟨z,hz,a,b,rfl⟩
  · exact absurd (by rw [<-xM.1 hz];exact ⟨a,b⟩) hn
def Tx (ts:List T3) (kvs:List (P2×Nat)):Nat:=(ts.filter λt=>(Ap kvs (Cf t)).isNone).length
theorem aM {t:T3} (ht:t∈ts) (hn:Ap kvs (Cf t)=none):Tx ts (BZ kvs (Cf t) 1)<Tx ts kvs:=by
  unfold Tx
  induction ts with
  | nil=>cases ht
  | cons x r ih =>
    have le:(r.filter λu=>(Ap (BZ kvs (Cf t) 1) (Cf u)).isNone).length<=(r.filter λu=>(Ap kvs (Cf u)).isNone).length:=by
      clear ih ht
      induction r with
      | nil=>exact Nat.le_refl _
      | cons y r ih =>
        rw [List.filter_cons,List.filter_cons,CB]
        by_cases e:Cf y=Cf t
        · rw [if_pos e,e,hn];simp only [Option.isNone_some,Option.isNone_none,if_true,List.length_cons];simp only [Bool.false_eq_true,if_false];omega
        · rw [if_neg e];split
          · simp only [List.length_cons];omega
          · exact ih
    rw [List.filter_cons,List.filter_cons,CB]
    rcases xL.1 ht with e|ht
    · subst e
      rw [if_pos rfl,hn]
      simp only [Option.isNone_some,Option.isNone_none,if_true,List.length_cons,Bool.false_eq_true,if_false]
      omega
    · by_cases e:Cf x=Cf t
      · rw [if_pos e,e,hn]
        simp only [Option.isNone_some,Option.isNone_none,if_true,List.length_cons,Bool.false_eq_true,if_false]
        omega
      · rw [if_neg e];split
        · simp only [List.length_cons];have:=ih ht;omega
        · exact ih ht
def W8 (ts:List T3) (kvs:List (P2×Nat)) (j:Nat):Prop:=∀q,q<j->Ap kvs (Cf (ts.getD q (0,0,0)))=none->Ap kvs (Br (ts.getD q (0,0,0)).1 (ts.getD q (0,0,0)).2.1)=none/\Ap kvs (Br (ts.getD q (0,0,0)).2.2 (ts.getD q (0,0,0)).1)=none
theorem F0.no (h:F0 ts ms i kvs) {k:P2} (e:(Ap kvs k).getD 0=0):Ap kvs k=none:=(h.one k).elim id λh1=>by rw [h1] at e;cases e
theorem F0.is1 (h:F0 ts ms i kvs) {k:P2} (e:0<(Ap kvs k).getD 0):Ap kvs k=some 1:=(h.one k).elim (λh1=>by rw [h1] at e;cases e) id
theorem NQ {j:Nat} (h:W8 ts kvs j) (hs:Ap kvs (Cf (ts.getD j (0,0,0)))=none->Ap kvs (Br (ts.getD j (0,0,0)).1 (ts.getD j (0,0,0)).2.1)=none/\Ap kvs (Br (ts.getD j (0,0,0)).2.2 (ts.getD j (0,0,0)).1)=none):W8 ts kvs (j+1):=λq hq hn=>by
  rcases Nat.lt_or_ge q j with h1|h1
  · exact h q h1 hn
  · have e:q=j:=by omega
    subst e;exact hs hn
theorem F0.all (h:F0 ts ms ms.length kvs) (hc:W8 ts kvs ts.length) (k:P2):Ap kvs k=some 1↔Mn ts (Mi ts ms) k:=by
  refine ⟨h.sub k,λc=>?_⟩
  induction c with
  | start hs=>exact h.mrk _ (by rw [List.take_length];exact hs)
  | up ht _ he ih =>
    rename_i t k' _
    obtain ⟨q,hq,rfl⟩:=List.getElem_of_mem ht
    rcases h.one (Cf ts[q]) with h1|h1
    · have h2:=hc q hq (by rw [List.getD,xN hq];exact h1)
      rw [List.getD,xN hq] at h2
      rcases he with e|e
      · rw [e] at ih;rw [show Ap kvs (Br ts[q].1 ts[q].2.1)=none from h2.1] at ih;cases ih
      · rw [e] at ih;rw [show Ap kvs (Br ts[q].2.2 ts[q].1)=none from h2.2] at ih;cases ih
    · exact h1
end
structure HC (ts:List T3) (ms:List Int) where
  b:Nat
  kvs:List (P2×Nat)
  ok:H3 KD kvs
  one:∀k,Ap kvs k=none\/Ap kvs k=some 1
  all:∀k,Ap kvs k=some 1↔Mn ts (Mi ts ms) k
instance {ts:List T3} {ms:List Int}:C8 (HC ts ms):=⟨λx=>.map (some x.b),λx=>[OE x.b ER vN x.kvs],λx y hy=>by rcases xM.1 hy with rfl;rfl⟩
theorem cr {S:Nat->Prop} {W w:World} {L:List As} {ts:List T3} {ms:List Int} (hw:Own ⟨W,none⟩ w L) (i:Nat) {b:Nat} {kvs:List (P2×Nat)} (hi:L[i]?=some (CC b ER vN kvs)) (h:F0 ts ms ms.length kvs) (hc:W8 ts kvs ts.length) {v:Value} (hv:v=.map (some b)):Ad (HC ts ms) S W (.returned v) w:=by
  refine ⟨⟨b,kvs,h.ok,h.one,h.all hc⟩,by rw [hv];rfl,hw.out,λy hy=>?_⟩
  rcases xM.1 hy with rfl
  have h1:=hw.2.1 _ (List.mem_of_getElem? hi) b rfl
  refine ⟨λc e=>?_,λc e=>?_⟩
  · injection e with e;subst e;exact h1.2
  · injection e with e;subst e
    rcases h1.1 with h2|h2|h2
    · cases h2
    · exact .inl h2
    · cases h2
def KB (ts:List T3) (kvs:List (P2×Nat)) (i:Nat):List E4:=((BG ts).take i).filter λe=>decide (Ap kvs (e.a,e.b)=some 1)
theorem V7 {ts:List T3} {kvs:List (P2×Nat)} {i:Nat} (hi:i<(BG ts).length) (h:Ap kvs (((BG ts).getD i E0).a,((BG ts).getD i E0).b)=some 1):KB ts kvs (i+1)=KB ts kvs i++[(BG ts).getD i E0]:=by
  rw [List.getD,xN hi] at h ⊢
  unfold KB
  rw [List.take_add_one,xN hi,List.filter_append]
  simp only [Option.toList_some,Option.getD_some] at h ⊢
  rw [List.filter_cons,if_pos (xy h)];rfl
theorem X3 {ts:List T3} {kvs:List (P2×Nat)} {i:Nat} (hi:i<(BG ts).length) (h:¬Ap kvs (((BG ts).getD i E0).a,((BG ts).getD i E0).b)=some 1):KB ts kvs (i+1)=KB ts kvs i:=by
  rw [List.getD,xN hi] at h
  unfold KB
  rw [List.take_add_one,xN hi,List.filter_append]
  simp only [Option.toList_some,Option.getD_some] at h ⊢
  rw [List.filter_cons,if_neg (by simpa using h)];simp
theorem XD {ts:List T3} {kvs:List (P2×Nat)} (i:Nat):(KB ts kvs i).length<=i:=xK (List.length_filter_le _ _) (List.length_take_le _ _)
structure DX (ts:List T3) (ms:List Int) where
  l:List E4
  r:RX (rowsL BL l) l.length
  p:E4->Bool
  el:l=(BG ts).filter p
  all:∀e,p e=true↔Mn ts (Mi ts ms) (e.a,e.b)
  hc:r.c=l.length
instance {ts:List T3} {ms:List Int}:C8 (DX ts ms):=⟨λx=>x.r.val,λx=>[x.r.row],λx y hy=>by rcases xM.1 hy with rfl;rfl⟩
theorem bh {S:Nat->Prop} {W w:World} {L:List As} {ts:List T3} {ms:List Int} (h:HC ts ms) (hw:Own ⟨W,none⟩ w L) (i:Nat) {q:Option Addr} {T n c:Nat} (hi:L[i]?=some (rowW q T 4 n c (rowsL BL (KB ts h.kvs (BG ts).length)))) (ho:OwnOk q n c) (hn:n=(KB ts h.kvs (BG ts).length).length) {v:Value} (hv:v=.slice q n n):Ad (DX ts ms) S W (.returned v) w:=by
  subst hn
  exact ⟨⟨_,⟨q,(KB ts h.kvs (BG ts).length).length,ho.clip⟩,λe=>decide (Ap h.kvs (e.a,e.b)=some 1),by unfold KB;rw [List.take_length],λe=>⟨λk=>(h.all _).1 (xR k),λk=>xy ((h.all _).2 k)⟩,rfl⟩,by rw [hv];rfl,hw.out,λy hy=>by rcases xM.1 hy with rfl;exact C9 hw i hi ho (AV Bh _)⟩
theorem HC.gt {ts:List T3} {ms:List Int} (h:HC ts ms) {k:P2}:0<(Ap h.kvs k).getD 0↔Ap h.kvs k=some 1:=by
  rcases h.one k with h1|h1<;>rw [h1]<;>simp
end
section
set_option maxRecDepth 100000
theorem H7:Lk prog 137 ER KD:=Sf Sy (by decide +kernel) jV jV underlying137 underlying3 jV jV jV
set_option maxHeartbeats 1000000 in
theorem I6 {N:Nat} {ts ss:List T3} (x:RM N ts ss) (ms:List Int) (y:RX (zL ms) ms.length) (hnb:Bu N ts=true) (hp:N<=1000000) (htl:ts.length<=1000000) (hml:ms.length<=1000000) (w:World) {S:Nat->Prop} (hx:Ro S w x) (hy:Ro S w y):Calls prog 64 #[(aG (Dk x)),(qw y.p ms.length y.c)] w (Ad (HC ts ms) S w):=by
 have lx:=Bx (W:=w) hx
 have ly:=Bx (W:=w) hy
 refine AX (args:=[(aG (Dk x)),(qw y.p ms.length y.c)]) (L:=[AB x.a.p (x.cs),AB x.b.p (rowsL Ac ts),AB x.c.p (x.ds),AB y.p (zL ms)]) func64 O O (Av O) (DF hx (DF hy Ah)) (zN (sL [0,1] O) (q4 (Bb (cs:=Dk x) O λb1=>asg' O (oNl' (zB (sL [1,2,4] O) (zA (xD (q4 (yV ER vN (AJ O) O λb2=>asg' O ?_)))))))))
 refine q6 (sL [1,2,4,5] O) (q4 (AM O (AG (v:=(vN ms.length)) (AC O underlying32) O (AM O (oNl' (zB (sL [2,4,5,12,13,14] O) (zA (zI ?_))))))))
 refine yA (tg λ(i:Nat) (kvs:List (P2×Nat))=>i<=ms.length/\F0 ts ms i kvs) (tg λ(i:Nat) (kvs:List (P2×Nat))=>[(2,(pP b1 0)),(4,(Value.map none)),(5,(Value.map (some b2))),(12,(qw y.p ms.length y.c)),(13,(vN ms.length)),(14,(vN i))]) (tg λ(i:Nat) (kvs:List (P2×Nat))=>[CC b2 ER vN kvs,AR b1 30 (Dk x),AB x.a.p (x.cs),AB x.b.p (rowsL Ac ts),AB x.c.p (x.ds),AB y.p (zL ms)]) (tg λ(i:Nat) (kvs:List (P2×Nat))=>ms.length-i) 0 ([]:List (P2×Nat)) (⟨xH _,F0.zero ts ms⟩) (sF O) sr (λi kvs hJ=>?_)
 obtain ⟨hi,hci⟩:=hJ
 refine q4 (AG (Ae (c:=(decide (i<ms.length))) O O (CM (a:=i) (b:=ms.length))) O (oNl' (q1 ?_)))
 refine zM O (λhc0=>?_) (λhc0=>?_)
 ·replace hc0:=xR hc0
  refine zG (q1 (zI (q4 (AG (v:=(pP (pB y.p) (pO y.p+i*1))) (AF (j:=i) O O y.ok underlying32 sizeOf3 O Z) O (AG (AK (v:=(vI (ms.getD i 0))) (i:=5) O O (y.ok.ne Z) BN (Ea (l:=ms) (j:=i) Z)) O (asg' O (q3 (sL [2,4,5,12,13,14,7] O) (AM O (AG (Bp (c:=(decide ((0:Int)<=(ms.getD i 0)))) O O O) O (AM O ?_))))))))))
  refine zX (FM:=[(2,(pP b1 0)),(4,(Value.map none)),(5,(Value.map (some b2))),(12,(qw y.p ms.length y.c)),(13,(vN ms.length)),(14,(vN i)),(7,(vI (ms.getD i 0))),(18,(vI (ms.getD i 0))),(19,(qa (decide ((0:Int)<=(ms.getD i 0))))),(20,(qa (decide ((0:Int)<=(ms.getD i 0))))),(26,(qa ((decide ((0:Int)<=(ms.getD i 0)))&&(decide ((ms.getD i 0)<((ts.length:Nat):Int))))))]) (LM:=[CC b2 ER vN kvs,AR b1 30 (Dk x),AB x.a.p (x.cs),AB x.b.p (rowsL Ac ts),AB x.c.p (x.ds),AB y.p (zL ms)]) 6 ?_ ?_
  ·rcases xO (decide ((0:Int)<=(ms.getD i 0))) with hg1|hg1
   ·refine zC (k:=20) (u:=qa true) O (by rw [hg1]) ?_
    have hg1':=xR hg1
    exact Ds O (Au (v:=(pP b1 1)) O (AA O underlying30 O sizeOf23 O) (Au (v:=(qw x.b.p ts.length x.b.c)) O (AE (i:=1) (v:=(qw x.b.p ts.length x.b.c)) O O B1.a O) (Au (v:=(vN ts.length)) O (AC O underlying23) (Au (v:=(qa (decide ((ms.getD i 0)<((ts.length:Nat):Int))))) O (Ae (c:=(decide ((ms.getD i 0)<((ts.length:Nat):Int)))) O O O) (AG (v:=(qa (decide ((ms.getD i 0)<((ts.length:Nat):Int))))) (AN O O) O (oNl' (zR Bg (xP _))))))))
   ·refine zC (k:=20) (u:=qa false) O (by rw [hg1]) ?_
    have hg1':=xQ hg1
    exact Ar O (Ar O (Ar O (Ar O (Ar O (AG (v:=(qa false)) (AI O O) O (oNl' (zR Bg (xP _))))))))
  refine oNl' (zB (sL [2,4,5,12,13,14,7,26] O) (zA ?_))
  refine zM O (λhc1=>?_) (λhc1=>?_)
  ·simp only [jK] at hc1
   obtain ⟨hz0,hz1⟩:0<=ms.getD i 0/\ms.getD i 0<(ts.length:Int):=by omega
   obtain ⟨tn,htn⟩:∃q,q=(ms.getD i 0).toNat:=⟨_,rfl⟩
   have htl2:tn<ts.length:=by omega
   obtain ⟨g1,g2,g3⟩:=Ee (Dt hnb htl2)
   refine yF (k:=7) (u:=(vN tn)) O (by show Value.int _ _=Value.int _ _;congr 1;omega) (CQ (Db 13++[(13,false),(14,false)]) (sl sr) (BT O (Aj (v:=(pP b1 1)) O (AA O underlying30 O sizeOf23 O) (Be 0 (qw x.b.p ts.length x.b.c) B1 O (BT O (Aj (v:=(pP (pB x.b.p) (pO x.b.p+tn*3))) O (AF (j:=tn) O O x.b.ok underlying23 sizeOf105 O Z) (Aj (v:=(pP (pB x.b.p) (pO x.b.p+(tn*3+1)))) O (AD (j:=1) O O underlying105 sizeOf3 O jY (Nat.add_assoc _ _ _)) (Aj O (AK (v:=(vN ((ts.getD tn ((0,0,0):Tq3)).2.1))) (i:=2) O O (An.ne x.b.ok Z) BN (BS Am ((0,0,0):Tq3) _ _ 1 Z jY O)) (Aj (v:=(pP b1 1)) O (AA O underlying30 O sizeOf23 O) (Be 0 (qw x.b.p ts.length x.b.c) B1 O (BT O ?_)))))))))))
   refine Aj (v:=(pP (pB x.b.p) (pO x.b.p+tn*3))) O (AF (j:=tn) O O x.b.ok underlying23 sizeOf105 O Z) (Aj (v:=(pP (pB x.b.p) (pO x.b.p+(tn*3+2)))) O (AD (j:=2) O O underlying105 sizeOf3 O jY (Nat.add_assoc _ _ _)) (Aj O (AK (v:=(vN ((ts.getD tn ((0,0,0):Tq3)).2.2))) (i:=2) O O (An.ne x.b.ok Z) BN (BS Am ((0,0,0):Tq3) _ _ 2 Z jY O)) (zK O (ck' call66 (HZ ((ts.getD tn ((0,0,0):Tq3)).2.1) ((ts.getD tn ((0,0,0):Tq3)).2.2)) O (zD (sl sr) (zK O (yE H7 0 (kvs:=kvs) (x:=(min ((ts.getD tn ((0,0,0):Tq3)).2.1) ((ts.getD tn ((0,0,0):Tq3)).2.2),max ((ts.getD tn ((0,0,0):Tq3)).2.1) ((ts.getD tn ((0,0,0):Tq3)).2.2))) (y:=1) (AJ O) O O O underlying135 O (hci.ok) (Bm Z Z) (zD (sl sr) (zT (zB (sL [2,4,5,12,13,14,7] O) (zJ ?_)))))))))))
   exact zA (zH (AG (AW (c:=((i+1:Nat):Int)) O O (AU (a:=i) (b:=1) Z)) O (AM O (oNl' (zB (sL [2,4,5,12,13,14,7] O) (zn (i+1) (BZ kvs (min ((ts.getD tn ((0,0,0):Tq3)).2.1) ((ts.getD tn ((0,0,0):Tq3)).2.2),max ((ts.getD tn ((0,0,0):Tq3)).2.1) ((ts.getD tn ((0,0,0):Tq3)).2.2)) 1) (⟨Z,(by have h9:=hci.mark hc0 hz0 hz1 (by rw [<-htn];exact Bm Z Z);rw [<-htn] at h9;exact h9)⟩) Z (sF O) sr))))))
  ·simp only [jK] at hc1
   exact zG (zJ (zA (zH (AG (AW (c:=((i+1:Nat):Int)) O O (AU (a:=i) (b:=1) Z)) O (AM O (oNl' (zB (sL [2,4,5,12,13,14,7] O) (zn (i+1) kvs (⟨Z,hci.skip hc0 Z⟩) Z (sF O) sr))))))))
 ·replace hc0:=xQ hc0
  refine zU (zP (zi (zS (q1 (xE (zA (zI ?_)))))))
  refine zo (tg λ(kvs:List (P2×Nat))=>F0 ts ms ms.length kvs) (tg λ(kvs:List (P2×Nat))=>[(2,(pP b1 0)),(5,(Value.map (some b2)))]) (tg λ(kvs:List (P2×Nat))=>[CC b2 ER vN kvs,AR b1 30 (Dk x),AB x.a.p (x.cs),AB x.b.p (rowsL Ac ts),AB x.c.p (x.ds),AB y.p (zL ms)]) (tg λ(kvs:List (P2×Nat))=>Tx ts kvs) kvs ((by rw [show i=ms.length by omega] at hci;exact hci)) (sF O) sr (λkvs hJ=>?_)
  have hci:=hJ
  refine zI (zV (q4 (AG (v:=(pP b1 1)) (AA O underlying30 O sizeOf23 O) O (Az 1 (qw x.b.p ts.length x.b.c) B1 O (AG (v:=(vN ts.length)) (AC O underlying23) O (AM O (oNl' (zB (sL [2,5,43,44,45] O) (zA (zI ?_))))))))))
  refine zo (tg λ(j:Nat)=>j<=ts.length/\W8 ts kvs j) (tg λ(j:Nat)=>[(2,(pP b1 0)),(5,(Value.map (some b2))),(43,(qw x.b.p ts.length x.b.c)),(44,(vN ts.length)),(45,(vN j))]) (tg λ(j:Nat)=>[CC b2 ER vN kvs,AR b1 30 (Dk x),AB x.a.p (x.cs),AB x.b.p (rowsL Ac ts),AB x.c.p (x.ds),AB y.p (zL ms)]) (tg λ(j:Nat)=>ts.length-j) 0 (⟨xH _,λq h=>absurd h (Nat.not_lt_zero _)⟩) (sF O) sr (λj hJ=>?_)
  obtain ⟨hj,hcm⟩:=hJ
  refine q4 (AG (Ae (c:=(decide (j<ts.length))) O O (CM (a:=j) (b:=ts.length))) O (oNl' (q1 ?_)))
  refine zM O (λhc2=>?_) (λhc2=>?_)
  ·replace hc2:=xR hc2
   obtain ⟨T,hT⟩:∃q,q=ts.getD j (0,0,0):=⟨_,rfl⟩
   obtain ⟨g1,g2,g3⟩:=Ee (Dt hnb hc2)
   rw [<-hT] at g1 g2 g3
   have hmT:T∈ts:=by rw [hT,List.getD,xN hc2];exact List.getElem_mem hc2
   obtain ⟨vc,hvc⟩:∃q,q=(Ap kvs ((min T.2.1 T.2.2,max T.2.1 T.2.2):P2)).getD 0:=⟨_,rfl⟩
   have hvc1:vc<=1:=by rw [hvc];rcases hci.one ((min T.2.1 T.2.2,max T.2.1 T.2.2):P2) with h9|h9<;>rw [h9]<;>decide
   obtain ⟨va,hva⟩:∃q,q=(Ap kvs ((min T.1 T.2.1,max T.1 T.2.1):P2)).getD 0:=⟨_,rfl⟩
   have hva1:va<=1:=by rw [hva];rcases hci.one ((min T.1 T.2.1,max T.1 T.2.1):P2) with h9|h9<;>rw [h9]<;>decide
   obtain ⟨vb,hvb⟩:∃q,q=(Ap kvs ((min T.2.2 T.1,max T.2.2 T.1):P2)).getD 0:=⟨_,rfl⟩
   have hvb1:vb<=1:=by rw [hvb];rcases hci.one ((min T.2.2 T.1,max T.2.2 T.1):P2) with h9|h9<;>rw [h9]<;>decide
   refine zG (q1 (zI (q4 (AG (v:=(pP (pB x.b.p) (pO x.b.p+j*3))) (AF (j:=j) O O x.b.ok underlying23 sizeOf105 O Z) O (AG (v:=(aG (Ac (ts.getD j ((0,0,0):Tq3))))) (AQ (vs:=Ac (ts.getD j ((0,0,0):Tq3))) (i:=3) O O (An.ne x.b.ok Z) B_ (Al Am _ _ _ Z) (Am _)) O (zC (k:=48) (u:=(aG (Ac T))) O (by rw [hT]) (al Id O λb3=>Ax O sizeOf105 O (q3 (sL [2,5,43,44,45,9] O) (AG (v:=(pP b3 1)) (AD (j:=1) O O underlying105 sizeOf3 O jY O) O (Az 0 (vN T.2.1) BN O ?_))))))))))
   refine AG (v:=(pP b3 2)) (AD (j:=2) O O underlying105 sizeOf3 O jY O) O (Az 0 (vN T.2.2) BN O (ck' call66 (HZ T.2.1 T.2.2) O (al ZQ O λb4=>Ax O sizeOf137 O (q6 (sL [2,5,43,44,45,9,10] O) ?_))))
   by_cases hbz:vc=0
   ·refine CQ (Db 10++[(12,true),(13,true),(14,true),(15,true),(16,true),(10,false),(11,true),(17,false),(18,true),(19,true),(20,true),(21,true)]) sr (BT O (EC 0 Vp O (Aj (v:=(vN vc)) O ((by rw [hvc];exact Cr H7 2 (eV:=vN) (kvs:=kvs) (x:=(min T.2.1 T.2.2,max T.2.1 T.2.2)) (z0:=0) (co:=false) O O underlying135 zeroValue3 O (hci.ok) (Bm Z Z))) (Aj O (BO (c:=true) O O (xy Z)) (BT O (zQ (v:=(Value.map (some b2))) O (AH O) (BE O) O O (zQ (v:=(pP b3 0)) O (AH O) (AD (j:=0) O O underlying105 sizeOf3 O jY O) O O (zQ (v:=(vN T.1)) O (AH O) (AE (i:=1) (v:=(vN T.1)) O O BN.a O) O O (zQ (v:=(pP b3 1)) O (AH O) (AD (j:=1) O O underlying105 sizeOf3 O jY O) O O (zQ (v:=(vN T.2.1)) O (AH O) (AE (i:=1) (v:=(vN T.2.1)) O O BN.a O) O O (zQ (v:=(Value.map (some b2))) O (AH O) (BE O) O O ?_)))))))))))
    refine zQ (v:=(pP b3 2)) O (AH O) (AD (j:=2) O O underlying105 sizeOf3 O jY O) O O (zQ (v:=(vN T.2.2)) O (AH O) (AE (i:=1) (v:=(vN T.2.2)) O O BN.a O) O O (zQ (v:=(pP b3 0)) O (AH O) (AD (j:=0) O O underlying105 sizeOf3 O jY O) O O (zQ (v:=(vN T.1)) O (AH O) (AE (i:=1) (v:=(vN T.1)) O O BN.a O) O O (zK O (zd (v:=(aG (DC (min T.1 T.2.1,max T.1 T.2.1)))) (AH O) (Aw (args:=[(vN T.1),(vN T.2.1)]) O O call66) (λw hw=>HZ T.1 T.2.1 w) O (Av O) (zD sr (zQ (v:=(vN va)) O (AH O) ((by rw [hva];exact Cr H7 2 (eV:=vN) (kvs:=kvs) (x:=(min T.1 T.2.1,max T.1 T.2.1)) (z0:=0) (co:=false) O O underlying135 zeroValue3 O (hci.ok) (Bm Z Z))) O O (zK O (zd (v:=(aG (DC (min T.2.2 T.1,max T.2.2 T.1)))) (AH O) (Aw (args:=[(vN T.2.2),(vN T.1)]) O O call66) (λw hw=>HZ T.2.2 T.1 w) O (Av O) (zD sr (zQ (v:=(vN vb)) O (AH O) ((by rw [hvb];exact Cr H7 2 (eV:=vN) (kvs:=kvs) (x:=(min T.2.2 T.1,max T.2.2 T.1)) (z0:=0) (co:=false) O O underlying135 zeroValue3 O (hci.ok) (Bm Z Z))) O O ?_)))))))))))
    refine zQ (v:=(vN (va+vb))) O (AH O) (AW (c:=((va+vb:Nat):Int)) O O (AU (a:=va) (b:=vb) Z)) O O (zQ (v:=(qa (decide (0<(va+vb))))) O (AH O) (Bv (c:=(decide (0<(va+vb)))) O O (CM (a:=0) (b:=va+vb))) O O (Aj (v:=(qa (decide (0<(va+vb))))) O (AN O O) (zT (zB (sL [2,5,43,44,45,9,10,75] O) (zA ?_)))))
    refine zM O (λhc3=>?_) (λhc3=>?_)
    ·replace hc3:=xR hc3
     have hcl:Mn ts (Mi ts ms) (Cf T):=by rcases Nat.lt_or_ge 0 va with h9|h9;exact .up hmT (hci.sub _ (hci.is1 (k:=Br T.1 T.2.1) (by show 0<(Ap kvs ((min T.1 T.2.1,max T.1 T.2.1):P2)).getD 0;rw [<-hva];exact h9))) (.inl rfl);exact .up hmT (hci.sub _ (hci.is1 (k:=Br T.2.2 T.1) (by show 0<(Ap kvs ((min T.2.2 T.1,max T.2.2 T.1):P2)).getD 0;rw [<-hvb];omega))) (.inr rfl)
     have hop:Tx ts (BZ kvs (Cf T) 1)<Tx ts kvs:=aM hmT (hci.no (by show (Ap kvs ((min T.2.1 T.2.2,max T.2.1 T.2.2):P2)).getD 0=0;rw [<-hvc];exact hbz))
     refine q4 (AM O (BD 0 Vp O (yE H7 2 (kvs:=kvs) (x:=(min T.2.1 T.2.2,max T.2.1 T.2.2)) (y:=1) (AJ O) O O O underlying135 O (hci.ok) (Bm Z Z) (oNl' (zB (sL [2,5,43,44,45,9,10] O) (zA (zU (yg O (zP (za (yg O ?_)))))))))))
     exact zP (zS (zc (BZ kvs (min T.2.1 T.2.2,max T.2.1 T.2.2) 1) ((hci.put (Bm Z Z) hcl)) (hop) (sF O) (sl (sl sr))))
    ·replace hc3:=xQ hc3
     exact zG (zJ (zA (zH (AG (AW (c:=((j+1:Nat):Int)) O O (AU (a:=j) (b:=1) Z)) O (AM O (oNl' (zB (sL [2,5,43,44,45,9,10] O) (zc (j+1) (⟨Z,NQ hcm (by rw [<-hT];intro hn;first|exact absurd (by rw [hvc];show (Ap kvs (Cf T)).getD 0=0;rw [hn];rfl) hbz|exact ⟨hci.no (k:=Br T.1 T.2.1) (by show (Ap kvs ((min T.1 T.2.1,max T.1 T.2.1):P2)).getD 0=0;rw [<-hva];omega),hci.no (k:=Br T.2.2 T.1) (by show (Ap kvs ((min T.2.2 T.1,max T.2.2 T.1):P2)).getD 0=0;rw [<-hvb];omega)⟩)⟩) Z (sF O) (sl (sl sr))))))))))
   ·refine CQ (Db 10++[(12,true),(13,true),(14,true),(15,true),(16,true),(10,false),(11,true),(17,false),(18,true),(19,true),(20,true),(21,true)]) sr (BT O (EC 0 Vp O (Aj (v:=(vN vc)) O ((by rw [hvc];exact Cr H7 2 (eV:=vN) (kvs:=kvs) (x:=(min T.2.1 T.2.2,max T.2.1 T.2.2)) (z0:=0) (co:=false) O O underlying135 zeroValue3 O (hci.ok) (Bm Z Z))) (Aj O (BO (c:=false) O O (xx Z)) (BT O (zW O (Ag O) O O (zW O (Ag O) O O (zW O (Ag O) O O (zW O (Ag O) O O (zW O (Ag O) O O (zW O (Ag O) O O ?_)))))))))))
    refine zW O (Ag O) O O (zW O (Ag O) O O (zW O (Ag O) O O (zW O (Ag O) O O (zK O (Ar O (zD sr (zW O (Ag O) O O (zK O (Ar O (zD sr (zW O (Ag O) O O ?_)))))))))))
    refine zW O (Ag O) O O (zW O (Ag O) O O (Aj (v:=(qa false)) O (AI O O) (zT (zB (sL [2,5,43,44,45,9,10,75] O) (zA (zb O (zG (zJ (zA (zH (AG (AW (c:=((j+1:Nat):Int)) O O (AU (a:=j) (b:=1) Z)) O ?_)))))))))))
    exact AM O (oNl' (zB (sL [2,5,43,44,45,9,10] O) (zc (j+1) (⟨Z,NQ hcm (by rw [<-hT];intro hn;first|exact absurd (by rw [hvc];show (Ap kvs (Cf T)).getD 0=0;rw [hn];rfl) hbz|exact ⟨hci.no (k:=Br T.1 T.2.1) (by show (Ap kvs ((min T.1 T.2.1,max T.1 T.2.1):P2)).getD 0=0;rw [<-hva];omega),hci.no (k:=Br T.2.2 T.1) (by show (Ap kvs ((min T.2.2 T.1,max T.2.2 T.1):P2)).getD 0=0;rw [<-hvb];omega)⟩)⟩) Z (sF O) (sl (sl sr)))))
  ·replace hc2:=xQ hc2
   refine zU (zP (za (zS (q2 (AM O (asg' O (oNl' (zB (sL [2,5,43,44,45,4] O) (zA (zF (zY ?_)))))))))))
   exact zk (zY (OkQ.scope_ret (ret_one O (rd_tmp (v:=(Value.map (some b2))) O) (λw hw=>(cr hw 0 O hci (by rw [show j=ts.length by omega] at hcm;exact hcm) O)))))
end
section
set_option maxRecDepth 100000
theorem KA (x0 x1:Nat):Instr.fill (λi=>some (i*1,1)) (DC ((0,0):P2)).toArray [(0,vN x0),(1,vN x1)]=some (DC (x0,x1)).toArray:=by kernel_rfl
theorem MC (x0:E4):Instr.fill (λi=>some (i*4,4)) ((Array.range (1*4)).map ((Value.agg (BL jA).toArray).cells[·%(Value.agg (BL jA).toArray).cells.size]!)) [(0,.agg (BL x0).toArray)]=some (BL x0).toArray:=by kernel_rfl
set_option maxHeartbeats 1000000 in
theorem Jm {N:Nat} {ts ss:List T3} (x:RM N ts ss) {ms:List Int} (h:HC ts ms) (hnb:Bu N ts=true) (hp:N<=1000000) (htl:ts.length<=1000000) (w:World) {S:Nat->Prop} (hx:Ro S w x) (hh:Ro S w h):Calls prog 63 #[(aG (Dk x)),(Value.map (some h.b))] w (Ad (DX ts ms) S w):=by
 have hel0:=IG ts
 have lx:=Bx (W:=w) hx
 have lh:=Bx (W:=w) hh
 refine AX (args:=[(aG (Dk x)),(Value.map (some h.b))]) (L:=[AB x.a.p (x.cs),AB x.b.p (rowsL Ac ts),AB x.c.p (x.ds),OE h.b ER vN h.kvs]) func63 O O (Av O) (DF hx (DF hh Ah)) (zN (sL [0,1] O) (q4 (Bb (cs:=Dk x) O λb1=>asg' O (q3 (sL [1,2,4] O) (asg' O (zf 49 4 (oNl' (q1 (q4 (BD 1 Do O ?_))))))))))
 refine cX (S:=S) (cs:=rowsL BL (BG ts)) (k:=(BG ts).length) (args:=[(aG (Dk x))]) call34 (λw hw=>Q6 x Z Z hnb w (inS hw 2 O lx)) O O O λo lo=>AG (v:=(vN ((BG ts).length))) (AC O underlying46) O (AM O (oNl' (zB (sL [1,4,5,9,10,11] O) (zA (zI ?_)))))
 refine yO (tg λ(i:Nat) (p1:Option Addr) (c1:Nat) (out:List E4)=>i<=(BG ts).length/\OwnOk p1 out.length c1/\out=KB ts h.kvs i) (tg λ(i:Nat) (p1:Option Addr) (c1:Nat) (out:List E4)=>[(1,(Value.map (some h.b))),(4,jj),(9,(qw o.p ((BG ts).length) o.c)),(10,(vN ((BG ts).length))),(11,(vN i)),(5,(qw p1 out.length c1))]) (tg λ(i:Nat) (p1:Option Addr) (c1:Nat) (out:List E4)=>[AB o.p (rowsL BL (BG ts)),rowW p1 49 4 out.length c1 (rowsL BL out),AR b1 30 (Dk x),AB x.a.p (x.cs),AB x.b.p (rowsL Ac ts),AB x.c.p (x.ds),OE h.b ER vN h.kvs]) (tg λ(i:Nat) (p1:Option Addr) (c1:Nat) (out:List E4)=>(BG ts).length-i) 0 none 0 ([]:List E4) (⟨xH _,OwnOk.none,rfl⟩) (sF O) sr (λi p1 c1 out hJ=>?_)
 obtain ⟨hi,ho,hou⟩:=hJ
 have hol:=XD (ts:=ts) (kvs:=h.kvs) i
 rw [<-hou] at hol
 refine q4 (AG (Ae (c:=(decide (i<((BG ts).length)))) O O (CM (a:=i) (b:=(BG ts).length))) O (oNl' (q1 ?_)))
 refine zM O (λhc0=>?_) (λhc0=>?_)
 ·replace hc0:=xR hc0
  obtain ⟨ed,hed⟩:∃q,q=(BG ts).getD i jA:=⟨_,rfl⟩
  obtain ⟨hea,heb⟩:=Ie hnb Z ed (by rw [hed,List.getD,xN hc0];exact List.getElem_mem hc0)
  refine zG (q1 (zI (q4 (AG (v:=(pP (pB o.p) (pO o.p+i*4))) (AF (j:=i) O O o.ok underlying46 sizeOf49 O Z) O (AG (v:=(aG (BL ((BG ts).getD i jA)))) (AQ (vs:=BL ((BG ts).getD i jA)) (i:=0) O O (An.ne o.ok Z) OL (Al Bh _ _ _ Z) (Bh _)) O (zC (k:=14) (u:=(aG (BL ed))) O (by rw [hed]) (al PJ O λb2=>Ax O sizeOf49 O (q3 (sL [1,4,9,10,11,5,7] O) (AM O (AG (v:=(pP b2 0)) (AA O underlying49 O sizeOf3 O) O ?_))))))))))
  refine Az 0 (vN ed.a) BN O (AG (v:=(pP b2 1)) (AA O underlying49 O sizeOf3 O) O (Az 0 (vN ed.b) BN O (AG (v:=(aG (DC (ed.a,ed.b)))) (BF (zs:=DC ((0,0):P2)) (vs:=DC (ed.a,ed.b)) (pv:=[(0,(vN ed.a)),(1,(vN ed.b))]) zeroValue137 underlying137 sizeOf3 O (KA ed.a ed.b)) O (AG (v:=(vN ((Ap h.kvs (ed.a,ed.b)).getD 0))) (Qk H7 7 (eV:=vN) (kvs:=h.kvs) (x:=(ed.a,ed.b)) (z0:=0) (co:=false) O O underlying135 zeroValue3 O (h.ok) (⟨by show ed.a<_;omega,by show ed.b<_;omega⟩)) O (AG (Bv (c:=(decide (0<((Ap h.kvs (ed.a,ed.b)).getD 0)))) O O (CM (a:=0) (b:=(Ap h.kvs (ed.a,ed.b)).getD 0))) O (oNl' (zB (sL [1,4,9,10,11,5,7,22] O) (zA ?_))))))))
  refine zM O (λhc1=>?_) (λhc1=>?_)
  ·replace hc1:=xR hc1
   refine zH (AM O (BD 0 OL O (zZ (V:=λb3=>(qw (jk b3) 1 1)) (T:=49) (cs:=BL ed) (AJ O) (Af (z:=.agg (BL jA).toArray) (cs:=BL ed) (pv:=[(0,(aG (BL ed)))]) underlying46 sizeOf49 zeroValue49 jY jY O (MC ed)) O (Av O) λb3=>zh 3 (j:=0) (cs2:=rowsL BL (out++[ed])) bB O ho (AV Bh _) O O O O O jY (FD Z) Z (by rw [BI];rfl) O λp_1 c_1 ho_1 hne_1=>asg' O (oNl' (zB (sL [1,4,9,10,11,5,7] O) (zJ (zA (zH (AG (AW (c:=((i+1:Nat):Int)) O O (AU (a:=i) (b:=1) Z)) O ?_)))))))))
   refine AM O (oNl' (zB (sL [1,4,9,10,11,5,7] O) ?_))
   rw [show out.length+1=(out++[ed]).length by simp]
   exact zu (i+1) p_1 c_1 (out++[ed]) (⟨Z,(by simpa using ho_1),by rw [hou,hed];exact (V7 hc0 (by rw [<-hed];exact h.gt.1 hc1)).symm⟩) Z (sF O) (sl (sl sr))
  ·replace hc1:=xQ hc1
   exact zG (zJ (zA (zH (AG (AW (c:=((i+1:Nat):Int)) O O (AU (a:=i) (b:=1) Z)) O (AM O (oNl' (zB (sL [1,4,9,10,11,5,7] O) (zu (i+1) p1 c1 out (⟨Z,ho,by rw [hou];exact (X3 hc0 (by rw [<-hed];exact λk=>hc1 (h.gt.2 k))).symm⟩) Z (sF O) (sl sr)))))))))
 ·replace hc0:=xQ hc0
  exact zU (zP (zr (zS (q2 (AM O (ck' call119 (PF p1 out.length c1 ho.row.le) O (asg' O (oNl' (zB (sL [1,4,9,10,11,5] O) (zA (zF (ret_one O (rd_tmp (v:=(qw p1 out.length out.length)) O) (λw hw=>(bh h hw 1 (by rw [show i=(BG ts).length by omega] at hou;rw [<-hou];rfl) ho (by rw [hou,show i=(BG ts).length by omega]) O))))))))))))))
theorem OA {N:Nat} {ts ss:List T3} (x:RM N ts ss) (ms:List Int) (y:RX (zL ms) ms.length) (hnb:Bu N ts=true) (hp:N<=1000000) (htl:ts.length<=1000000) (hml:ms.length<=1000000) (w:World) {S:Nat->Prop} (hx:Ro S w x) (hy:Ro S w y):Calls prog 21 #[(aG (Dk x)),(qw y.p ms.length y.c)] w (Ad (DX ts ms) S w):=by
 have lx:=Bx (W:=w) hx
 have ly:=Bx (W:=w) hy
 refine AX (args:=[(aG (Dk x)),(qw y.p ms.length y.c)]) (L:=[AB x.a.p (x.cs),AB x.b.p (rowsL Ac ts),AB x.c.p (x.ds),AB y.p (zL ms)]) func21 O O (Av O) (DF hx (DF hy Ah)) (zN (sL [0,1] O) (q4 (Bb (cs:=Dk x) O λb1=>asg' O (q6 (sL [1,2,4] O) (q4 (BD 0 Do O (Ct (args:=[(aG (Dk x))]) (v:=(qa true)) call43 (λw hw=>(by have h9:=Nd x Z w (inS hw 1 O lx);rw [hnb] at h9;exact h9)) O (AG (BQ (c:=false) O O) O (oNl' (zB (sL [1,2,4,7] O) ?_))))))))))
 refine zA (zb O (zG (q1 (CQ [(0,true),(1,true),(2,true),(3,false),(4,false),(5,true)] sr (EC 0 Do O (EC 0 Do O (BT O (zK O (zm (S:=S) (α:=HC ts ms) (args:=[(aG (Dk x)),(qw y.p ms.length y.c)]) call64 (λw hw=>I6 x ms y hnb Z Z Z w (inS hw 1 O lx) (inS hw 4 O ly)) O O O λh lh=>zD (sl sr) (zK O ?_))))))))))
 exact zm (S:=S) (α:=DX ts ms) (args:=[(aG (Dk x)),(Value.map (some h.b))]) call63 (λw hw=>Jm x h hnb Z Z w (inS hw 2 O lx) (inS hw 0 O lh)) O O O λu lu=>zD (sl (sl sr)) (pS' O (zT (zB (sL [2,4] O) (zA (zF (ret_one O (rd_tmp (v:=(qw u.r.p u.l.length u.r.c)) O) (λw hw=>(EH hw (inS hw 0 O lu) O))))))))
end
theorem Ni {P:Program} {f:FuncId} {fn:Func} {c:Code} {args:List Value} {w:World} {R:Ending->World->Prop} {n:Nat} {w0:BC} {L:List As}
    (hf:P.funcs[f]?=some fn) (hb:fn.body=some c) (hn:fn.ntmps=n) (hl:args.length<=n) (hW:Own w0 w L)
    (h:OkC P c (bodyPost P fn R) n (Fl 0 args) w0 L):Calls P f args.toArray w R:=by
  refine calls_of_wp hf hb ?_
  rw [hn]
  exact h _ _ (HY hl _ λk v hk=>by simpa using (Dn args 0 k v hk).2) hW
theorem yw {P:Program} {ops:Array Oper} {rest:List Oper} {Q:Exit->Act->World->Prop} {n:Nat} {F:List (Nat×Value)} {w0:BC} {L L2:List As} {o:Oper} {f:FuncId} {args:List Value} {v:Value} {α:Type} {K:α->Prop} {LO:α->List As} (hw:Wt ops n F o)
    (he:∀a w,Frm n a F->Own w0 w L->(execOp a.eval o).run P w=.ok (.enter f args.toArray) w) (hp:L.Perm L2)
    (hc:∀w,Own w0 w L2->Calls P f args.toArray w λe w'=>e=.returned v/\∃a:α,K a/\Own w0 w' (LO a))
    (hd:∀d,o.dst=some d->d<n) (next:∀a,K a->AL P ops rest Q n (match o.dst with|some d=>(d,v)::F|none=>F) w0 (LO a)):AL P ops (o::rest) Q n F w0 L:=λa w ha hW=>by
  unfold wpList
  rw [if_pos (hw a ha)]
  left
  unfold Oper.wp
  rw [he a w ha hW,Oper.upon_enter]
  refine (hc w (hW.perm hp)).mono ?_
  rintro e w' ⟨rfl,x,hk,hW'⟩
  have next:=next x hk
  cases hdst:o.dst with
  | none=>rw [hdst] at next;exact next _ _ ha.put_none hW'
  | some d=>rw [hdst] at next;exact next _ _ (ha.put (hd d hdst)) hW'
theorem Fg {α:Type}:∀l:List α,(l.map some).filterMap id=l
  | []=>rfl
  | x::r=>by show x::(r.map some).filterMap id=x::r;rw [Fg r]
theorem QI {α:Type} {L L':List α} (idx:List Nat) (h1:idx.Perm (List.range L.length)) (h2:(idx.map λi=>L[i]?)=L'.map some):L.Perm L':=by
  have h3:((List.range L.length).map λi=>L[i]?)=L.map some:=by
    refine List.ext_getElem jX λj a b=>?_
    simp at a
    simp [a]
  have h4:=(h1.map λi=>L[i]?)
  rw [h2,h3] at h4
  have h5:=h4.filterMap id
  rw [Fg,Fg] at h5
  exact h5.symm
def Cg (md:List (P2×Nat)):Nat->T3->List T3
  | 0,c=>[c]
  | d+1,c=>match Ap md (Cf c) with
    | none=>[c]
    | some n=>Cg md d (n,c.1,c.2.1)++Cg md d (n,c.2.2,c.1)
theorem Hq (md:List (P2×Nat)):∀d c,(Cg md d c).length<=2^d
  | 0,c=>Nat.le_refl _
  | d+1,c=>by
    unfold Cg
    split
    · exact Nat.one_le_two_pow
    · rename_i n _
      rw [xJ,Nat.pow_succ]
      have h1:=Hq md d (n,c.1,c.2.1)
      have h2:=Hq md d (n,c.2.2,c.1)
      omega
def CU (n p:Nat):List Nat:=List.replicate n p
theorem Kj (a b p:Nat):CU (a+b) p=CU a p++CU b p:=List.replicate_append_replicate.symm
theorem HJ {md:List (P2×Nat)} {d:Nat} {c:T3} (h:Ap md (Cf c)=none):Cg md d c=[c]:=by
  cases d with
  | zero=>rfl
  | succ d=>show (match Ap md (Cf c) with|none=>_|some n=>_)=_;rw [h]
theorem Ke {md:List (P2×Nat)} {d n:Nat} {c:T3} (h:Ap md (Cf c)=some n):Cg md (d+1) c=Cg md d (n,c.1,c.2.1)++Cg md d (n,c.2.2,c.1):=by
  show (match Ap md (Cf c) with|none=>_|some n=>_)=_;rw [h]
structure bZ where
  pa:Option Addr
  ca:Nat
  pp:Option Addr
  cp:Nat
structure dU where
  b:Nat
  bm:Nat
  ba:Nat
  bp:Nat
  bf:Nat
end Go.Proofs.YtpolhpjiahbidaaGreatDoor
