import Derived.Test.YtfbomiejpbchdaaGreatDoorPart06
import Derived.Test.YtfbomiejpbchdaaGreatDoorPart31
import Derived.Test.YtfbomiejpbchdaaGreatDoorPart33
namespace Go.Proofs.YtfbomiejpbchdaaGreatDoor
open Go Go.RowKit Go.Proofs.Tryz
set_option linter.unusedVariables false
set_option linter.unusedSimpArgs false
section
set_option maxRecDepth 100000
theorem Gz:OO prog 239 Il O6 where
 law:=.of_law (deep_law_laid VZ (m:=2) (by decide) (by decide +kernel) (by kernel_rfl) (by kernel_rfl))
 key:=λa h=>Kp underlying239 ⟨rfl,rfl⟩ ⟨rfl,rfl⟩ (by decide +kernel) underlying3 (by kernel_rfl) (by kernel_rfl) (by kernel_rfl) (by decide +kernel) (L9 h.1) (L9 h.2)
 inj:=λa b h=>NI h
theorem J2 (x0:Nat×Nat×Nat):Instr.fill (λi=>some (i*3,3)) ((Array.range (1*3)).map ((Value.agg (Am ((0,0,0):Nat×Nat×Nat)).toArray).cells[·%(Value.agg (Am ((0,0,0):Nat×Nat×Nat)).toArray).cells.size]!)) [(0,.agg (Am x0).toArray)]=some (Am x0).toArray:=by kernel_rfl
set_option maxHeartbeats 4000000 in
theorem WR (ts:List T3) (x:RX (rowsL Am ts) ts.length) (pp:Option Addr) (N pc:Nat) (hn:Bn N ts=true) (hN:N<=4611686018427387904) (hl:ts.length<=1000000000) (w:World) {S:Nat->Prop} (hx:Ro S w x):Calls prog 125 #[(Value.slice pp N pc),(Value.slice x.p ts.length x.c)] w (Gr XS (Uz (T:=43) (z:=3) (cs:=rowsL Am (Eu ts)) (n:=(Eu ts).length)) S w):=by
 have lx:=Ep (W:=w) hx
 refine BF (args:=[(Value.slice pp N pc),(Value.slice x.p ts.length x.c)]) (L:=[Ah x.p (rowsL Am ts)]) func125 O O (Ad O) (En hx BQ) (AF.subF (sL [0,1] O) (q4 (AJ O (AE.nil (q1 ?_)))))
 refine q4 (AP O (AP O (AH (v:=(vN N)) (AG O underlying28) O (Ef (args:=[(Value.slice x.p ts.length x.c),(vN N)]) (v:=(Value.bool true)) call90 (λw hw=>(by have h9:=PM N ts x Z w (D_ hw 0 O lx);rw [hn] at h9;exact h9)) O (AH (BY (c:=false) O O) O ?_)))))
 refine AE.nil (AD.subF (sL [1,4,18] O) (AD.then_ (AF.cond_false O (AF.skip (q2 ?_)))))
 refine AE.makeMap Il vN (AQ O) O λb1=>AJ O (q6 (sL [1,4,5] O) (q4 (AP O (AH (v:=(vN ts.length)) (AG O underlying23) O ?_))))
 refine AP O (AE.nil (AD.then_ (AF.block ?_)))
 refine AF.lp1 (tg λ(t:Nat)=>t<=ts.length) (tg λ(t:Nat)=>[(1,(Value.slice x.p ts.length x.c)),(4,(Value.slice none 0 0)),(5,(Value.map (some b1))),(20,(Value.slice x.p ts.length x.c)),(21,(vN ts.length)),(22,(vN t))]) (tg λ(t:Nat)=>[DJ b1 Il vN (Ca ts (3*t+0)),Ah x.p (rowsL Am ts)]) (tg λ(t:Nat)=>ts.length-t) 0 (Nat.zero_le _) (sF O) sr (λt hJ=>?_)
 have ht:=hJ
 refine q4 (AH (Af (c:=(decide (t<ts.length))) O O (DB (a:=t) (b:=ts.length))) O (AE.nil (q1 ?_)))
 refine AF.cond O (λhc1=>?_) (λhc1=>?_)
 ·replace hc1:=of_decide_eq_true hc1
  obtain ⟨T,hT⟩:∃q,q=ts.getD t (0,0,0):=⟨_,rfl⟩
  obtain ⟨g1,g2,g3⟩:=DG (Cp hn hc1)
  rw [<-hT] at g1 g2 g3
  refine AF.skip (q1 (AF.block (q4 (AH (v:=(pP (pB x.p) (pO x.p+t*3))) (AR (j:=t) O O x.ok underlying23 sizeOf79 O Z) O (AH (v:=(aG (Am (ts.getD t ((0,0,0):Nat×Nat×Nat))))) (AY (vs:=Am (ts.getD t ((0,0,0):Nat×Nat×Nat))) (i:=1) O O (BL.ne x.ok Z) Ie (Ar BC _ _ _ Z) (BC _)) O ?_)))))
  refine AE.retell (k:=25) (u:=(aG (Am T))) O (by rw [hT]) (al Lp O λb2=>Aq O sizeOf79 O (q3 (sL [1,4,5,20,21,22,7] O) (AP O (AE.nil ?_))))
  refine AD.then_ (AF.block (AF.unroll 4 (FL.step (q4 (AH (Af (c:=true) O O (by decide)) O ?_)))))
  refine AE.nil (q1 (AF.cond_true O (AF.skip (q1 (AF.block ?_)))))
  refine q4 (AP O (AJ O (q6 (sL [1,4,5,20,21,22,7,26,8] O) (DA [(0,true),(1,true),(2,true),(3,true),(4,true),(5,true),(6,true),(7,true),(8,true),(9,true)] sr (Bp O ?_)))))
  refine Aw (v:=(pP b2 0)) O (AC (j:=0) O O underlying79 sizeOf3 O (by decide) O) (Bi 0 (vN T.1) B7 O (Bp O (Aw O (AX (c:=(1:Int)) O O (by decide)) (Aw O (Bo (c:=(1:Int)) O O (by decide) (by decide)) (Aw (v:=(pP b2 1)) O (AC (j:=1) O O underlying79 sizeOf3 O (by decide) O) ?_)))))
  refine Bi 0 (vN T.2.1) B7 O (Ez O (Ez O (AS.nil (AD.subF (sL [1,4,5,20,21,22,7,26,9,10] O) (AD.then_ ?_)))))
  obtain ⟨vq1,hvq1⟩:∃q,q=(BG (Ca ts (3*t+0)) ((min T.1 T.2.1,max T.1 T.2.1):P2)).getD 0:=⟨_,rfl⟩
  refine Xh [(0,true),(1,true),(2,true),(3,true),(4,true),(5,true),(6,true),(7,true),(8,true),(9,true),(10,false),(11,true)] 12 [] (X8 1 (x:=((min T.1 T.2.1,max T.1 T.2.1):P2)) (v:=vq1) O O) (List.nil_sublist _) (by kernel_rfl) (λ_ _ d _ _ h=>by cases d<;>exact h) (vM O O O (vM O O O (vM O O O (vE O (Gw (c:=((min T.1 T.2.1:Nat):Int)) O O (by split<;>omega)) O (vM O O O ?_)))))
  refine vM O O O (vE O (F4 (c:=((max T.1 T.2.1:Nat):Int)) O O (by split<;>omega)) O (vE (v:=(aG ([(vN (min T.1 T.2.1)),(vN (max T.1 T.2.1))]))) O (AT (zs:=A8 ((0,0):P2)) (vs:=[(vN (min T.1 T.2.1)),(vN (max T.1 T.2.1))]) (pv:=[(0,(vN (min T.1 T.2.1))),(1,(vN (max T.1 T.2.1)))]) (places:=[(0,1),(1,1)]) zeroValue239 underlying239 (λw=>by simp [sizeOf3]) O O) O (vE (v:=(vN vq1)) O (Gx Gz 1 (kvs:=Ca ts (3*t+0)) (x:=((min T.1 T.2.1,max T.1 T.2.1):P2)) (z0:=0) O O underlying238 zeroValue3 O (Es hn hN _ Z) (DS Z Z) hvq1) O ?_)))
  have hmq:=L1 (ts:=ts) (3*t+0) ((min T.1 T.2.1,max T.1 T.2.1):P2)
  refine vE O (AX (c:=((vq1+1:Nat):Int)) O O (AZ (a:=vq1) (b:=1) Z)) O (CZ.imp O (AE.mapEntry Gz 1 (kvs:=Ca ts (3*t+0)) (x:=((min T.1 T.2.1,max T.1 T.2.1):P2)) (z0:=0) (v:=vq1) O O underlying238 zeroValue3 O (Es hn hN _ Z) (DS Z Z) hvq1 O (CZ.backW (Vw 1 O O) (vE O (Aa (v:=(vN (Co (Ca ts (3*t+0)) ((min T.1 T.2.1,max T.1 T.2.1):P2)))) O O) O (CZ.cut O ?_)))))
  refine AE.entryStore 1 (kvs:=Ca ts (3*t+0)) (x:=((min T.1 T.2.1,max T.1 T.2.1):P2)) (u:=vq1) (y:=vq1+1) O O O O ?_
  rw [show Bc (Ca ts (3*t+0)) ((min T.1 T.2.1,max T.1 T.2.1):P2) (vq1+1)=Ca ts (3*t+1) from by rw [hvq1,hT];exact (IE (ts:=ts) (t:=t) (i:=0) Z).symm]
  refine AS.back (List.nil_sublist _) (AS.nil (AD.subF (sL [1,4,5,20,21,22,7,26] O) (AD.in_normal (AD.then_ (AF.region ?_)))))
  refine AH (AX (c:=(1:Int)) O O (by decide)) O (AP O (AE.nil (AD.subF (sL [1,4,5,20,21,22,7,26] O) (AD.again (FL.step ?_)))))
  refine q4 (AH (Af (c:=true) O O (by decide)) O (AE.nil (q1 (AF.cond_true O (AF.skip ?_)))))
  refine q1 (AF.block (q4 (AP O (AJ O (q6 (sL [1,4,5,20,21,22,7,26,8] O) ?_)))))
  refine DA [(0,true),(1,true),(2,true),(3,true),(4,true),(5,true),(6,true),(7,true),(8,true),(9,true)] sr (Bp O (Aw (v:=(pP b2 1)) O (AC (j:=1) O O underlying79 sizeOf3 O (by decide) O) (Bi 0 (vN T.2.1) B7 O (Bp O (Aw O (AX (c:=(2:Int)) O O (by decide)) ?_)))))
  refine Aw O (Bo (c:=(2:Int)) O O (by decide) (by decide)) (Aw (v:=(pP b2 2)) O (AC (j:=2) O O underlying79 sizeOf3 O (by decide) O) (Bi 0 (vN T.2.2) B7 O (Ez O (Ez O (AS.nil ?_)))))
  refine AD.subF (sL [1,4,5,20,21,22,7,26,9,10] O) (AD.then_ ?_)
  obtain ⟨vq2,hvq2⟩:∃q,q=(BG (Ca ts (3*t+1)) ((min T.2.1 T.2.2,max T.2.1 T.2.2):P2)).getD 0:=⟨_,rfl⟩
  refine Xh [(0,true),(1,true),(2,true),(3,true),(4,true),(5,true),(6,true),(7,true),(8,true),(9,true),(10,false),(11,true)] 12 [] (X8 1 (x:=((min T.2.1 T.2.2,max T.2.1 T.2.2):P2)) (v:=vq2) O O) (List.nil_sublist _) (by kernel_rfl) (λ_ _ d _ _ h=>by cases d<;>exact h) (vM O O O (vM O O O (vM O O O (vE O (Gw (c:=((min T.2.1 T.2.2:Nat):Int)) O O (by split<;>omega)) O (vM O O O ?_)))))
  refine vM O O O (vE O (F4 (c:=((max T.2.1 T.2.2:Nat):Int)) O O (by split<;>omega)) O (vE (v:=(aG ([(vN (min T.2.1 T.2.2)),(vN (max T.2.1 T.2.2))]))) O (AT (zs:=A8 ((0,0):P2)) (vs:=[(vN (min T.2.1 T.2.2)),(vN (max T.2.1 T.2.2))]) (pv:=[(0,(vN (min T.2.1 T.2.2))),(1,(vN (max T.2.1 T.2.2)))]) (places:=[(0,1),(1,1)]) zeroValue239 underlying239 (λw=>by simp [sizeOf3]) O O) O (vE (v:=(vN vq2)) O (Gx Gz 1 (kvs:=Ca ts (3*t+1)) (x:=((min T.2.1 T.2.2,max T.2.1 T.2.2):P2)) (z0:=0) O O underlying238 zeroValue3 O (Es hn hN _ Z) (DS Z Z) hvq2) O ?_)))
  have hmq:=L1 (ts:=ts) (3*t+1) ((min T.2.1 T.2.2,max T.2.1 T.2.2):P2)
  refine vE O (AX (c:=((vq2+1:Nat):Int)) O O (AZ (a:=vq2) (b:=1) Z)) O (CZ.imp O (AE.mapEntry Gz 1 (kvs:=Ca ts (3*t+1)) (x:=((min T.2.1 T.2.2,max T.2.1 T.2.2):P2)) (z0:=0) (v:=vq2) O O underlying238 zeroValue3 O (Es hn hN _ Z) (DS Z Z) hvq2 O (CZ.backW (Vw 1 O O) (vE O (Aa (v:=(vN (Co (Ca ts (3*t+1)) ((min T.2.1 T.2.2,max T.2.1 T.2.2):P2)))) O O) O (CZ.cut O ?_)))))
  refine AE.entryStore 1 (kvs:=Ca ts (3*t+1)) (x:=((min T.2.1 T.2.2,max T.2.1 T.2.2):P2)) (u:=vq2) (y:=vq2+1) O O O O ?_
  rw [show Bc (Ca ts (3*t+1)) ((min T.2.1 T.2.2,max T.2.1 T.2.2):P2) (vq2+1)=Ca ts (3*t+2) from by rw [hvq2,hT];exact (IE (ts:=ts) (t:=t) (i:=1) Z).symm]
  refine AS.back (List.nil_sublist _) (AS.nil (AD.subF (sL [1,4,5,20,21,22,7,26] O) (AD.in_normal (AD.then_ (AF.region ?_)))))
  refine AH (AX (c:=(2:Int)) O O (by decide)) O (AP O (AE.nil (AD.subF (sL [1,4,5,20,21,22,7,26] O) (AD.again (FL.step ?_)))))
  refine q4 (AH (Af (c:=true) O O (by decide)) O (AE.nil (q1 (AF.cond_true O (AF.skip ?_)))))
  refine q1 (AF.block (q4 (AP O (AJ O (q6 (sL [1,4,5,20,21,22,7,26,8] O) ?_)))))
  refine DA [(0,true),(1,true),(2,true),(3,true),(4,true),(5,true),(6,true),(7,true),(8,true),(9,true)] sr (Bp O (Aw (v:=(pP b2 2)) O (AC (j:=2) O O underlying79 sizeOf3 O (by decide) O) (Bi 0 (vN T.2.2) B7 O (Bp O (Aw O (AX (c:=(3:Int)) O O (by decide)) ?_)))))
  refine Aw O (Bo (c:=(0:Int)) O O (by decide) (by decide)) (Aw (v:=(pP b2 0)) O (AC (j:=0) O O underlying79 sizeOf3 O (by decide) O) (Bi 0 (vN T.1) B7 O (Ez O (Ez O (AS.nil ?_)))))
  refine AD.subF (sL [1,4,5,20,21,22,7,26,9,10] O) (AD.then_ ?_)
  obtain ⟨vq3,hvq3⟩:∃q,q=(BG (Ca ts (3*t+2)) ((min T.2.2 T.1,max T.2.2 T.1):P2)).getD 0:=⟨_,rfl⟩
  refine Xh [(0,true),(1,true),(2,true),(3,true),(4,true),(5,true),(6,true),(7,true),(8,true),(9,true),(10,false),(11,true)] 12 [] (X8 1 (x:=((min T.2.2 T.1,max T.2.2 T.1):P2)) (v:=vq3) O O) (List.nil_sublist _) (by kernel_rfl) (λ_ _ d _ _ h=>by cases d<;>exact h) (vM O O O (vM O O O (vM O O O (vE O (Gw (c:=((min T.2.2 T.1:Nat):Int)) O O (by split<;>omega)) O (vM O O O ?_)))))
  refine vM O O O (vE O (F4 (c:=((max T.2.2 T.1:Nat):Int)) O O (by split<;>omega)) O (vE (v:=(aG ([(vN (min T.2.2 T.1)),(vN (max T.2.2 T.1))]))) O (AT (zs:=A8 ((0,0):P2)) (vs:=[(vN (min T.2.2 T.1)),(vN (max T.2.2 T.1))]) (pv:=[(0,(vN (min T.2.2 T.1))),(1,(vN (max T.2.2 T.1)))]) (places:=[(0,1),(1,1)]) zeroValue239 underlying239 (λw=>by simp [sizeOf3]) O O) O (vE (v:=(vN vq3)) O (Gx Gz 1 (kvs:=Ca ts (3*t+2)) (x:=((min T.2.2 T.1,max T.2.2 T.1):P2)) (z0:=0) O O underlying238 zeroValue3 O (Es hn hN _ Z) (DS Z Z) hvq3) O ?_)))
  have hmq:=L1 (ts:=ts) (3*t+2) ((min T.2.2 T.1,max T.2.2 T.1):P2)
  refine vE O (AX (c:=((vq3+1:Nat):Int)) O O (AZ (a:=vq3) (b:=1) Z)) O (CZ.imp O (AE.mapEntry Gz 1 (kvs:=Ca ts (3*t+2)) (x:=((min T.2.2 T.1,max T.2.2 T.1):P2)) (z0:=0) (v:=vq3) O O underlying238 zeroValue3 O (Es hn hN _ Z) (DS Z Z) hvq3 O (CZ.backW (Vw 1 O O) (vE O (Aa (v:=(vN (Co (Ca ts (3*t+2)) ((min T.2.2 T.1,max T.2.2 T.1):P2)))) O O) O (CZ.cut O ?_)))))
  refine AE.entryStore 1 (kvs:=Ca ts (3*t+2)) (x:=((min T.2.2 T.1,max T.2.2 T.1):P2)) (u:=vq3) (y:=vq3+1) O O O O ?_
  rw [show Bc (Ca ts (3*t+2)) ((min T.2.2 T.1,max T.2.2 T.1):P2) (vq3+1)=Ca ts (3*t+3) from by rw [hvq3,hT];exact (IE (ts:=ts) (t:=t) (i:=2) Z).symm]
  refine AS.back (List.nil_sublist _) (AS.nil (AD.subF (sL [1,4,5,20,21,22,7,26] O) (AD.in_normal (AD.then_ (AF.region ?_)))))
  refine AH (AX (c:=(3:Int)) O O (by decide)) O (AP O (AE.nil (AD.subF (sL [1,4,5,20,21,22,7,26] O) (AD.again (FL.step ?_)))))
  refine q4 (AH (Af (c:=false) O O (by decide)) O (AE.nil (q1 (AF.cond_false O (AF.exit ?_)))))
  refine AD.then_exit (AD.then_exit (AD.in_exit (AD.in_normal (AD.then_ (AF.region ?_)))))
  refine AH (AX (c:=((t+1:Nat):Int)) O O (AZ (a:=t) (b:=1) Z)) O (AP O (AE.nil (AD.subF (sL [1,4,5,20,21,22,7,26] O) ?_)))
  rw [show 3*t+3=3*(t+1)+0 by omega]
  exact AD.round1 (t+1) Z Z (sF O) (sl sr)
 ·replace hc1:=of_decide_eq_false hc1
  have htl:t=ts.length:=by omega
  refine AF.exit (AD.then_exit (AD.round1_exit (AD.in_exit (q2 (AJ O ?_)))))
  refine AE.nilRow 43 3 (AE.nil (q1 (q4 (AP O ?_))))
  rw [show Ca ts (3*t+0)=(Ca ts (3*ts.length)) by rw [htl,Nat.add_zero]]
  refine cX (S:=S) (cs:=rowsL B8 (edL ts)) (k:=(edL ts).length) (args:=[(Value.slice x.p ts.length x.c)]) call49 (λw hw=>Mj ts x N hn hN hl w (D_ hw 2 O lx)) O O O λo lo=>AH (v:=(vN ((edL ts).length))) (AG O underlying51) O (AP O (AE.nil (AD.subF (sL [1,4,5,20,21,22,11,52,53,54] O) (AD.then_ ?_))))
  refine AF.block ?_
  refine AF.lp4 (tg λ(i:Nat) (p1:Option Addr) (c1:Nat) (out:List T3)=>i<=(edL ts).length/\OwnOk p1 out.length c1/\out=Ih ts i) (tg λ(i:Nat) (p1:Option Addr) (c1:Nat) (out:List T3)=>[(4,(Value.slice none 0 0)),(5,(Value.map (some b1))),(52,(Value.slice o.p ((edL ts).length) o.c)),(53,(vN ((edL ts).length))),(54,(vN i)),(11,(Value.slice p1 out.length c1))]) (tg λ(i:Nat) (p1:Option Addr) (c1:Nat) (out:List T3)=>[Ah o.p (rowsL B8 (edL ts)),rowW p1 43 3 out.length c1 (rowsL Am out),DJ b1 Il vN (Ca ts (3*ts.length)),Ah x.p (rowsL Am ts)]) (tg λ(i:Nat) (p1:Option Addr) (c1:Nat) (out:List T3)=>(edL ts).length-i) 0 none 0 ([]:List T3) (⟨Nat.zero_le _,OwnOk.none,rfl⟩) (sF O) sr (λi p1 c1 out hJ=>?_)
  obtain ⟨hi,ho,hou⟩:=hJ
  have hol:=TP (ts:=ts) i
  rw [<-hou] at hol
  refine q4 (AH (Af (c:=(decide (i<((edL ts).length)))) O O (DB (a:=i) (b:=(edL ts).length))) O (AE.nil (q1 ?_)))
  refine AF.cond O (λhc3=>?_) (λhc3=>?_)
  ·replace hc3:=of_decide_eq_true hc3
   have hel:=Iv (ts:=ts) (3*ts.length)
   rw [<-I9] at hel
   have hmem:((edL ts).getD i (⟨0,0,0,0⟩:E4))∈edL ts:=by rw [List.getD,List.getElem?_eq_getElem hc3];exact List.getElem_mem hc3
   obtain ⟨hea,heb⟩:=Se hn hN _ hmem
   refine AF.skip (q1 (AF.block (q4 (AH (v:=(pP (pB o.p) (pO o.p+i*4))) (AR (j:=i) O O o.ok underlying51 sizeOf65 O Z) O (AH (v:=(aG (B8 ((edL ts).getD i (⟨0,0,0,0⟩:E4))))) (AY (vs:=B8 ((edL ts).getD i (⟨0,0,0,0⟩:E4))) (i:=0) O O (BL.ne o.ok Z) MY (Ar Bu _ _ _ Z) (Bu _)) O ?_)))))
   refine al R8 O λb2=>Aq O sizeOf65 O (q3 (sL [4,5,52,53,54,11,13] O) (AP O (AH (v:=(pP b2 0)) (AA O underlying65 O sizeOf3 O) O (BN 0 (vN (((edL ts).getD i (⟨0,0,0,0⟩:E4)).a)) B7 O ?_))))
   refine AH (v:=(pP b2 1)) (AA O underlying65 O sizeOf3 O) O (BN 0 (vN (((edL ts).getD i (⟨0,0,0,0⟩:E4)).b)) B7 O (AH (v:=(aG ([(vN (((edL ts).getD i (⟨0,0,0,0⟩:E4)).a)),(vN (((edL ts).getD i (⟨0,0,0,0⟩:E4)).b))]))) (AT (zs:=A8 ((0,0):P2)) (vs:=[(vN (((edL ts).getD i (⟨0,0,0,0⟩:E4)).a)),(vN (((edL ts).getD i (⟨0,0,0,0⟩:E4)).b))]) (pv:=[(0,(vN (((edL ts).getD i (⟨0,0,0,0⟩:E4)).a))),(1,(vN (((edL ts).getD i (⟨0,0,0,0⟩:E4)).b)))]) (places:=[(0,1),(1,1)]) zeroValue239 underlying239 (λw=>by simp [sizeOf3]) O O) O (AH (v:=(vN ((BG (Ca ts (3*ts.length)) ((((edL ts).getD i (⟨0,0,0,0⟩:E4)).a,((edL ts).getD i (⟨0,0,0,0⟩:E4)).b):P2)).getD 0))) (GU Gz 3 (eV:=vN) (kvs:=(Ca ts (3*ts.length))) (x:=((((edL ts).getD i (⟨0,0,0,0⟩:E4)).a,((edL ts).getD i (⟨0,0,0,0⟩:E4)).b):P2)) (z0:=0) (co:=false) O O underlying238 zeroValue3 O (Es hn hN _ Z) (WJ Z Z)) O (AH (BZ (c:=(decide (((BG (Ca ts (3*ts.length)) ((((edL ts).getD i (⟨0,0,0,0⟩:E4)).a,((edL ts).getD i (⟨0,0,0,0⟩:E4)).b):P2)).getD 0)=1))) O O (NU (a:=(BG (Ca ts (3*ts.length)) ((((edL ts).getD i (⟨0,0,0,0⟩:E4)).a,((edL ts).getD i (⟨0,0,0,0⟩:E4)).b):P2)).getD 0) (b:=1))) O (AE.nil ?_)))))
   refine AD.subF (sL [4,5,52,53,54,11,13,65] O) (AD.then_ ?_)
   refine AF.cond O (λhc4=>?_) (λhc4=>?_)
   ·replace hc4:=of_decide_eq_true hc4
    refine AF.region (AP O (AH (v:=(pP b2 0)) (AA O underlying65 O sizeOf3 O) O (BN 0 (vN (((edL ts).getD i (⟨0,0,0,0⟩:E4)).a)) B7 O (AH (v:=(pP b2 1)) (AA O underlying65 O sizeOf3 O) O (BN 0 (vN (((edL ts).getD i (⟨0,0,0,0⟩:E4)).b)) B7 O ?_)))))
    refine AH (v:=(aG ([(vN (((edL ts).getD i (⟨0,0,0,0⟩:E4)).a)),(vN (((edL ts).getD i (⟨0,0,0,0⟩:E4)).b)),(vI 0)]))) (AT (zs:=Am ((0,0,0):Nat×Nat×Nat)) (vs:=[(vN (((edL ts).getD i (⟨0,0,0,0⟩:E4)).a)),(vN (((edL ts).getD i (⟨0,0,0,0⟩:E4)).b)),(vI 0)]) (pv:=[(0,(vN (((edL ts).getD i (⟨0,0,0,0⟩:E4)).a))),(1,(vN (((edL ts).getD i (⟨0,0,0,0⟩:E4)).b)))]) (places:=[(0,1),(1,1),(2,1)]) zeroValue43 underlying43 (λw=>by simp [sizeOf3]) O O) O (AE.openV (V:=λb3=>(Value.slice (some ⟨b3,0,none⟩) 1 1)) (T:=43) (cs:=Am (((edL ts).getD i (⟨0,0,0,0⟩:E4)).a,((edL ts).getD i (⟨0,0,0,0⟩:E4)).b,0)) (AQ O) (BD (z:=.agg (Am ((0,0,0):Nat×Nat×Nat)).toArray) (cs:=Am (((edL ts).getD i (⟨0,0,0,0⟩:E4)).a,((edL ts).getD i (⟨0,0,0,0⟩:E4)).b,0)) (pv:=[(0,(aG ([(vN (((edL ts).getD i (⟨0,0,0,0⟩:E4)).a)),(vN (((edL ts).getD i (⟨0,0,0,0⟩:E4)).b)),(vI 0)])))]) underlying24 sizeOf43 zeroValue43 (by decide) (by decide) O (J2 (((edL ts).getD i (⟨0,0,0,0⟩:E4)).a,((edL ts).getD i (⟨0,0,0,0⟩:E4)).b,0))) O (Ad O) λb3=>AE.appendAt 3 (j:=0) (cs2:=rowsL Am (out++[(((edL ts).getD i (⟨0,0,0,0⟩:E4)).a,((edL ts).getD i (⟨0,0,0,0⟩:E4)).b,0)])) V6 O ho (Ag BC _) O O O O O (by decide) (JH Z) Z (by rw [BT];rfl) O λp_1 c_1 ho_1 hne_1=>AJ O (AE.nil (AD.subF (sL [4,5,52,53,54,11,13] O) ?_)))
    refine AD.in_normal (AD.then_ (AF.region (AH (AX (c:=((i+1:Nat):Int)) O O (AZ (a:=i) (b:=1) Z)) O (AP O (AE.nil ?_)))))
    refine AD.subF (sL [4,5,52,53,54,11,13] O) ?_
    rw [show out.length+1=(out++[(((edL ts).getD i (⟨0,0,0,0⟩:E4)).a,((edL ts).getD i (⟨0,0,0,0⟩:E4)).b,0)]).length by simp]
    exact AD.round4 (i+1) p_1 c_1 (out++[(((edL ts).getD i (⟨0,0,0,0⟩:E4)).a,((edL ts).getD i (⟨0,0,0,0⟩:E4)).b,0)]) (⟨Z,(by simpa using ho_1),by rw [hou];exact (Rk Z hc4).symm⟩) Z (sF O) (sl (sl sr))
   ·replace hc4:=of_decide_eq_false hc4
    refine AF.skip (AD.in_normal (AD.then_ (AF.region (AH (AX (c:=((i+1:Nat):Int)) O O (AZ (a:=i) (b:=1) Z)) O (AP O ?_)))))
    exact AE.nil (AD.subF (sL [4,5,52,53,54,11,13] O) (AD.round4 (i+1) p1 c1 out (⟨Z,ho,by rw [hou];exact (VF Z hc4).symm⟩) Z (sF O) (sl sr)))
  ·replace hc3:=of_decide_eq_false hc3
   refine AF.exit (AD.then_exit (AD.round4_exit (AD.in_exit (q2 (AP O ?_)))))
   exact BS call38 (Mv p1 out.length c1 ho.row.le) O (AJ O (AE.nil (AD.subF (sL [4,5,52,53,54,11] O) (AD.then_ (AF.ret (AN O (Ac (v:=(Value.slice p1 out.length out.length)) O) (λw hw=>(by rw [show Eu ts=out by rw [hou,show i=(edL ts).length by omega];rfl];exact Mr hw (OX.mk p1 c1 ho) (sl (sk (sl (sl sr)))) (G0.own O G0.nil) O))))))))
end
section
set_option maxRecDepth 100000
theorem Vr (us:List Bool) (n:Nat) (x:RX (bL us) n) (hn:us.length=n) (hl:n<=1000000) (hu:∀j,j<n->us.getD j false=true) (w:World) {S:Nat->Prop} (hx:Ro S w x):Calls prog 153 #[(Value.slice x.p n x.c),(Value.bool false)] w (Ak w (vI (-1:Int))):=by
 have lx:=Ep (W:=w) hx
 refine BF (args:=[(Value.slice x.p n x.c),(Value.bool false)]) (L:=[Ah x.p (bL us)]) func153 O O (Ad O) (En hx BQ) (AF.subF (sL [0,1] O) (q4 (AJ O (AE.nil (q1 ?_)))))
 refine q4 (AP O (AH (v:=(vN n)) (AG O underlying197) O (AP O (AE.nil (AD.subF (sL [0,1,4,7,8] O) ?_)))))
 refine AD.then_ (AF.block ?_)
 refine AF.lp1 (tg λ(j:Nat)=>j<=n) (tg λ(j:Nat)=>[(0,(Value.slice x.p n x.c)),(1,(Value.bool false)),(7,(vN n)),(8,(vN j))]) (tg λ(j:Nat)=>[Ah x.p (bL us)]) (tg λ(j:Nat)=>n-j) 0 (Nat.zero_le _) (sF O) sr (λj hJ=>?_)
 have hj:=hJ
 refine q4 (AH (Af (c:=(decide (j<n))) O O (DB (a:=j) (b:=n))) O (AE.nil (q1 ?_)))
 refine AF.cond O (λhc0=>?_) (λhc0=>?_)
 ·replace hc0:=of_decide_eq_true hc0
  refine AF.skip (q1 (AF.block (q4 (AP O (AJ O ?_)))))
  refine q3 (sL [0,1,7,8,5] O) (AP O (AP O (AP O (AH (v:=(pP (pB x.p) (pO x.p+j*1))) (AR (j:=j) O O x.ok underlying197 sizeOf4 O Z) O (AH (Av (v:=(Value.bool (us.getD j false))) (i:=0) O O (x.ok.ne Z) Q0 (WA (us:=us) (j:=j) Z)) O ?_)))))
  refine AH (IH (c:=false) O O underlying4 (by rw [hu j Z];rfl)) O (AE.nil (AD.subF (sL [0,1,7,8,5,16] O) (AD.then_ (AF.cond_false O (AF.skip ?_)))))
  refine AD.in_normal (AD.then_ (AF.region (AH (AX (c:=((j+1:Nat):Int)) O O (AZ (a:=j) (b:=1) Z)) O (AP O (AE.nil ?_)))))
  exact AD.subF (sL [0,1,7,8,5] O) (AD.round1 (j+1) Z Z (sF O) sr)
 ·replace hc0:=of_decide_eq_false hc0
  refine AF.exit (AD.then_exit (AD.round1_exit (AD.in_exit (q2 (AJ O ?_)))))
  exact AE.nil (AD.then_ (AF.ret (AN O (Ac (v:=(vI (-1:Int))) O) (λw hw=>⟨rfl,hw.out⟩))))
theorem Q2 (us:List Bool) (n:Nat) (x:RX (bL us) n) (hn:us.length=n) (hl:n<=1000000) (hu:∀j,j<n->us.getD j false=true) (w:World) {S:Nat->Prop} (hx:Ro S w x):Calls prog 118 #[(Value.slice x.p n x.c),(Value.bool false)] w (Ak w (Value.bool false)):=by
 have lx:=Ep (W:=w) hx
 refine BF (args:=[(Value.slice x.p n x.c),(Value.bool false)]) (L:=[Ah x.p (bL us)]) func118 O O (Ad O) (En hx BQ) (AF.subF (sL [0,1] O) (q4 (AJ O (AE.nil (q2 ?_)))))
 refine AP O (AP O (Ef call153 (λw hw=>Vr us n x hn hl hu w (D_ hw 0 O lx)) O (AH (EV (c:=false) O O (by decide)) O (AJ O (AE.nil ?_)))))
 exact AD.subF (sL [4] O) (AD.then_ (AF.ret (AN O (Ac (v:=(Value.bool false)) O) (λw hw=>⟨rfl,hw.out⟩))))
theorem N6 (ys:List Pt) (n:Nat) (x:RX (rowsL Aj ys) n) (hn:ys.length=n) (hl:n<=1000000) (hy:ys.Nodup) (w:World) {S:Nat->Prop} (hx:Ro S w x):Calls prog 122 #[(Value.slice x.p n x.c)] w (Ak w (Value.slice x.p n x.c)):=by
 have lx:=Ep (W:=w) hx
 refine BF (args:=[(Value.slice x.p n x.c)]) (L:=[Ah x.p (rowsL Aj ys)]) func122 O O (Ad O) (En hx BQ) (AF.subF (sL [0] O) (q4 (AJ O (AE.nil (q1 ?_)))))
 refine q4 (AP O (AH (v:=(vN n)) (AG O underlying28) O (AH (Af (c:=(decide (n<2))) O O (DB (a:=n) (b:=2))) O (AE.nil (AD.subF (sL [0,2,8] O) ?_)))))
 refine AD.then_ ?_
 refine AF.cond O (λhc0=>?_) (λhc0=>?_)
 ·replace hc0:=of_decide_eq_true hc0
  refine q4 (AP O (AJ O (AE.nil (AD.subF (sL [0,2] O) (AD.then_ ?_)))))
  exact AF.ret (AD.then_ret (AN O (Ac (v:=(Value.slice x.p n x.c)) O) (λw hw=>⟨rfl,hw.out⟩)))
 ·replace hc0:=of_decide_eq_false hc0
  refine AF.skip (q1 (q4 (AJ O (AE.nil (AD.then_ ?_)))))
  refine AF.block ?_
  refine AF.lp1 (tg λ(k:Nat)=>1<=k/\k<=n) (tg λ(k:Nat)=>[(0,(Value.slice x.p n x.c)),(3,(vN k))]) (tg λ(k:Nat)=>[Ah x.p (rowsL Aj ys)]) (tg λ(k:Nat)=>n-k) 1 (⟨Nat.le_refl _,Z⟩) (sF O) sr (λk hJ=>?_)
  obtain ⟨hk1,hk⟩:=hJ
  refine AF.seq (q4 (AP O (AP O (AH (v:=(vN n)) (AG O underlying28) O (AH (Af (c:=(decide (k<n))) O O (DB (a:=k) (b:=n))) O ?_)))))
  refine AE.nil (AD.subF (sL [0,3,13] O) (AD.then_ ?_))
  refine AF.cond O (λhc1=>?_) (λhc1=>?_)
  ·replace hc1:=of_decide_eq_true hc1
   refine AF.skip (q1 (AF.block (AF.seq (DA [(0,true),(1,true),(2,true),(3,true),(4,true),(5,true),(6,true),(7,true),(8,true),(9,true)] sr (Bp O ?_)))))
   refine Bp O (Aw (v:=(pP (pB x.p) (pO x.p+k*10))) O (AR (j:=k) O O x.ok underlying28 sizeOf63 O Z) (Aw (v:=(aG (Aj (ys.getD k (⟨0,0⟩:Pt))))) O (AY (vs:=Aj (ys.getD k (⟨0,0⟩:Pt))) (i:=0) O O (BL.ne x.ok Z) BR (Ar BJ _ _ _ Z) (BJ _)) (Bp O (Bp O (Aw O (By (c:=((k-1:Nat):Int)) O O (CX (a:=k) (b:=1) Z Z)) ?_)))))
   refine Aw (v:=(pP (pB x.p) (pO x.p+(k-1)*10))) O (AR (j:=k-1) O O x.ok underlying28 sizeOf63 O Z) (Aw (v:=(aG (Aj (ys.getD (k-1) (⟨0,0⟩:Pt))))) O (AY (vs:=Aj (ys.getD (k-1) (⟨0,0⟩:Pt))) (i:=0) O O (BL.ne x.ok Z) BR (Ar BJ _ _ _ Z) (BJ _)) (Aw O (CB (c:=decide (ys.getD k (⟨0,0⟩:Pt)=ys.getD (k-1) (⟨0,0⟩:Pt))) O O eqGuardType63 (Vp 9994 (ys.getD k (⟨0,0⟩:Pt)) (ys.getD (k-1) (⟨0,0⟩:Pt)))) (AS.nil (AD.subF (sL [0,3,25] O) (AD.then_ ?_)))))
   refine AF.cond O (λhc2=>?_) (λhc2=>?_)
   ·replace hc2:=of_decide_eq_true hc2
    exact (Pk hy Z Z hc2).elim
   ·replace hc2:=of_decide_eq_false hc2
    refine AF.skip (AD.in_normal (AD.then_ (AF.region (AP O (AH (AX (c:=((k+1:Nat):Int)) O O (AZ (a:=k) (b:=1) Z)) O ?_)))))
    exact AJ O (AE.nil (AD.subF (sL [0,3] O) (AD.round1 (k+1) (⟨Z,Z⟩) Z (sF O) sr)))
  ·replace hc1:=of_decide_eq_false hc1
   refine AF.exit (AD.then_exit (AD.round1_exit (AD.in_exit (q2 (AP O ?_)))))
   exact AJ O (AE.nil (AD.subF (sL [0,3,2] O) (AD.then_ (AF.ret (AN O (Ac (v:=(Value.slice x.p n x.c)) O) (λw hw=>⟨rfl,hw.out⟩))))))
theorem W5:Ra prog 197 4 (.bool false) 1:=⟨underlying197,_,_,rfl,rfl,rfl,rfl,rfl⟩
set_option maxHeartbeats 1000000 in
theorem US {ps:List Pt} {ts ss:List T3} (x:MX ps ts ss) (hv:Ft ps ts ss) (w:World) {S:Nat->Prop} (hx:Ro S w x):Calls prog 74 #[(aG (Cm x))] w (Ak w (Value.bool true)):=by
 have hp:=hv.pl
 have htl:=hv.tl
 have hsl:=hv.sl
 have h0:=hv.t0
 have hbp:∀p∈ps,CG p<=1000:=λp hp=>by obtain ⟨j,hj,rfl⟩:=List.getElem_of_mem hp;have h9:=hv.sz j;rwa [cor,List.getD,List.getElem?_eq_getElem hj] at h9
 have hps0:0<ps.length:=by have h9:=(DG (Cp hv.num hv.t0)).1;omega
 have lx:=Ep (W:=w) hx
 refine BF (args:=[(aG (Cm x))]) (L:=[Ah x.a.p (rowsL Aj ps),Ah x.b.p (rowsL Am ts),Ah x.c.p (rowsL Am ss)]) func74 O O (Ad O) (En hx BQ) (AF.subF (sL [0] O) (q4 (Bk (cs:=Cm x) O λb1=>AJ O (q3 (sL [1,2] O) ?_))))
 refine AH (v:=(pP b1 0)) (AA O underlying30 O sizeOf28 O) O (BN 0 (Value.slice x.a.p ps.length x.a.c) Di O (AH (v:=(vN ps.length)) (AG O underlying28) O ?_))
 refine AE.makeBool (m:=ps.length) W5 O O Z O O ?_;intro bm hbm;rw [QX ts ps.length]
 refine AJ O (q6 (sL [1,2,3] O) (q4 (AH (v:=(pP b1 1)) (AA O underlying30 O sizeOf23 O) O (BN 1 (Value.slice x.b.p ts.length x.b.c) C_ O (AH (v:=(vN ts.length)) (AG O underlying23) O ?_)))))
 refine AP O (AE.nil (AD.subF (sL [1,2,3,12,13,14] O) (AD.then_ (AF.block ?_))))
 refine AF.lp1 (tg λ(t:Nat)=>t<=ts.length) (tg λ(t:Nat)=>[(1,(pP b1 0)),(2,(Value.bool false)),(3,(Value.slice (some ⟨bm,0,none⟩) ps.length ps.length)),(12,(Value.slice x.b.p ts.length x.b.c)),(13,(vN ts.length)),(14,(vN t))]) (tg λ(t:Nat)=>[rowW (some ⟨bm,0,none⟩) 4 1 ps.length ps.length (bL (JI ts ps.length t)),Ae b1 30 (Cm x),Ah x.a.p (rowsL Aj ps),Ah x.b.p (rowsL Am ts),Ah x.c.p (rowsL Am ss)]) (tg λ(t:Nat)=>ts.length-t) 0 (Nat.zero_le _) (sF O) sr (λt hJ=>?_)
 have ht:=hJ
 refine q4 (AH (Af (c:=(decide (t<ts.length))) O O (DB (a:=t) (b:=ts.length))) O (AE.nil (q1 ?_)))
 refine AF.cond O (λhc0=>?_) (λhc0=>?_)
 ·replace hc0:=of_decide_eq_true hc0
  obtain ⟨T,hT⟩:∃q,q=ts.getD t (0,0,0):=⟨_,rfl⟩
  obtain ⟨g1,g2,g3⟩:=DG (Cp hv.num hc0)
  rw [<-hT] at g1 g2 g3
  refine AF.skip (q1 (AF.block (q4 (AH (v:=(pP (pB x.b.p) (pO x.b.p+t*3))) (AR (j:=t) O O x.b.ok underlying23 sizeOf79 O Z) O (AH (v:=(aG (Am (ts.getD t ((0,0,0):Nat×Nat×Nat))))) (AY (vs:=Am (ts.getD t ((0,0,0):Nat×Nat×Nat))) (i:=3) O O (BL.ne x.b.ok Z) Ie (Ar BC _ _ _ Z) (BC _)) O ?_)))))
  refine AE.retell (k:=17) (u:=(aG (Am T))) O (by rw [hT]) (al Lp O λb2=>Aq O sizeOf79 O (AE.nil (AD.subF (sL [1,2,3,12,13,14,5] O) (AD.then_ ?_))))
  refine DA [(0,true),(1,true),(2,true),(3,true),(4,true),(5,true),(6,true),(7,true),(8,true),(9,true),(10,false),(11,true),(12,false),(13,true),(14,false)] (sk (sl sr)) (Bp O (Aw (v:=(pP b2 0)) O (AC (j:=0) O O underlying79 sizeOf3 O (by decide) O) (Bi 0 (vN T.1) B7 O (Bp O (Aw (v:=(pP b2 1)) O (AC (j:=1) O O underlying79 sizeOf3 O (by decide) O) ?_)))))
  refine Bi 0 (vN T.2.1) B7 O (Bp O (Aw (v:=(pP b2 2)) O (AC (j:=2) O O underlying79 sizeOf3 O (by decide) O) (Bi 0 (vN T.2.2) B7 O (Aw (v:=(pP (pB (some ⟨bm,0,none⟩)) (pO (some ⟨bm,0,none⟩)+T.1*1))) O (AR (j:=T.1) O O hbm.row underlying197 sizeOf4 O Z) (AS.imp O ?_)))))
  refine AE.storeRow1 (j:=T.1) (v:=(Value.bool true)) O O hbm (by rw [L4,Nat.mul_one];simp [GD]) Z O sizeOf4 O (OQ _ _ _) (AS.back (sk (sl sr)) (Aw (v:=(pP (pB (some ⟨bm,0,none⟩)) (pO (some ⟨bm,0,none⟩)+T.2.1*1))) O (AR (j:=T.2.1) O O hbm.row underlying197 sizeOf4 O Z) (AS.imp O (AE.storeRow1 (j:=T.2.1) (v:=(Value.bool true)) O O hbm (by rw [L4,Nat.mul_one];simp [GD]) Z O sizeOf4 O (OQ _ _ _) (AS.back (sk (sl sr)) ?_)))))
  refine Aw (v:=(pP (pB (some ⟨bm,0,none⟩)) (pO (some ⟨bm,0,none⟩)+T.2.2*1))) O (AR (j:=T.2.2) O O hbm.row underlying197 sizeOf4 O Z) (AS.imp O (AE.storeRow1 (j:=T.2.2) (v:=(Value.bool true)) O O hbm (by rw [L4,Nat.mul_one];simp [GD]) Z O sizeOf4 O (OQ _ _ _) (AS.back (sk (sl sr)) (AS.nil (AD.subF (sL [1,2,3,12,13,14,5] O) ?_)))))
  refine AD.in_normal (AD.then_ (AF.region (AH (AX (c:=((t+1:Nat):Int)) O O (AZ (a:=t) (b:=1) Z)) O (AP O (AE.nil ?_)))))
  refine AD.subF (sL [1,2,3,12,13,14,5] O) ?_
  rw [hT,Qc Z]
  exact AD.round1 (t+1) Z Z (sF O) (sl sr)
 ·replace hc0:=of_decide_eq_false hc0
  have htt:t=ts.length:=by omega
  refine AF.exit (AD.then_exit (AD.round1_exit (AD.in_exit (q1 (q4 ?_)))))
  refine AP O (AE.frzRow 0 O hbm (by rw [L4,Nat.mul_one];simp [GD]) O O λhn_US=>Ef call118 (λw hw=>Q2 (JI ts ps.length t) ps.length ⟨(some ⟨bm,0,none⟩),ps.length,hbm.row⟩ (GD _ _ _) Z (λj hj=>by rw [htt];exact TO hj (hv.use j hj)) w (D_ (S:=S) hw 0 O (At.new hn_US))) O (AE.nil (AD.subF (sL [1,2,3,12,13,14,32] O) (AD.then_ ?_))))
  refine AF.cond_false O (AF.skip (q2 (AH (v:=(pP b1 0)) (AA O underlying30 O sizeOf28 O) O (BN 1 (Value.slice x.a.p ps.length x.a.c) Di O (AE.callL (S:=S) (V:=WW) (LW:=Uz (T:=63) (z:=10) (cs:=rowsL Aj ps) (n:=ps.length)) (args:=[(Value.slice x.a.p ps.length x.a.c)]) call69 (λw hw=>K8 ps x.a Z w (Wx (D_ hw 2 O lx))) O λcl1 hcl1=>?_)))))
  refine AJ O (q3 (sL [1,2,3,12,13,14,6] O) (AP O ?_))
  have hpn:cl1.p≠none:=λe=>by have:=(cl1.ok.nil e).1;omega
  refine AE.callWX 0 (α:=List Pt) (K:=λys=>ys.Perm ps) (cs':=λys=>rowsL Aj ys) (v:=(Value.tuple #[])) (AQ O) (Ax (args:=[(Value.slice cl1.p ps.length cl1.c),(Value.func (.func 120) #[] #[])]) O O call119) O (λw hw=>S3 ps _ _ _ 63 cl1.ok hpn O Z hbp w (hw.holds (i:=0) O)) (λd hd=>by cases hd<;>exact (Ad O)) λys hys=>?_
  have hyl:=hys.length_eq
  refine AE.frzRow 0 O cl1.ok (by rw [Ag BJ,hyl]) O O λhn_cl1=>q6 (sL [1,2,3,12,13,14,6] O) (DA [(0,true),(3,true),(4,true),(5,true),(1,false),(2,true),(6,true),(7,true)] sr (Bp O (Aw (v:=(pP b1 0)) O (AA O underlying30 O sizeOf28 O) (Bi 2 (Value.slice x.a.p ps.length x.a.c) Di O ?_))))
  refine Aw (v:=(vN ps.length)) O (AG O underlying28) (AS.imp O (Ef call122 (λw hw=>N6 ys ps.length ⟨cl1.p,cl1.c,cl1.ok.row⟩ hyl Z (hys.nodup_iff.2 hv.dst) w (D_ (S:=S) hw 0 O (At.new hn_cl1))) O (AS.back sr (Aw (v:=(vN ps.length)) O (AG O underlying28) (Aw O (BZ (c:=true) O O (decide_eq_true O)) ?_)))))
  exact Ez O (AS.nil (AD.subF (sL [1,2,3,12,13,14,6] O) (AD.then_ (AF.ret (AN O (Ac (v:=(Value.bool true)) O) (λw hw=>⟨rfl,hw.out⟩))))))
theorem Ud (s r:T3) (h:s.1=r.1/\s.2.1=r.2.1) (w:World)  :Calls prog 126 #[(aG (Am s)),(aG (Am r))] w (Ak w (Value.bool true)):=by
 refine Ab (args:=[(aG (Am s)),(aG (Am r))]) func126 O O (Ad O) (AF.subF (sL [0,1] O) (q4 (Bk (cs:=Am s) O λb1=>Bk (cs:=Am r) O λb2=>AJ O ?_)))
 refine q3 (sL [2,3,4] O) (AH (v:=(pP b1 0)) (AA O underlying43 O sizeOf3 O) O (BN 1 (vN s.1) B7 O (AH (v:=(pP b2 0)) (AA O underlying43 O sizeOf3 O) O (BN 0 (vN r.1) B7 O (AH (BZ (c:=true) O O (decide_eq_true Z)) O ?_)))))
 refine AP O (AE.step (v:=(pP b1 1)) (AB O) (AA O underlying43 O sizeOf3 O) O (Ad O) (AE.step (v:=(vN s.2.1)) (AB O) (AM (i:=1) (v:=(vN s.2.1)) O O B7.a O) O (Ad O) (AE.step (v:=(pP b2 1)) (AB O) (AA O underlying43 O sizeOf3 O) O (Ad O) (AE.step (v:=(vN r.2.1)) (AB O) (AM (i:=0) (v:=(vN r.2.1)) O O B7.a O) O (Ad O) (AE.step (v:=(Value.bool true)) (AB O) (BZ (c:=true) O O (decide_eq_true Z)) O (Ad O) ?_)))))
 exact AH (v:=(Value.bool true)) (Al O O) O (AJ O (AE.nil (AD.subF (sL [4] O) (AD.then_ (AF.ret (AN O (Ac (v:=(Value.bool true)) O) (λw hw=>⟨rfl,hw.out⟩)))))))
theorem SK (xs ys:List T3) (x:RX (rowsL Am xs) xs.length) (y:RX (rowsL Am ys) ys.length) (hn:xs.length=ys.length) (hl:xs.length<=1000000) (hk:∀j,j<xs.length->(xs.getD j (0,0,0)).1=(ys.getD j (0,0,0)).1/\(xs.getD j (0,0,0)).2.1=(ys.getD j (0,0,0)).2.1) (w:World) {S:Nat->Prop} (hx:Ro S w x) (hy:Ro S w y):Calls prog 45 #[(Value.slice x.p xs.length x.c),(Value.slice y.p ys.length y.c),(Value.func (.func 126) #[] #[])] w (Ak w (Value.bool true)):=by
 have lx:=Ep (W:=w) hx
 have ly:=Ep (W:=w) hy
 refine BF (args:=[(Value.slice x.p xs.length x.c),(Value.slice y.p ys.length y.c),(Value.func (.func 126) #[] #[])]) (L:=[Ah x.p (rowsL Am xs),Ah y.p (rowsL Am ys)]) func45 O O (Ad O) (En hx (En hy BQ)) (AF.subF (sL [0,1,2] O) (q4 (AJ O (AE.nil (q1 ?_)))))
 refine q4 (AP O (AH (v:=(vN xs.length)) (AG O underlying24) O (AP O (AH (v:=(vN ys.length)) (AG O underlying24) O (AH (CP (c:=false) O O (decide_eq_false Z)) O ?_)))))
 refine AE.nil (AD.subF (sL [0,1,2,6,12] O) (AD.then_ (AF.cond_false O (AF.skip (q1 ?_)))))
 refine q4 (AP O (AH (v:=(vN xs.length)) (AG O underlying24) O (AP O (AE.nil (AD.subF (sL [0,1,2,6,14,15] O) ?_)))))
 refine AD.then_ (AF.block ?_)
 refine AF.lp1 (tg λ(j:Nat)=>j<=xs.length) (tg λ(j:Nat)=>[(0,(Value.slice x.p xs.length x.c)),(1,(Value.slice y.p ys.length y.c)),(2,(Value.func (.func 126) #[] #[])),(14,(vN xs.length)),(15,(vN j))]) (tg λ(j:Nat)=>[Ah x.p (rowsL Am xs),Ah y.p (rowsL Am ys)]) (tg λ(j:Nat)=>xs.length-j) 0 (Nat.zero_le _) (sF O) sr (λj hJ=>?_)
 have hj:=hJ
 refine q4 (AH (Af (c:=(decide (j<xs.length))) O O (DB (a:=j) (b:=xs.length))) O (AE.nil (q1 ?_)))
 refine AF.cond O (λhc1=>?_) (λhc1=>?_)
 ·replace hc1:=of_decide_eq_true hc1
  refine AF.skip (q1 (AF.block (q4 (AP O (AJ O ?_)))))
  refine q6 (sL [0,1,2,14,15,7] O) (DA [(0,true),(1,true),(2,true),(3,true),(4,true),(5,true),(6,true),(7,true),(8,true),(9,false),(10,true)] sr (Bp O (Bp O (Bp O (Aw (v:=(pP (pB x.p) (pO x.p+j*3))) O (AR (j:=j) O O x.ok underlying24 sizeOf43 O Z) ?_)))))
  refine Aw (v:=(aG (Am (xs.getD j ((0,0,0):Nat×Nat×Nat))))) O (AY (vs:=Am (xs.getD j ((0,0,0):Nat×Nat×Nat))) (i:=0) O O (BL.ne x.ok Z) Vi (Ar BC _ _ _ Z) (BC _)) (Bp O (Bp O (Aw (v:=(pP (pB y.p) (pO y.p+j*3))) O (AR (j:=j) O O y.ok underlying24 sizeOf43 O Z) (Aw (v:=(aG (Am (ys.getD j ((0,0,0):Nat×Nat×Nat))))) O (AY (vs:=Am (ys.getD j ((0,0,0):Nat×Nat×Nat))) (i:=1) O O (BL.ne y.ok Z) Vi (Ar BC _ _ _ Z) (BC _)) (AS.imp O ?_)))))
  refine BS call126 (Ud _ _ (hk j Z)) O (AS.back sr (Aw O (BY (c:=false) O O) (AS.nil (AD.subF (sL [0,1,2,14,15,28] O) (AD.then_ ?_)))))
  refine AF.cond_false O (AF.skip (AD.in_normal (AD.then_ (AF.region (AH (AX (c:=((j+1:Nat):Int)) O O (AZ (a:=j) (b:=1) Z)) O ?_)))))
  exact AP O (AE.nil (AD.subF (sL [0,1,2,14,15] O) (AD.round1 (j+1) Z Z (sF O) sr)))
 ·replace hc1:=of_decide_eq_false hc1
  refine AF.exit (AD.then_exit (AD.round1_exit (AD.in_exit (q2 (AJ O ?_)))))
  exact AE.nil (AD.then_ (AF.ret (AN O (Ac (v:=(Value.bool true)) O) (λw hw=>⟨rfl,hw.out⟩))))
theorem Ql {ps:List Pt} {ts ss:List T3} (x:MX ps ts ss) (hv:Ft ps ts ss) (w:World) {S:Nat->Prop} (hx:Ro S w x):Calls prog 76 #[(aG (Cm x))] w (Ak w (Value.bool true)):=by
 have hp:=hv.pl
 have htl:=hv.tl
 have hsl:=hv.sl
 have h0:=hv.t0
 have lx:=Ep (W:=w) hx
 refine BF (args:=[(aG (Cm x))]) (L:=[Ah x.a.p (rowsL Aj ps),Ah x.b.p (rowsL Am ts),Ah x.c.p (rowsL Am ss)]) func76 O O (Ad O) (En hx BQ) (AF.subF (sL [0] O) (q4 (Bk (cs:=Cm x) O λb1=>AJ O (q6 (sL [1,2] O) ?_))))
 refine DA [(0,true),(1,true),(2,true),(3,true),(4,true),(5,true),(6,false),(7,false),(8,true)] sr (Aw (v:=(pP b1 2)) O (AA O underlying30 O sizeOf24 O) (Bi 0 (Value.slice x.c.p ss.length x.c.c) Qp O (Aw (v:=(pP b1 0)) O (AA O underlying30 O sizeOf28 O) (Bi 0 (Value.slice x.a.p ps.length x.a.c) Di O (Aw (v:=(pP b1 1)) O (AA O underlying30 O sizeOf23 O) ?_)))))
 refine Bi 0 (Value.slice x.b.p ts.length x.b.c) C_ O (AS.imp O (AE.callL (S:=S) (V:=XS) (LW:=Uz (T:=43) (z:=3) (cs:=rowsL Am (Eu ts)) (n:=(Eu ts).length)) (args:=[(Value.slice x.a.p ps.length x.a.c),(Value.slice x.b.p ts.length x.b.c)]) call125 (λw hw=>WR ts x.b x.a.p ps.length x.a.c hv.num Z Z w (RJ (D_ hw 1 O lx))) O λrm hrm=>AE.frzRow 0 O rm.ok (Ag BC _) O O λhn_rm=>AS.back (sl sr) (AS.imp O ?_)))
 refine Ef call45 (λw hw=>SK ss (Eu ts) x.c ⟨rm.p,(Eu ts).length,rm.ok.clip⟩ hv.rl Z hv.rim w (XT (D_ hw 2 O lx)) (D_ (S:=S) hw 0 O (At.new hn_rm))) O (AS.back (sl sr) (Ez O (AS.nil (AD.subF (sL [2] O) (AD.then_ ?_)))))
 exact AF.ret (AN O (Ac (v:=(Value.bool true)) O) (λw hw=>⟨rfl,hw.out⟩))
theorem M2 {ps:List Pt} {ts ss:List T3} (x:MX ps ts ss) (hv:Ft ps ts ss) (w:World) {S:Nat->Prop} (hx:Ro S w x):Calls prog 29 #[(aG (Cm x))] w (Ak w (vI 0)):=by
 have hp:=hv.pl
 have htl:=hv.tl
 have hsl:=hv.sl
 have h0:=hv.t0
 have lx:=Ep (W:=w) hx
 refine BF (args:=[(aG (Cm x))]) (L:=[Ah x.a.p (rowsL Aj ps),Ah x.b.p (rowsL Am ts),Ah x.c.p (rowsL Am ss)]) func29 O O (Ad O) (En hx BQ) (AF.subF (sL [0] O) (q4 (Bk (cs:=Cm x) O λb1=>AJ O (q6 (sL [1,2] O) ?_))))
 refine AF.block (q4 (AH (v:=(pP b1 0)) (AA O underlying30 O sizeOf28 O) O (BN 0 (Value.slice x.a.p ps.length x.a.c) Di O (AH (v:=(vN ps.length)) (AG O underlying28) O (AH (Cx (c:=false) O O (decide_eq_false Z)) O ?_)))))
 refine AP O (AE.step (v:=(pP b1 1)) (AB O) (AA O underlying30 O sizeOf23 O) O (Ad O) (AE.step (v:=(Value.slice x.b.p ts.length x.b.c)) (AB O) (AM (i:=0) (v:=(Value.slice x.b.p ts.length x.b.c)) O O C_.a O) O (Ad O) (AE.step (v:=(vN ts.length)) (AB O) (AG O underlying23) O (Ad O) (AE.step (v:=(Value.bool false)) (AB O) (Cx (c:=false) O O (decide_eq_false Z)) O (Ad O) (AH (v:=(Value.bool false)) (AW O O) O ?_)))))
 refine AP O (AE.step (v:=(pP b1 2)) (AB O) (AA O underlying30 O sizeOf24 O) O (Ad O) (AE.step (v:=(Value.slice x.c.p ss.length x.c.c)) (AB O) (AM (i:=0) (v:=(Value.slice x.c.p ss.length x.c.c)) O O Qp.a O) O (Ad O) (AE.step (v:=(vN ss.length)) (AB O) (AG O underlying24) O (Ad O) (AE.step (v:=(Value.bool false)) (AB O) (Cx (c:=false) O O (decide_eq_false Z)) O (Ad O) (AH (v:=(Value.bool false)) (AW O O) O ?_)))))
 refine AJ O (AE.nil (AD.subF (sL [1,2,3] O) (AD.then_ (AF.cond_false O (q4 ?_)))))
 refine BE 0 Dd O (Ef call73 (λw hw=>Ul x hv w (D_ hw 1 O lx)) O (AH (BY (c:=false) O O) O (AJ O (AE.nil (AD.subF (sL [1,2,20] O) ?_)))))
 refine AD.then_ (AF.cond_false O (q4 (BE 0 Dd O (Ef call74 (λw hw=>US x hv w (D_ hw 1 O lx)) O (AH (BY (c:=false) O O) O ?_)))))
 refine AP O (AE.step (v:=(aG (Cm x))) (AB O) (A6 (i:=0) (vs:=Cm x) O O Dd.a Dd.s O O) O (Ad O) (AE.call (v:=(Value.bool true)) (AB O) (Ax (args:=[(aG (Cm x))]) O O call75) (λw hw=>Sl x hv w (D_ hw 1 O lx)) O (Ad O) (AE.step (v:=(Value.bool false)) (AB O) (BY (c:=false) O O) O (Ad O) (AH (v:=(Value.bool false)) (AW O O) O (AP O ?_)))))
 refine AE.step (v:=(aG (Cm x))) (AB O) (A6 (i:=0) (vs:=Cm x) O O Dd.a Dd.s O O) O (Ad O) (AE.call (v:=(Value.bool true)) (AB O) (Ax (args:=[(aG (Cm x))]) O O call76) (λw hw=>Ql x hv w (D_ hw 1 O lx)) O (Ad O) (AE.step (v:=(Value.bool false)) (AB O) (BY (c:=false) O O) O (Ad O) (AH (v:=(Value.bool false)) (AW O O) O (AJ O (AE.nil ?_)))))
 refine AD.subF (sL [1,2,24] O) (AD.then_ (AF.cond_false O (AF.skip (AD.in_normal (q2 ?_)))))
 exact AJ O (AE.nil (AD.subF (sL [1,2] O) (AD.then_ (AF.ret (AN O (Ac (v:=(vI 0)) O) (λw hw=>⟨rfl,hw.out⟩))))))
end
end Go.Proofs.YtfbomiejpbchdaaGreatDoor
