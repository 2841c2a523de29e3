import Derived.Test.YtfbomiejpbchdaaGreatDoorPart06
import Derived.Test.YtfbomiejpbchdaaGreatDoorPart31
import Derived.Test.YtfbomiejpbchdaaGreatDoorPart32
namespace Go.Proofs.YtfbomiejpbchdaaGreatDoor
open Go Go.RowKit Go.Proofs.Tryz
set_option linter.unusedVariables false
set_option linter.unusedSimpArgs false
section
set_option maxRecDepth 100000
theorem Gb:NB prog 239 IA N9 where
 law:=.of_law (deep_law_laid Tm (m:=2) (by decide) (by decide +kernel) (by kernel_rfl) (by kernel_rfl))
 key:=λa h=>KI underlying239 ⟨rfl,rfl⟩ ⟨rfl,rfl⟩ (by decide +kernel) underlying3 (by kernel_rfl) (by kernel_rfl) (by kernel_rfl) (by decide +kernel) (LU h.1) (LU h.2)
 inj:=λa b h=>MD h
theorem JE (x0:Nat×Nat×Nat):Instr.fill (λi=>some (i*3,3)) ((Array.range (1*3)).map ((Value.agg (Av ((0,0,0):Nat×Nat×Nat)).toArray).cells[·%(Value.agg (Av ((0,0,0):Nat×Nat×Nat)).toArray).cells.size]!)) [(0,.agg (Av x0).toArray)]=some (Av x0).toArray:=by kernel_rfl
set_option maxHeartbeats 4000000 in
theorem Uc (ts:List T3) (x:RX (rowsL Av ts) ts.length) (pp:Option Addr) (N pc:Nat) (hn:By N ts=true) (hN:N<=4611686018427387904) (hl:ts.length<=1000000000) (w:World) {S:Nat->Prop} (hx:Ro S w x):Calls prog 125 #[(Value.slice pp N pc),(Value.slice x.p ts.length x.c)] w (LQ WQ (Va (T:=43) (z:=3) (cs:=rowsL Av (EP ts)) (n:=(EP ts).length)) S w):=by
 have lx:=Er (W:=w) hx
 refine BI (args:=[(Value.slice pp N pc),(Value.slice x.p ts.length x.c)]) (L:=[Ai x.p (rowsL Av ts)]) func125 O O (Ab O) (En hx BW) (AF.subF (sL [0,1] O) (q4 (AK O (AE.nil (q1 ?_)))))
 refine q4 (AO O (AO O (AG (v:=(vN N)) (AH O underlying28) O (ET (args:=[(Value.slice x.p ts.length x.c),(vN N)]) (v:=(Value.bool true)) call90 (λw hw=>(by have h9:=N6 N ts x Z w (ER hw 0 O lx);rw [hn] at h9;exact h9)) O (AG (Ba (c:=false) O O) O ?_)))))
 refine AE.nil (AD.subF (sL [1,4,18] O) (AD.then_ (AF.cond_false O (AF.skip (q2 ?_)))))
 refine AE.makeMap IA vN (AQ O) O λb1=>AK O (q6 (sL [1,4,5] O) (q4 (AO O (AG (v:=(vN ts.length)) (AH O underlying23) O ?_))))
 refine AO O (AE.nil (AD.then_ (AF.block ?_)))
 refine AF.lp1 (tg λ(t:Nat)=>t<=ts.length) (tg λ(t:Nat)=>[(1,(Value.slice x.p ts.length x.c)),(4,(Value.slice none 0 0)),(5,(Value.map (some b1))),(20,(Value.slice x.p ts.length x.c)),(21,(vN ts.length)),(22,(vN t))]) (tg λ(t:Nat)=>[DD b1 IA vN (CY ts (3*t+0)),Ai x.p (rowsL Av ts)]) (tg λ(t:Nat)=>ts.length-t) 0 (Nat.zero_le _) (sF O) sr (λt hJ=>?_)
 have ht:=hJ
 refine q4 (AG (Af (c:=(decide (t<ts.length))) O O (C6 (a:=t) (b:=ts.length))) O (AE.nil (q1 ?_)))
 refine AF.cond O (λhc1=>?_) (λhc1=>?_)
 ·replace hc1:=of_decide_eq_true hc1
  obtain ⟨T,hT⟩:∃q,q=ts.getD t (0,0,0):=⟨_,rfl⟩
  obtain ⟨g1,g2,g3⟩:=DW (Cb hn hc1)
  rw [<-hT] at g1 g2 g3
  refine AF.skip (q1 (AF.block (q4 (AG (v:=(pP (pB x.p) (pO x.p+t*3))) (AN (j:=t) O O x.ok underlying23 sizeOf79 O Z) O (AG (v:=(aG (Av (ts.getD t ((0,0,0):Nat×Nat×Nat))))) (AW (vs:=Av (ts.getD t ((0,0,0):Nat×Nat×Nat))) (i:=1) O O (BB.ne x.ok Z) JB (Ar BK _ _ _ Z) (BK _)) O ?_)))))
  refine AE.retell (k:=25) (u:=(aG (Av T))) O (by rw [hT]) (al Lu O λb2=>Au O sizeOf79 O (q3 (sL [1,4,5,20,21,22,7] O) (AO O (AE.nil ?_))))
  refine AD.then_ (AF.block (AF.unroll 4 (E3.step (q4 (AG (Af (c:=true) O O (by decide)) O ?_)))))
  refine AE.nil (q1 (AF.cond_true O (AF.skip (q1 (AF.block ?_)))))
  refine q4 (AO O (AK O (q6 (sL [1,4,5,20,21,22,7,26,8] O) (C4 [(0,true),(1,true),(2,true),(3,true),(4,true),(5,true),(6,true),(7,true),(8,true),(9,true)] sr (Bo O ?_)))))
  refine Ay (v:=(pP b2 0)) O (AC (j:=0) O O underlying79 sizeOf3 O (by decide) O) (Bn 0 (vN T.1) Bs O (Bo O (Ay O (AX (c:=(1:Int)) O O (by decide)) (Ay O (B6 (c:=(1:Int)) O O (by decide) (by decide)) (Ay (v:=(pP b2 1)) O (AC (j:=1) O O underlying79 sizeOf3 O (by decide) O) ?_)))))
  refine Bn 0 (vN T.2.1) Bs O (EZ O (EZ O (AS.nil (AD.subF (sL [1,4,5,20,21,22,7,26,9,10] O) (AD.then_ ?_)))))
  obtain ⟨vq1,hvq1⟩:∃q,q=(BG (CY ts (3*t+0)) ((min T.1 T.2.1,max T.1 T.2.1):P2)).getD 0:=⟨_,rfl⟩
  refine Vi [(0,true),(1,true),(2,true),(3,true),(4,true),(5,true),(6,true),(7,true),(8,true),(9,true),(10,false),(11,true)] 12 [] (Vo 1 (x:=((min T.1 T.2.1,max T.1 T.2.1):P2)) (v:=vq1) O O) (List.nil_sublist _) (by kernel_rfl) (λ_ _ d _ _ h=>by cases d<;>exact h) (vM O O O (vM O O O (vM O O O (vE O (GL (c:=((min T.1 T.2.1:Nat):Int)) O O (by split<;>omega)) O (vM O O O ?_)))))
  refine vM O O O (vE O (FS (c:=((max T.1 T.2.1:Nat):Int)) O O (by split<;>omega)) O (vE (v:=(aG ([(vN (min T.1 T.2.1)),(vN (max T.1 T.2.1))]))) O (AV (zs:=A7 ((0,0):P2)) (vs:=[(vN (min T.1 T.2.1)),(vN (max T.1 T.2.1))]) (pv:=[(0,(vN (min T.1 T.2.1))),(1,(vN (max T.1 T.2.1)))]) (places:=[(0,1),(1,1)]) zeroValue239 underlying239 (λw=>by simp [sizeOf3]) O O) O (vE (v:=(vN vq1)) O (GK Gb 1 (kvs:=CY ts (3*t+0)) (x:=((min T.1 T.2.1,max T.1 T.2.1):P2)) (z0:=0) O O underlying238 zeroValue3 O (Eb hn hN _ Z) (DZ Z Z) hvq1) O ?_)))
  have hmq:=LO (ts:=ts) (3*t+0) ((min T.1 T.2.1,max T.1 T.2.1):P2)
  refine vE O (AX (c:=((vq1+1:Nat):Int)) O O (AY (a:=vq1) (b:=1) Z)) O (CK.imp O (AE.mapEntry Gb 1 (kvs:=CY ts (3*t+0)) (x:=((min T.1 T.2.1,max T.1 T.2.1):P2)) (z0:=0) (v:=vq1) O O underlying238 zeroValue3 O (Eb hn hN _ Z) (DZ Z Z) hvq1 O (CK.backW (Tz 1 O O) (vE O (AZ (v:=(vN (Cl (CY ts (3*t+0)) ((min T.1 T.2.1,max T.1 T.2.1):P2)))) O O) O (CK.cut O ?_)))))
  refine AE.entryStore 1 (kvs:=CY ts (3*t+0)) (x:=((min T.1 T.2.1,max T.1 T.2.1):P2)) (u:=vq1) (y:=vq1+1) O O O O ?_
  rw [show Be (CY ts (3*t+0)) ((min T.1 T.2.1,max T.1 T.2.1):P2) (vq1+1)=CY ts (3*t+1) from by rw [hvq1,hT];exact (Hc (ts:=ts) (t:=t) (i:=0) Z).symm]
  refine AS.back (List.nil_sublist _) (AS.nil (AD.subF (sL [1,4,5,20,21,22,7,26] O) (AD.in_normal (AD.then_ (AF.region ?_)))))
  refine AG (AX (c:=(1:Int)) O O (by decide)) O (AO O (AE.nil (AD.subF (sL [1,4,5,20,21,22,7,26] O) (AD.again (E3.step ?_)))))
  refine q4 (AG (Af (c:=true) O O (by decide)) O (AE.nil (q1 (AF.cond_true O (AF.skip ?_)))))
  refine q1 (AF.block (q4 (AO O (AK O (q6 (sL [1,4,5,20,21,22,7,26,8] O) ?_)))))
  refine C4 [(0,true),(1,true),(2,true),(3,true),(4,true),(5,true),(6,true),(7,true),(8,true),(9,true)] sr (Bo O (Ay (v:=(pP b2 1)) O (AC (j:=1) O O underlying79 sizeOf3 O (by decide) O) (Bn 0 (vN T.2.1) Bs O (Bo O (Ay O (AX (c:=(2:Int)) O O (by decide)) ?_)))))
  refine Ay O (B6 (c:=(2:Int)) O O (by decide) (by decide)) (Ay (v:=(pP b2 2)) O (AC (j:=2) O O underlying79 sizeOf3 O (by decide) O) (Bn 0 (vN T.2.2) Bs O (EZ O (EZ O (AS.nil ?_)))))
  refine AD.subF (sL [1,4,5,20,21,22,7,26,9,10] O) (AD.then_ ?_)
  obtain ⟨vq2,hvq2⟩:∃q,q=(BG (CY ts (3*t+1)) ((min T.2.1 T.2.2,max T.2.1 T.2.2):P2)).getD 0:=⟨_,rfl⟩
  refine Vi [(0,true),(1,true),(2,true),(3,true),(4,true),(5,true),(6,true),(7,true),(8,true),(9,true),(10,false),(11,true)] 12 [] (Vo 1 (x:=((min T.2.1 T.2.2,max T.2.1 T.2.2):P2)) (v:=vq2) O O) (List.nil_sublist _) (by kernel_rfl) (λ_ _ d _ _ h=>by cases d<;>exact h) (vM O O O (vM O O O (vM O O O (vE O (GL (c:=((min T.2.1 T.2.2:Nat):Int)) O O (by split<;>omega)) O (vM O O O ?_)))))
  refine vM O O O (vE O (FS (c:=((max T.2.1 T.2.2:Nat):Int)) O O (by split<;>omega)) O (vE (v:=(aG ([(vN (min T.2.1 T.2.2)),(vN (max T.2.1 T.2.2))]))) O (AV (zs:=A7 ((0,0):P2)) (vs:=[(vN (min T.2.1 T.2.2)),(vN (max T.2.1 T.2.2))]) (pv:=[(0,(vN (min T.2.1 T.2.2))),(1,(vN (max T.2.1 T.2.2)))]) (places:=[(0,1),(1,1)]) zeroValue239 underlying239 (λw=>by simp [sizeOf3]) O O) O (vE (v:=(vN vq2)) O (GK Gb 1 (kvs:=CY ts (3*t+1)) (x:=((min T.2.1 T.2.2,max T.2.1 T.2.2):P2)) (z0:=0) O O underlying238 zeroValue3 O (Eb hn hN _ Z) (DZ Z Z) hvq2) O ?_)))
  have hmq:=LO (ts:=ts) (3*t+1) ((min T.2.1 T.2.2,max T.2.1 T.2.2):P2)
  refine vE O (AX (c:=((vq2+1:Nat):Int)) O O (AY (a:=vq2) (b:=1) Z)) O (CK.imp O (AE.mapEntry Gb 1 (kvs:=CY ts (3*t+1)) (x:=((min T.2.1 T.2.2,max T.2.1 T.2.2):P2)) (z0:=0) (v:=vq2) O O underlying238 zeroValue3 O (Eb hn hN _ Z) (DZ Z Z) hvq2 O (CK.backW (Tz 1 O O) (vE O (AZ (v:=(vN (Cl (CY ts (3*t+1)) ((min T.2.1 T.2.2,max T.2.1 T.2.2):P2)))) O O) O (CK.cut O ?_)))))
  refine AE.entryStore 1 (kvs:=CY ts (3*t+1)) (x:=((min T.2.1 T.2.2,max T.2.1 T.2.2):P2)) (u:=vq2) (y:=vq2+1) O O O O ?_
  rw [show Be (CY ts (3*t+1)) ((min T.2.1 T.2.2,max T.2.1 T.2.2):P2) (vq2+1)=CY ts (3*t+2) from by rw [hvq2,hT];exact (Hc (ts:=ts) (t:=t) (i:=1) Z).symm]
  refine AS.back (List.nil_sublist _) (AS.nil (AD.subF (sL [1,4,5,20,21,22,7,26] O) (AD.in_normal (AD.then_ (AF.region ?_)))))
  refine AG (AX (c:=(2:Int)) O O (by decide)) O (AO O (AE.nil (AD.subF (sL [1,4,5,20,21,22,7,26] O) (AD.again (E3.step ?_)))))
  refine q4 (AG (Af (c:=true) O O (by decide)) O (AE.nil (q1 (AF.cond_true O (AF.skip ?_)))))
  refine q1 (AF.block (q4 (AO O (AK O (q6 (sL [1,4,5,20,21,22,7,26,8] O) ?_)))))
  refine C4 [(0,true),(1,true),(2,true),(3,true),(4,true),(5,true),(6,true),(7,true),(8,true),(9,true)] sr (Bo O (Ay (v:=(pP b2 2)) O (AC (j:=2) O O underlying79 sizeOf3 O (by decide) O) (Bn 0 (vN T.2.2) Bs O (Bo O (Ay O (AX (c:=(3:Int)) O O (by decide)) ?_)))))
  refine Ay O (B6 (c:=(0:Int)) O O (by decide) (by decide)) (Ay (v:=(pP b2 0)) O (AC (j:=0) O O underlying79 sizeOf3 O (by decide) O) (Bn 0 (vN T.1) Bs O (EZ O (EZ O (AS.nil ?_)))))
  refine AD.subF (sL [1,4,5,20,21,22,7,26,9,10] O) (AD.then_ ?_)
  obtain ⟨vq3,hvq3⟩:∃q,q=(BG (CY ts (3*t+2)) ((min T.2.2 T.1,max T.2.2 T.1):P2)).getD 0:=⟨_,rfl⟩
  refine Vi [(0,true),(1,true),(2,true),(3,true),(4,true),(5,true),(6,true),(7,true),(8,true),(9,true),(10,false),(11,true)] 12 [] (Vo 1 (x:=((min T.2.2 T.1,max T.2.2 T.1):P2)) (v:=vq3) O O) (List.nil_sublist _) (by kernel_rfl) (λ_ _ d _ _ h=>by cases d<;>exact h) (vM O O O (vM O O O (vM O O O (vE O (GL (c:=((min T.2.2 T.1:Nat):Int)) O O (by split<;>omega)) O (vM O O O ?_)))))
  refine vM O O O (vE O (FS (c:=((max T.2.2 T.1:Nat):Int)) O O (by split<;>omega)) O (vE (v:=(aG ([(vN (min T.2.2 T.1)),(vN (max T.2.2 T.1))]))) O (AV (zs:=A7 ((0,0):P2)) (vs:=[(vN (min T.2.2 T.1)),(vN (max T.2.2 T.1))]) (pv:=[(0,(vN (min T.2.2 T.1))),(1,(vN (max T.2.2 T.1)))]) (places:=[(0,1),(1,1)]) zeroValue239 underlying239 (λw=>by simp [sizeOf3]) O O) O (vE (v:=(vN vq3)) O (GK Gb 1 (kvs:=CY ts (3*t+2)) (x:=((min T.2.2 T.1,max T.2.2 T.1):P2)) (z0:=0) O O underlying238 zeroValue3 O (Eb hn hN _ Z) (DZ Z Z) hvq3) O ?_)))
  have hmq:=LO (ts:=ts) (3*t+2) ((min T.2.2 T.1,max T.2.2 T.1):P2)
  refine vE O (AX (c:=((vq3+1:Nat):Int)) O O (AY (a:=vq3) (b:=1) Z)) O (CK.imp O (AE.mapEntry Gb 1 (kvs:=CY ts (3*t+2)) (x:=((min T.2.2 T.1,max T.2.2 T.1):P2)) (z0:=0) (v:=vq3) O O underlying238 zeroValue3 O (Eb hn hN _ Z) (DZ Z Z) hvq3 O (CK.backW (Tz 1 O O) (vE O (AZ (v:=(vN (Cl (CY ts (3*t+2)) ((min T.2.2 T.1,max T.2.2 T.1):P2)))) O O) O (CK.cut O ?_)))))
  refine AE.entryStore 1 (kvs:=CY ts (3*t+2)) (x:=((min T.2.2 T.1,max T.2.2 T.1):P2)) (u:=vq3) (y:=vq3+1) O O O O ?_
  rw [show Be (CY ts (3*t+2)) ((min T.2.2 T.1,max T.2.2 T.1):P2) (vq3+1)=CY ts (3*t+3) from by rw [hvq3,hT];exact (Hc (ts:=ts) (t:=t) (i:=2) Z).symm]
  refine AS.back (List.nil_sublist _) (AS.nil (AD.subF (sL [1,4,5,20,21,22,7,26] O) (AD.in_normal (AD.then_ (AF.region ?_)))))
  refine AG (AX (c:=(3:Int)) O O (by decide)) O (AO O (AE.nil (AD.subF (sL [1,4,5,20,21,22,7,26] O) (AD.again (E3.step ?_)))))
  refine q4 (AG (Af (c:=false) O O (by decide)) O (AE.nil (q1 (AF.cond_false O (AF.exit ?_)))))
  refine AD.then_exit (AD.then_exit (AD.in_exit (AD.in_normal (AD.then_ (AF.region ?_)))))
  refine AG (AX (c:=((t+1:Nat):Int)) O O (AY (a:=t) (b:=1) Z)) O (AO O (AE.nil (AD.subF (sL [1,4,5,20,21,22,7,26] O) ?_)))
  rw [show 3*t+3=3*(t+1)+0 by omega]
  exact AD.round1 (t+1) Z Z (sF O) (sl sr)
 ·replace hc1:=of_decide_eq_false hc1
  have htl:t=ts.length:=by omega
  refine AF.exit (AD.then_exit (AD.round1_exit (AD.in_exit (q2 (AK O ?_)))))
  refine AE.nilRow 43 3 (AE.nil (q1 (q4 (AO O ?_))))
  rw [show CY ts (3*t+0)=(CY ts (3*ts.length)) by rw [htl,Nat.add_zero]]
  refine cX (S:=S) (cs:=rowsL B9 (BC ts)) (k:=(BC ts).length) (args:=[(Value.slice x.p ts.length x.c)]) call49 (λw hw=>Lf ts x N hn hN hl w (ER hw 2 O lx)) O O O λo lo=>AG (v:=(vN ((BC ts).length))) (AH O underlying51) O (AO O (AE.nil (AD.subF (sL [1,4,5,20,21,22,11,52,53,54] O) (AD.then_ ?_))))
  refine AF.block ?_
  refine AF.lp4 (tg λ(i:Nat) (p1:Option Addr) (c1:Nat) (out:List T3)=>i<=(BC ts).length/\OwnOk p1 out.length c1/\out=Bm ts i) (tg λ(i:Nat) (p1:Option Addr) (c1:Nat) (out:List T3)=>[(4,(Value.slice none 0 0)),(5,(Value.map (some b1))),(52,(Value.slice o.p ((BC ts).length) o.c)),(53,(vN ((BC ts).length))),(54,(vN i)),(11,(Value.slice p1 out.length c1))]) (tg λ(i:Nat) (p1:Option Addr) (c1:Nat) (out:List T3)=>[Ai o.p (rowsL B9 (BC ts)),rowW p1 43 3 out.length c1 (rowsL Av out),DD b1 IA vN (CY ts (3*ts.length)),Ai x.p (rowsL Av ts)]) (tg λ(i:Nat) (p1:Option Addr) (c1:Nat) (out:List T3)=>(BC ts).length-i) 0 none 0 ([]:List T3) (⟨Nat.zero_le _,OwnOk.none,rfl⟩) (sF O) sr (λi p1 c1 out hJ=>?_)
  obtain ⟨hi,ho,hou⟩:=hJ
  have hol:=Lo (ts:=ts) i
  rw [<-hou] at hol
  refine q4 (AG (Af (c:=(decide (i<((BC ts).length)))) O O (C6 (a:=i) (b:=(BC ts).length))) O (AE.nil (q1 ?_)))
  refine AF.cond O (λhc3=>?_) (λhc3=>?_)
  ·replace hc3:=of_decide_eq_true hc3
   have hel:=IE (ts:=ts) (3*ts.length)
   rw [<-IK] at hel
   have hmem:((BC ts).getD i (⟨0,0,0,0⟩:E4))∈BC ts:=by rw [List.getD,List.getElem?_eq_getElem hc3];exact List.getElem_mem hc3
   obtain ⟨hea,heb⟩:=RE hn hN _ hmem
   refine AF.skip (q1 (AF.block (q4 (AG (v:=(pP (pB o.p) (pO o.p+i*4))) (AN (j:=i) O O o.ok underlying51 sizeOf65 O Z) O (AG (v:=(aG (B9 ((BC ts).getD i (⟨0,0,0,0⟩:E4))))) (AW (vs:=B9 ((BC ts).getD i (⟨0,0,0,0⟩:E4))) (i:=0) O O (BB.ne o.ok Z) Lt (Ar BT _ _ _ Z) (BT _)) O ?_)))))
   refine al Rr O λb2=>Au O sizeOf65 O (q3 (sL [4,5,52,53,54,11,13] O) (AO O (AG (v:=(pP b2 0)) (AA O underlying65 O sizeOf3 O) O (BO 0 (vN (((BC ts).getD i (⟨0,0,0,0⟩:E4)).a)) Bs O ?_))))
   refine AG (v:=(pP b2 1)) (AA O underlying65 O sizeOf3 O) O (BO 0 (vN (((BC ts).getD i (⟨0,0,0,0⟩:E4)).b)) Bs O (AG (v:=(aG ([(vN (((BC ts).getD i (⟨0,0,0,0⟩:E4)).a)),(vN (((BC ts).getD i (⟨0,0,0,0⟩:E4)).b))]))) (AV (zs:=A7 ((0,0):P2)) (vs:=[(vN (((BC ts).getD i (⟨0,0,0,0⟩:E4)).a)),(vN (((BC ts).getD i (⟨0,0,0,0⟩:E4)).b))]) (pv:=[(0,(vN (((BC ts).getD i (⟨0,0,0,0⟩:E4)).a))),(1,(vN (((BC ts).getD i (⟨0,0,0,0⟩:E4)).b)))]) (places:=[(0,1),(1,1)]) zeroValue239 underlying239 (λw=>by simp [sizeOf3]) O O) O (AG (v:=(vN ((BG (CY ts (3*ts.length)) ((((BC ts).getD i (⟨0,0,0,0⟩:E4)).a,((BC ts).getD i (⟨0,0,0,0⟩:E4)).b):P2)).getD 0))) (Fs Gb 3 (eV:=vN) (kvs:=(CY ts (3*ts.length))) (x:=((((BC ts).getD i (⟨0,0,0,0⟩:E4)).a,((BC ts).getD i (⟨0,0,0,0⟩:E4)).b):P2)) (z0:=0) (co:=false) O O underlying238 zeroValue3 O (Eb hn hN _ Z) (UM Z Z)) O (AG (BU (c:=(decide (((BG (CY ts (3*ts.length)) ((((BC ts).getD i (⟨0,0,0,0⟩:E4)).a,((BC ts).getD i (⟨0,0,0,0⟩:E4)).b):P2)).getD 0)=1))) O O (MY (a:=(BG (CY ts (3*ts.length)) ((((BC ts).getD i (⟨0,0,0,0⟩:E4)).a,((BC ts).getD i (⟨0,0,0,0⟩:E4)).b):P2)).getD 0) (b:=1))) O (AE.nil ?_)))))
   refine AD.subF (sL [4,5,52,53,54,11,13,65] O) (AD.then_ ?_)
   refine AF.cond O (λhc4=>?_) (λhc4=>?_)
   ·replace hc4:=of_decide_eq_true hc4
    refine AF.region (AO O (AG (v:=(pP b2 0)) (AA O underlying65 O sizeOf3 O) O (BO 0 (vN (((BC ts).getD i (⟨0,0,0,0⟩:E4)).a)) Bs O (AG (v:=(pP b2 1)) (AA O underlying65 O sizeOf3 O) O (BO 0 (vN (((BC ts).getD i (⟨0,0,0,0⟩:E4)).b)) Bs O ?_)))))
    refine AG (v:=(aG ([(vN (((BC ts).getD i (⟨0,0,0,0⟩:E4)).a)),(vN (((BC ts).getD i (⟨0,0,0,0⟩:E4)).b)),(vI 0)]))) (AV (zs:=Av ((0,0,0):Nat×Nat×Nat)) (vs:=[(vN (((BC ts).getD i (⟨0,0,0,0⟩:E4)).a)),(vN (((BC ts).getD i (⟨0,0,0,0⟩:E4)).b)),(vI 0)]) (pv:=[(0,(vN (((BC ts).getD i (⟨0,0,0,0⟩:E4)).a))),(1,(vN (((BC ts).getD i (⟨0,0,0,0⟩:E4)).b)))]) (places:=[(0,1),(1,1),(2,1)]) zeroValue43 underlying43 (λw=>by simp [sizeOf3]) O O) O (AE.openV (V:=λb3=>(Value.slice (some ⟨b3,0,none⟩) 1 1)) (T:=43) (cs:=Av (((BC ts).getD i (⟨0,0,0,0⟩:E4)).a,((BC ts).getD i (⟨0,0,0,0⟩:E4)).b,0)) (AQ O) (BA (z:=.agg (Av ((0,0,0):Nat×Nat×Nat)).toArray) (cs:=Av (((BC ts).getD i (⟨0,0,0,0⟩:E4)).a,((BC ts).getD i (⟨0,0,0,0⟩:E4)).b,0)) (pv:=[(0,(aG ([(vN (((BC ts).getD i (⟨0,0,0,0⟩:E4)).a)),(vN (((BC ts).getD i (⟨0,0,0,0⟩:E4)).b)),(vI 0)])))]) underlying24 sizeOf43 zeroValue43 (by decide) (by decide) O (JE (((BC ts).getD i (⟨0,0,0,0⟩:E4)).a,((BC ts).getD i (⟨0,0,0,0⟩:E4)).b,0))) O (Ab O) λb3=>AE.appendAt 3 (j:=0) (cs2:=rowsL Av (out++[(((BC ts).getD i (⟨0,0,0,0⟩:E4)).a,((BC ts).getD i (⟨0,0,0,0⟩:E4)).b,0)])) VF O ho (An BK _) O O O O O (by decide) (Ka Z) Z (by rw [Bb];rfl) O λp_1 c_1 ho_1 hne_1=>AK O (AE.nil (AD.subF (sL [4,5,52,53,54,11,13] O) ?_)))
    refine AD.in_normal (AD.then_ (AF.region (AG (AX (c:=((i+1:Nat):Int)) O O (AY (a:=i) (b:=1) Z)) O (AO O (AE.nil ?_)))))
    refine AD.subF (sL [4,5,52,53,54,11,13] O) ?_
    rw [show out.length+1=(out++[(((BC ts).getD i (⟨0,0,0,0⟩:E4)).a,((BC ts).getD i (⟨0,0,0,0⟩:E4)).b,0)]).length by simp]
    exact AD.round4 (i+1) p_1 c_1 (out++[(((BC ts).getD i (⟨0,0,0,0⟩:E4)).a,((BC ts).getD i (⟨0,0,0,0⟩:E4)).b,0)]) (⟨Z,(by simpa using ho_1),by rw [hou];exact (Gn Z hc4).symm⟩) Z (sF O) (sl (sl sr))
   ·replace hc4:=of_decide_eq_false hc4
    refine AF.skip (AD.in_normal (AD.then_ (AF.region (AG (AX (c:=((i+1:Nat):Int)) O O (AY (a:=i) (b:=1) Z)) O (AO O ?_)))))
    exact AE.nil (AD.subF (sL [4,5,52,53,54,11,13] O) (AD.round4 (i+1) p1 c1 out (⟨Z,ho,by rw [hou];exact (Nv Z hc4).symm⟩) Z (sF O) (sl sr)))
  ·replace hc3:=of_decide_eq_false hc3
   refine AF.exit (AD.then_exit (AD.round4_exit (AD.in_exit (q2 (AO O ?_)))))
   exact BV call38 (Qo p1 out.length c1 ho.row.le) O (AK O (AE.nil (AD.subF (sL [4,5,52,53,54,11] O) (AD.then_ (AF.ret (AP O (Ad (v:=(Value.slice p1 out.length out.length)) O) (λw hw=>(by rw [show EP ts=out by rw [hou,show i=(BC ts).length by omega];rfl];exact Tt hw (OX.mk p1 c1 ho) (sl (sk (sl (sl sr)))) (Kn.own O Kn.nil) O))))))))
end
section
set_option maxRecDepth 100000
theorem T9 (us:List Bool) (n:Nat) (x:RX (bL us) n) (hn:us.length=n) (hl:n<=1000000) (hu:∀j,j<n->us.getD j false=true) (w:World) {S:Nat->Prop} (hx:Ro S w x):Calls prog 153 #[(Value.slice x.p n x.c),(Value.bool false)] w (Am w (vI (-1:Int))):=by
 have lx:=Er (W:=w) hx
 refine BI (args:=[(Value.slice x.p n x.c),(Value.bool false)]) (L:=[Ai x.p (bL us)]) func153 O O (Ab O) (En hx BW) (AF.subF (sL [0,1] O) (q4 (AK O (AE.nil (q1 ?_)))))
 refine q4 (AO O (AG (v:=(vN n)) (AH O underlying197) O (AO O (AE.nil (AD.subF (sL [0,1,4,7,8] O) ?_)))))
 refine AD.then_ (AF.block ?_)
 refine AF.lp1 (tg λ(j:Nat)=>j<=n) (tg λ(j:Nat)=>[(0,(Value.slice x.p n x.c)),(1,(Value.bool false)),(7,(vN n)),(8,(vN j))]) (tg λ(j:Nat)=>[Ai x.p (bL us)]) (tg λ(j:Nat)=>n-j) 0 (Nat.zero_le _) (sF O) sr (λj hJ=>?_)
 have hj:=hJ
 refine q4 (AG (Af (c:=(decide (j<n))) O O (C6 (a:=j) (b:=n))) O (AE.nil (q1 ?_)))
 refine AF.cond O (λhc0=>?_) (λhc0=>?_)
 ·replace hc0:=of_decide_eq_true hc0
  refine AF.skip (q1 (AF.block (q4 (AO O (AK O ?_)))))
  refine q3 (sL [0,1,7,8,5] O) (AO O (AO O (AO O (AG (v:=(pP (pB x.p) (pO x.p+j*1))) (AN (j:=j) O O x.ok underlying197 sizeOf4 O Z) O (AG (Aa (v:=(Value.bool (us.getD j false))) (i:=0) O O (x.ok.ne Z) Qf (UD (us:=us) (j:=j) Z)) O ?_)))))
  refine AG (Hv (c:=false) O O underlying4 (by rw [hu j Z];rfl)) O (AE.nil (AD.subF (sL [0,1,7,8,5,16] O) (AD.then_ (AF.cond_false O (AF.skip ?_)))))
  refine AD.in_normal (AD.then_ (AF.region (AG (AX (c:=((j+1:Nat):Int)) O O (AY (a:=j) (b:=1) Z)) O (AO O (AE.nil ?_)))))
  exact AD.subF (sL [0,1,7,8,5] O) (AD.round1 (j+1) Z Z (sF O) sr)
 ·replace hc0:=of_decide_eq_false hc0
  refine AF.exit (AD.then_exit (AD.round1_exit (AD.in_exit (q2 (AK O ?_)))))
  exact AE.nil (AD.then_ (AF.ret (AP O (Ad (v:=(vI (-1:Int))) O) (λw hw=>⟨rfl,hw.out⟩))))
theorem Rj (us:List Bool) (n:Nat) (x:RX (bL us) n) (hn:us.length=n) (hl:n<=1000000) (hu:∀j,j<n->us.getD j false=true) (w:World) {S:Nat->Prop} (hx:Ro S w x):Calls prog 118 #[(Value.slice x.p n x.c),(Value.bool false)] w (Am w (Value.bool false)):=by
 have lx:=Er (W:=w) hx
 refine BI (args:=[(Value.slice x.p n x.c),(Value.bool false)]) (L:=[Ai x.p (bL us)]) func118 O O (Ab O) (En hx BW) (AF.subF (sL [0,1] O) (q4 (AK O (AE.nil (q2 ?_)))))
 refine AO O (AO O (ET call153 (λw hw=>T9 us n x hn hl hu w (ER hw 0 O lx)) O (AG (CQ (c:=false) O O (by decide)) O (AK O (AE.nil ?_)))))
 exact AD.subF (sL [4] O) (AD.then_ (AF.ret (AP O (Ad (v:=(Value.bool false)) O) (λw hw=>⟨rfl,hw.out⟩))))
theorem Mj (ys:List Pt) (n:Nat) (x:RX (rowsL Aj ys) n) (hn:ys.length=n) (hl:n<=1000000) (hy:ys.Nodup) (w:World) {S:Nat->Prop} (hx:Ro S w x):Calls prog 122 #[(Value.slice x.p n x.c)] w (Am w (Value.slice x.p n x.c)):=by
 have lx:=Er (W:=w) hx
 refine BI (args:=[(Value.slice x.p n x.c)]) (L:=[Ai x.p (rowsL Aj ys)]) func122 O O (Ab O) (En hx BW) (AF.subF (sL [0] O) (q4 (AK O (AE.nil (q1 ?_)))))
 refine q4 (AO O (AG (v:=(vN n)) (AH O underlying28) O (AG (Af (c:=(decide (n<2))) O O (C6 (a:=n) (b:=2))) O (AE.nil (AD.subF (sL [0,2,8] O) ?_)))))
 refine AD.then_ ?_
 refine AF.cond O (λhc0=>?_) (λhc0=>?_)
 ·replace hc0:=of_decide_eq_true hc0
  refine q4 (AO O (AK O (AE.nil (AD.subF (sL [0,2] O) (AD.then_ ?_)))))
  exact AF.ret (AD.then_ret (AP O (Ad (v:=(Value.slice x.p n x.c)) O) (λw hw=>⟨rfl,hw.out⟩)))
 ·replace hc0:=of_decide_eq_false hc0
  refine AF.skip (q1 (q4 (AK O (AE.nil (AD.then_ ?_)))))
  refine AF.block ?_
  refine AF.lp1 (tg λ(k:Nat)=>1<=k/\k<=n) (tg λ(k:Nat)=>[(0,(Value.slice x.p n x.c)),(3,(vN k))]) (tg λ(k:Nat)=>[Ai x.p (rowsL Aj ys)]) (tg λ(k:Nat)=>n-k) 1 (⟨Nat.le_refl _,Z⟩) (sF O) sr (λk hJ=>?_)
  obtain ⟨hk1,hk⟩:=hJ
  refine AF.seq (q4 (AO O (AO O (AG (v:=(vN n)) (AH O underlying28) O (AG (Af (c:=(decide (k<n))) O O (C6 (a:=k) (b:=n))) O ?_)))))
  refine AE.nil (AD.subF (sL [0,3,13] O) (AD.then_ ?_))
  refine AF.cond O (λhc1=>?_) (λhc1=>?_)
  ·replace hc1:=of_decide_eq_true hc1
   refine AF.skip (q1 (AF.block (AF.seq (C4 [(0,true),(1,true),(2,true),(3,true),(4,true),(5,true),(6,true),(7,true),(8,true),(9,true)] sr (Bo O ?_)))))
   refine Bo O (Ay (v:=(pP (pB x.p) (pO x.p+k*10))) O (AN (j:=k) O O x.ok underlying28 sizeOf63 O Z) (Ay (v:=(aG (Aj (ys.getD k (⟨0,0⟩:Pt))))) O (AW (vs:=Aj (ys.getD k (⟨0,0⟩:Pt))) (i:=0) O O (BB.ne x.ok Z) BQ (Ar BE _ _ _ Z) (BE _)) (Bo O (Bo O (Ay O (Bz (c:=((k-1:Nat):Int)) O O (CV (a:=k) (b:=1) Z Z)) ?_)))))
   refine Ay (v:=(pP (pB x.p) (pO x.p+(k-1)*10))) O (AN (j:=k-1) O O x.ok underlying28 sizeOf63 O Z) (Ay (v:=(aG (Aj (ys.getD (k-1) (⟨0,0⟩:Pt))))) O (AW (vs:=Aj (ys.getD (k-1) (⟨0,0⟩:Pt))) (i:=0) O O (BB.ne x.ok Z) BQ (Ar BE _ _ _ Z) (BE _)) (Ay O (Bx (c:=decide (ys.getD k (⟨0,0⟩:Pt)=ys.getD (k-1) (⟨0,0⟩:Pt))) O O eqGuardType63 (Ue 9994 (ys.getD k (⟨0,0⟩:Pt)) (ys.getD (k-1) (⟨0,0⟩:Pt)))) (AS.nil (AD.subF (sL [0,3,25] O) (AD.then_ ?_)))))
   refine AF.cond O (λhc2=>?_) (λhc2=>?_)
   ·replace hc2:=of_decide_eq_true hc2
    exact (PS hy Z Z hc2).elim
   ·replace hc2:=of_decide_eq_false hc2
    refine AF.skip (AD.in_normal (AD.then_ (AF.region (AO O (AG (AX (c:=((k+1:Nat):Int)) O O (AY (a:=k) (b:=1) Z)) O ?_)))))
    exact AK O (AE.nil (AD.subF (sL [0,3] O) (AD.round1 (k+1) (⟨Z,Z⟩) Z (sF O) sr)))
  ·replace hc1:=of_decide_eq_false hc1
   refine AF.exit (AD.then_exit (AD.round1_exit (AD.in_exit (q2 (AO O ?_)))))
   exact AK O (AE.nil (AD.subF (sL [0,3,2] O) (AD.then_ (AF.ret (AP O (Ad (v:=(Value.slice x.p n x.c)) O) (λw hw=>⟨rfl,hw.out⟩))))))
theorem VS:QT prog 197 4 (.bool false) 1:=⟨underlying197,_,_,rfl,rfl,rfl,rfl,rfl⟩
set_option maxHeartbeats 1000000 in
theorem Su {ps:List Pt} {ts ss:List T3} (x:MX ps ts ss) (hv:Ly ps ts ss) (w:World) {S:Nat->Prop} (hx:Ro S w x):Calls prog 74 #[(aG (C5 x))] w (Am w (Value.bool true)):=by
 have hp:=hv.pl
 have htl:=hv.tl
 have hsl:=hv.sl
 have h0:=hv.t0
 have hbp:∀p∈ps,B8 p<=1000:=λp hp=>by obtain ⟨j,hj,rfl⟩:=List.getElem_of_mem hp;have h9:=hv.sz j;rwa [CG,List.getD,List.getElem?_eq_getElem hj] at h9
 have hps0:0<ps.length:=by have h9:=(DW (Cb hv.num hv.t0)).1;omega
 have lx:=Er (W:=w) hx
 refine BI (args:=[(aG (C5 x))]) (L:=[Ai x.a.p (rowsL Aj ps),Ai x.b.p (rowsL Av ts),Ai x.c.p (rowsL Av ss)]) func74 O O (Ab O) (En hx BW) (AF.subF (sL [0] O) (q4 (Bq (cs:=C5 x) O λb1=>AK O (q3 (sL [1,2] O) ?_))))
 refine AG (v:=(pP b1 0)) (AA O underlying30 O sizeOf28 O) O (BO 0 (Value.slice x.a.p ps.length x.a.c) DV O (AG (v:=(vN ps.length)) (AH O underlying28) O ?_))
 refine AE.makeBool (m:=ps.length) VS O O Z O O ?_;intro bm hbm;rw [Ow ts ps.length]
 refine AK O (q6 (sL [1,2,3] O) (q4 (AG (v:=(pP b1 1)) (AA O underlying30 O sizeOf23 O) O (BO 1 (Value.slice x.b.p ts.length x.b.c) Dn O (AG (v:=(vN ts.length)) (AH O underlying23) O ?_)))))
 refine AO O (AE.nil (AD.subF (sL [1,2,3,12,13,14] O) (AD.then_ (AF.block ?_))))
 refine AF.lp1 (tg λ(t:Nat)=>t<=ts.length) (tg λ(t:Nat)=>[(1,(pP b1 0)),(2,(Value.bool false)),(3,(Value.slice (some ⟨bm,0,none⟩) ps.length ps.length)),(12,(Value.slice x.b.p ts.length x.b.c)),(13,(vN ts.length)),(14,(vN t))]) (tg λ(t:Nat)=>[rowW (some ⟨bm,0,none⟩) 4 1 ps.length ps.length (bL (I5 ts ps.length t)),Ae b1 30 (C5 x),Ai x.a.p (rowsL Aj ps),Ai x.b.p (rowsL Av ts),Ai x.c.p (rowsL Av ss)]) (tg λ(t:Nat)=>ts.length-t) 0 (Nat.zero_le _) (sF O) sr (λt hJ=>?_)
 have ht:=hJ
 refine q4 (AG (Af (c:=(decide (t<ts.length))) O O (C6 (a:=t) (b:=ts.length))) O (AE.nil (q1 ?_)))
 refine AF.cond O (λhc0=>?_) (λhc0=>?_)
 ·replace hc0:=of_decide_eq_true hc0
  obtain ⟨T,hT⟩:∃q,q=ts.getD t (0,0,0):=⟨_,rfl⟩
  obtain ⟨g1,g2,g3⟩:=DW (Cb hv.num hc0)
  rw [<-hT] at g1 g2 g3
  refine AF.skip (q1 (AF.block (q4 (AG (v:=(pP (pB x.b.p) (pO x.b.p+t*3))) (AN (j:=t) O O x.b.ok underlying23 sizeOf79 O Z) O (AG (v:=(aG (Av (ts.getD t ((0,0,0):Nat×Nat×Nat))))) (AW (vs:=Av (ts.getD t ((0,0,0):Nat×Nat×Nat))) (i:=3) O O (BB.ne x.b.ok Z) JB (Ar BK _ _ _ Z) (BK _)) O ?_)))))
  refine AE.retell (k:=17) (u:=(aG (Av T))) O (by rw [hT]) (al Lu O λb2=>Au O sizeOf79 O (AE.nil (AD.subF (sL [1,2,3,12,13,14,5] O) (AD.then_ ?_))))
  refine C4 [(0,true),(1,true),(2,true),(3,true),(4,true),(5,true),(6,true),(7,true),(8,true),(9,true),(10,false),(11,true),(12,false),(13,true),(14,false)] (sk (sl sr)) (Bo O (Ay (v:=(pP b2 0)) O (AC (j:=0) O O underlying79 sizeOf3 O (by decide) O) (Bn 0 (vN T.1) Bs O (Bo O (Ay (v:=(pP b2 1)) O (AC (j:=1) O O underlying79 sizeOf3 O (by decide) O) ?_)))))
  refine Bn 0 (vN T.2.1) Bs O (Bo O (Ay (v:=(pP b2 2)) O (AC (j:=2) O O underlying79 sizeOf3 O (by decide) O) (Bn 0 (vN T.2.2) Bs O (Ay (v:=(pP (pB (some ⟨bm,0,none⟩)) (pO (some ⟨bm,0,none⟩)+T.1*1))) O (AN (j:=T.1) O O hbm.row underlying197 sizeOf4 O Z) (AS.imp O ?_)))))
  refine AE.storeRow1 (j:=T.1) (v:=(Value.bool true)) O O hbm (by rw [LJ,Nat.mul_one];simp [FR]) Z O sizeOf4 O (Mp _ _ _) (AS.back (sk (sl sr)) (Ay (v:=(pP (pB (some ⟨bm,0,none⟩)) (pO (some ⟨bm,0,none⟩)+T.2.1*1))) O (AN (j:=T.2.1) O O hbm.row underlying197 sizeOf4 O Z) (AS.imp O (AE.storeRow1 (j:=T.2.1) (v:=(Value.bool true)) O O hbm (by rw [LJ,Nat.mul_one];simp [FR]) Z O sizeOf4 O (Mp _ _ _) (AS.back (sk (sl sr)) ?_)))))
  refine Ay (v:=(pP (pB (some ⟨bm,0,none⟩)) (pO (some ⟨bm,0,none⟩)+T.2.2*1))) O (AN (j:=T.2.2) O O hbm.row underlying197 sizeOf4 O Z) (AS.imp O (AE.storeRow1 (j:=T.2.2) (v:=(Value.bool true)) O O hbm (by rw [LJ,Nat.mul_one];simp [FR]) Z O sizeOf4 O (Mp _ _ _) (AS.back (sk (sl sr)) (AS.nil (AD.subF (sL [1,2,3,12,13,14,5] O) ?_)))))
  refine AD.in_normal (AD.then_ (AF.region (AG (AX (c:=((t+1:Nat):Int)) O O (AY (a:=t) (b:=1) Z)) O (AO O (AE.nil ?_)))))
  refine AD.subF (sL [1,2,3,12,13,14,5] O) ?_
  rw [hT,PA Z]
  exact AD.round1 (t+1) Z Z (sF O) (sl sr)
 ·replace hc0:=of_decide_eq_false hc0
  have htt:t=ts.length:=by omega
  refine AF.exit (AD.then_exit (AD.round1_exit (AD.in_exit (q1 (q4 ?_)))))
  refine AO O (AE.frzRow 0 O hbm (by rw [LJ,Nat.mul_one];simp [FR]) O O λhn_US=>ET call118 (λw hw=>Rj (I5 ts ps.length t) ps.length ⟨(some ⟨bm,0,none⟩),ps.length,hbm.row⟩ (FR _ _ _) Z (λj hj=>by rw [htt];exact Ql hj (hv.use j hj)) w (ER (S:=S) hw 0 O (At.new hn_US))) O (AE.nil (AD.subF (sL [1,2,3,12,13,14,32] O) (AD.then_ ?_))))
  refine AF.cond_false O (AF.skip (q2 (AG (v:=(pP b1 0)) (AA O underlying30 O sizeOf28 O) O (BO 1 (Value.slice x.a.p ps.length x.a.c) DV O (AE.callL (S:=S) (V:=WX) (LW:=Va (T:=63) (z:=10) (cs:=rowsL Aj ps) (n:=ps.length)) (args:=[(Value.slice x.a.p ps.length x.a.c)]) call69 (λw hw=>PU ps x.a Z w (V2 (ER hw 2 O lx))) O λcl1 hcl1=>?_)))))
  refine AK O (q3 (sL [1,2,3,12,13,14,6] O) (AO O ?_))
  have hpn:cl1.p≠none:=λe=>by have:=(cl1.ok.nil e).1;omega
  refine AE.callWX 0 (α:=List Pt) (K:=λys=>ys.Perm ps) (cs':=λys=>rowsL Aj ys) (v:=(Value.tuple #[])) (AQ O) (Aw (args:=[(Value.slice cl1.p ps.length cl1.c),(Value.func (.func 120) #[] #[])]) O O call119) O (λw hw=>Pg ps _ _ _ 63 cl1.ok hpn O Z hbp w (hw.holds (i:=0) O)) (λd hd=>by cases hd<;>exact (Ab O)) λys hys=>?_
  have hyl:=hys.length_eq
  refine AE.frzRow 0 O cl1.ok (by rw [An BE,hyl]) O O λhn_cl1=>q6 (sL [1,2,3,12,13,14,6] O) (C4 [(0,true),(3,true),(4,true),(5,true),(1,false),(2,true),(6,true),(7,true)] sr (Bo O (Ay (v:=(pP b1 0)) O (AA O underlying30 O sizeOf28 O) (Bn 2 (Value.slice x.a.p ps.length x.a.c) DV O ?_))))
  refine Ay (v:=(vN ps.length)) O (AH O underlying28) (AS.imp O (ET call122 (λw hw=>Mj ys ps.length ⟨cl1.p,cl1.c,cl1.ok.row⟩ hyl Z (hys.nodup_iff.2 hv.dst) w (ER (S:=S) hw 0 O (At.new hn_cl1))) O (AS.back sr (Ay (v:=(vN ps.length)) O (AH O underlying28) (Ay O (BU (c:=true) O O (decide_eq_true O)) ?_)))))
  exact EZ O (AS.nil (AD.subF (sL [1,2,3,12,13,14,6] O) (AD.then_ (AF.ret (AP O (Ad (v:=(Value.bool true)) O) (λw hw=>⟨rfl,hw.out⟩))))))
theorem SG (s r:T3) (h:s.1=r.1/\s.2.1=r.2.1) (w:World)  :Calls prog 126 #[(aG (Av s)),(aG (Av r))] w (Am w (Value.bool true)):=by
 refine Ac (args:=[(aG (Av s)),(aG (Av r))]) func126 O O (Ab O) (AF.subF (sL [0,1] O) (q4 (Bq (cs:=Av s) O λb1=>Bq (cs:=Av r) O λb2=>AK O ?_)))
 refine q3 (sL [2,3,4] O) (AG (v:=(pP b1 0)) (AA O underlying43 O sizeOf3 O) O (BO 1 (vN s.1) Bs O (AG (v:=(pP b2 0)) (AA O underlying43 O sizeOf3 O) O (BO 0 (vN r.1) Bs O (AG (BU (c:=true) O O (decide_eq_true Z)) O ?_)))))
 refine AO O (AE.step (v:=(pP b1 1)) (AB O) (AA O underlying43 O sizeOf3 O) O (Ab O) (AE.step (v:=(vN s.2.1)) (AB O) (AM (i:=1) (v:=(vN s.2.1)) O O Bs.a O) O (Ab O) (AE.step (v:=(pP b2 1)) (AB O) (AA O underlying43 O sizeOf3 O) O (Ab O) (AE.step (v:=(vN r.2.1)) (AB O) (AM (i:=0) (v:=(vN r.2.1)) O O Bs.a O) O (Ab O) (AE.step (v:=(Value.bool true)) (AB O) (BU (c:=true) O O (decide_eq_true Z)) O (Ab O) ?_)))))
 exact AG (v:=(Value.bool true)) (Ah O O) O (AK O (AE.nil (AD.subF (sL [4] O) (AD.then_ (AF.ret (AP O (Ad (v:=(Value.bool true)) O) (λw hw=>⟨rfl,hw.out⟩)))))))
theorem QM (xs ys:List T3) (x:RX (rowsL Av xs) xs.length) (y:RX (rowsL Av ys) ys.length) (hn:xs.length=ys.length) (hl:xs.length<=1000000) (hk:∀j,j<xs.length->(xs.getD j (0,0,0)).1=(ys.getD j (0,0,0)).1/\(xs.getD j (0,0,0)).2.1=(ys.getD j (0,0,0)).2.1) (w:World) {S:Nat->Prop} (hx:Ro S w x) (hy:Ro S w y):Calls prog 45 #[(Value.slice x.p xs.length x.c),(Value.slice y.p ys.length y.c),(Value.func (.func 126) #[] #[])] w (Am w (Value.bool true)):=by
 have lx:=Er (W:=w) hx
 have ly:=Er (W:=w) hy
 refine BI (args:=[(Value.slice x.p xs.length x.c),(Value.slice y.p ys.length y.c),(Value.func (.func 126) #[] #[])]) (L:=[Ai x.p (rowsL Av xs),Ai y.p (rowsL Av ys)]) func45 O O (Ab O) (En hx (En hy BW)) (AF.subF (sL [0,1,2] O) (q4 (AK O (AE.nil (q1 ?_)))))
 refine q4 (AO O (AG (v:=(vN xs.length)) (AH O underlying24) O (AO O (AG (v:=(vN ys.length)) (AH O underlying24) O (AG (CL (c:=false) O O (decide_eq_false Z)) O ?_)))))
 refine AE.nil (AD.subF (sL [0,1,2,6,12] O) (AD.then_ (AF.cond_false O (AF.skip (q1 ?_)))))
 refine q4 (AO O (AG (v:=(vN xs.length)) (AH O underlying24) O (AO O (AE.nil (AD.subF (sL [0,1,2,6,14,15] O) ?_)))))
 refine AD.then_ (AF.block ?_)
 refine AF.lp1 (tg λ(j:Nat)=>j<=xs.length) (tg λ(j:Nat)=>[(0,(Value.slice x.p xs.length x.c)),(1,(Value.slice y.p ys.length y.c)),(2,(Value.func (.func 126) #[] #[])),(14,(vN xs.length)),(15,(vN j))]) (tg λ(j:Nat)=>[Ai x.p (rowsL Av xs),Ai y.p (rowsL Av ys)]) (tg λ(j:Nat)=>xs.length-j) 0 (Nat.zero_le _) (sF O) sr (λj hJ=>?_)
 have hj:=hJ
 refine q4 (AG (Af (c:=(decide (j<xs.length))) O O (C6 (a:=j) (b:=xs.length))) O (AE.nil (q1 ?_)))
 refine AF.cond O (λhc1=>?_) (λhc1=>?_)
 ·replace hc1:=of_decide_eq_true hc1
  refine AF.skip (q1 (AF.block (q4 (AO O (AK O ?_)))))
  refine q6 (sL [0,1,2,14,15,7] O) (C4 [(0,true),(1,true),(2,true),(3,true),(4,true),(5,true),(6,true),(7,true),(8,true),(9,false),(10,true)] sr (Bo O (Bo O (Bo O (Ay (v:=(pP (pB x.p) (pO x.p+j*3))) O (AN (j:=j) O O x.ok underlying24 sizeOf43 O Z) ?_)))))
  refine Ay (v:=(aG (Av (xs.getD j ((0,0,0):Nat×Nat×Nat))))) O (AW (vs:=Av (xs.getD j ((0,0,0):Nat×Nat×Nat))) (i:=0) O O (BB.ne x.ok Z) US (Ar BK _ _ _ Z) (BK _)) (Bo O (Bo O (Ay (v:=(pP (pB y.p) (pO y.p+j*3))) O (AN (j:=j) O O y.ok underlying24 sizeOf43 O Z) (Ay (v:=(aG (Av (ys.getD j ((0,0,0):Nat×Nat×Nat))))) O (AW (vs:=Av (ys.getD j ((0,0,0):Nat×Nat×Nat))) (i:=1) O O (BB.ne y.ok Z) US (Ar BK _ _ _ Z) (BK _)) (AS.imp O ?_)))))
  refine BV call126 (SG _ _ (hk j Z)) O (AS.back sr (Ay O (Ba (c:=false) O O) (AS.nil (AD.subF (sL [0,1,2,14,15,28] O) (AD.then_ ?_)))))
  refine AF.cond_false O (AF.skip (AD.in_normal (AD.then_ (AF.region (AG (AX (c:=((j+1:Nat):Int)) O O (AY (a:=j) (b:=1) Z)) O ?_)))))
  exact AO O (AE.nil (AD.subF (sL [0,1,2,14,15] O) (AD.round1 (j+1) Z Z (sF O) sr)))
 ·replace hc1:=of_decide_eq_false hc1
  refine AF.exit (AD.then_exit (AD.round1_exit (AD.in_exit (q2 (AK O ?_)))))
  exact AE.nil (AD.then_ (AF.ret (AP O (Ad (v:=(Value.bool true)) O) (λw hw=>⟨rfl,hw.out⟩))))
theorem Ox {ps:List Pt} {ts ss:List T3} (x:MX ps ts ss) (hv:Ly ps ts ss) (w:World) {S:Nat->Prop} (hx:Ro S w x):Calls prog 76 #[(aG (C5 x))] w (Am w (Value.bool true)):=by
 have hp:=hv.pl
 have htl:=hv.tl
 have hsl:=hv.sl
 have h0:=hv.t0
 have lx:=Er (W:=w) hx
 refine BI (args:=[(aG (C5 x))]) (L:=[Ai x.a.p (rowsL Aj ps),Ai x.b.p (rowsL Av ts),Ai x.c.p (rowsL Av ss)]) func76 O O (Ab O) (En hx BW) (AF.subF (sL [0] O) (q4 (Bq (cs:=C5 x) O λb1=>AK O (q6 (sL [1,2] O) ?_))))
 refine C4 [(0,true),(1,true),(2,true),(3,true),(4,true),(5,true),(6,false),(7,false),(8,true)] sr (Ay (v:=(pP b1 2)) O (AA O underlying30 O sizeOf24 O) (Bn 0 (Value.slice x.c.p ss.length x.c.c) H6 O (Ay (v:=(pP b1 0)) O (AA O underlying30 O sizeOf28 O) (Bn 0 (Value.slice x.a.p ps.length x.a.c) DV O (Ay (v:=(pP b1 1)) O (AA O underlying30 O sizeOf23 O) ?_)))))
 refine Bn 0 (Value.slice x.b.p ts.length x.b.c) Dn O (AS.imp O (AE.callL (S:=S) (V:=WQ) (LW:=Va (T:=43) (z:=3) (cs:=rowsL Av (EP ts)) (n:=(EP ts).length)) (args:=[(Value.slice x.a.p ps.length x.a.c),(Value.slice x.b.p ts.length x.b.c)]) call125 (λw hw=>Uc ts x.b x.a.p ps.length x.a.c hv.num Z Z w (SM (ER hw 1 O lx))) O λrm hrm=>AE.frzRow 0 O rm.ok (An BK _) O O λhn_rm=>AS.back (sl sr) (AS.imp O ?_)))
 refine ET call45 (λw hw=>QM ss (EP ts) x.c ⟨rm.p,(EP ts).length,rm.ok.clip⟩ hv.rl Z hv.rim w (WH (ER hw 2 O lx)) (ER (S:=S) hw 0 O (At.new hn_rm))) O (AS.back (sl sr) (EZ O (AS.nil (AD.subF (sL [2] O) (AD.then_ ?_)))))
 exact AF.ret (AP O (Ad (v:=(Value.bool true)) O) (λw hw=>⟨rfl,hw.out⟩))
theorem Ry {ps:List Pt} {ts ss:List T3} (x:MX ps ts ss) (hv:Ly ps ts ss) (w:World) {S:Nat->Prop} (hx:Ro S w x):Calls prog 29 #[(aG (C5 x))] w (Am w (vI 0)):=by
 have hp:=hv.pl
 have htl:=hv.tl
 have hsl:=hv.sl
 have h0:=hv.t0
 have lx:=Er (W:=w) hx
 refine BI (args:=[(aG (C5 x))]) (L:=[Ai x.a.p (rowsL Aj ps),Ai x.b.p (rowsL Av ts),Ai x.c.p (rowsL Av ss)]) func29 O O (Ab O) (En hx BW) (AF.subF (sL [0] O) (q4 (Bq (cs:=C5 x) O λb1=>AK O (q6 (sL [1,2] O) ?_))))
 refine AF.block (q4 (AG (v:=(pP b1 0)) (AA O underlying30 O sizeOf28 O) O (BO 0 (Value.slice x.a.p ps.length x.a.c) DV O (AG (v:=(vN ps.length)) (AH O underlying28) O (AG (Cx (c:=false) O O (decide_eq_false Z)) O ?_)))))
 refine AO O (AE.step (v:=(pP b1 1)) (AB O) (AA O underlying30 O sizeOf23 O) O (Ab O) (AE.step (v:=(Value.slice x.b.p ts.length x.b.c)) (AB O) (AM (i:=0) (v:=(Value.slice x.b.p ts.length x.b.c)) O O Dn.a O) O (Ab O) (AE.step (v:=(vN ts.length)) (AB O) (AH O underlying23) O (Ab O) (AE.step (v:=(Value.bool false)) (AB O) (Cx (c:=false) O O (decide_eq_false Z)) O (Ab O) (AG (v:=(Value.bool false)) (AU O O) O ?_)))))
 refine AO O (AE.step (v:=(pP b1 2)) (AB O) (AA O underlying30 O sizeOf24 O) O (Ab O) (AE.step (v:=(Value.slice x.c.p ss.length x.c.c)) (AB O) (AM (i:=0) (v:=(Value.slice x.c.p ss.length x.c.c)) O O H6.a O) O (Ab O) (AE.step (v:=(vN ss.length)) (AB O) (AH O underlying24) O (Ab O) (AE.step (v:=(Value.bool false)) (AB O) (Cx (c:=false) O O (decide_eq_false Z)) O (Ab O) (AG (v:=(Value.bool false)) (AU O O) O ?_)))))
 refine AK O (AE.nil (AD.subF (sL [1,2,3] O) (AD.then_ (AF.cond_false O (q4 ?_)))))
 refine BD 0 EO O (ET call73 (λw hw=>SB x hv w (ER hw 1 O lx)) O (AG (Ba (c:=false) O O) O (AK O (AE.nil (AD.subF (sL [1,2,20] O) ?_)))))
 refine AD.then_ (AF.cond_false O (q4 (BD 0 EO O (ET call74 (λw hw=>Su x hv w (ER hw 1 O lx)) O (AG (Ba (c:=false) O O) O ?_)))))
 refine AO O (AE.step (v:=(aG (C5 x))) (AB O) (Al (i:=0) (vs:=C5 x) O O EO.a EO.s O O) O (Ab O) (AE.call (v:=(Value.bool true)) (AB O) (Aw (args:=[(aG (C5 x))]) O O call75) (λw hw=>Rw x hv w (ER hw 1 O lx)) O (Ab O) (AE.step (v:=(Value.bool false)) (AB O) (Ba (c:=false) O O) O (Ab O) (AG (v:=(Value.bool false)) (AU O O) O (AO O ?_)))))
 refine AE.step (v:=(aG (C5 x))) (AB O) (Al (i:=0) (vs:=C5 x) O O EO.a EO.s O O) O (Ab O) (AE.call (v:=(Value.bool true)) (AB O) (Aw (args:=[(aG (C5 x))]) O O call76) (λw hw=>Ox x hv w (ER hw 1 O lx)) O (Ab O) (AE.step (v:=(Value.bool false)) (AB O) (Ba (c:=false) O O) O (Ab O) (AG (v:=(Value.bool false)) (AU O O) O (AK O (AE.nil ?_)))))
 refine AD.subF (sL [1,2,24] O) (AD.then_ (AF.cond_false O (AF.skip (AD.in_normal (q2 ?_)))))
 exact AK O (AE.nil (AD.subF (sL [1,2] O) (AD.then_ (AF.ret (AP O (Ad (v:=(vI 0)) O) (λw hw=>⟨rfl,hw.out⟩))))))
end
end Go.Proofs.YtfbomiejpbchdaaGreatDoor
