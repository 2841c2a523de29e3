import Derived.Test.YtpgncndhhhllfaaGreatPart03
import Derived.Test.YtpgncndhhhllfaaGreatPart23
namespace Go.Proofs.YtpgncndhhhllfaaGreat
open Go Go.RowKit Go.Proofs.Tryz
set_option linter.unusedVariables false
set_option linter.unusedSimpArgs false
section
set_option maxRecDepth 100000
theorem G1:Ir prog 158 D5 N9 where
 law:=.of_law (deep_law_laid Us (m:=2) (by decide) (by decide +kernel) (by kernel_rfl) (by kernel_rfl))
 key:=λa h=>Le underlying158 ⟨rfl,rfl⟩ ⟨rfl,rfl⟩ (by decide +kernel) underlying3 (by kernel_rfl) (by kernel_rfl) (by kernel_rfl) (by decide +kernel) (G9 h.1) (G9 h.2)
 inj:=λa b h=>Jc h
theorem KZ (x0:Tq3):Instr.fill (λi=>some (i*3,3)) ((Array.range (1*3)).map ((Value.agg (Am ((0,0,0):Tq3)).toArray).cells[·%(Value.agg (Am ((0,0,0):Tq3)).toArray).cells.size]!)) [(0,.agg (Am x0).toArray)]=some (Am x0).toArray:=by kernel_rfl
set_option maxHeartbeats 4000000 in
theorem X7 (ts:List T3) (x:RX (rowsL Am ts) ts.length) (pp:Option Addr) (N pc:Nat) (hn:A_ N ts=true) (hN:N<=4611686018427387904) (hl:ts.length<=1000000000) (w:World) {S:Nat->Prop} (hx:Ro S w x):Calls prog 53 #[(Value.slice pp N pc),(Value.slice x.p ts.length x.c)] w (Mc cE (aF (T:=70) (z:=3) (cs:=rowsL Am (Au ts)) (n:=(Au ts).length)) S w):=by
 have lx:=CV (W:=w) hx
 refine Ag (args:=[(Value.slice pp N pc),(Value.slice x.p ts.length x.c)]) (L:=[AJ x.p (rowsL Am ts)]) func53 O O (AV O) (C4 hx Ao) (AE.subF (sL [0,1] O) (q4 (AI O (AC.nil (q1 (q4 (AM O (AM O (AK (v:=(vN N)) (AF O underlying27) O (Cc (args:=[(Value.slice x.p ts.length x.c),(vN N)]) (v:=(Value.bool true)) call52 (λw hw=>(by have h9:=QG N ts x Z w (Bc hw 0 O lx);rw [hn] at h9;exact h9)) O (AK (BF (c:=false) O O) O ?_)))))))))))
 refine AC.nil (OkQ.subF (sL [1,4,18] O) (OkQ.then_ (AE.cond_false O (AE.skip (q2 (AC.makeMap D5 vN (AT O) O λb1=>AI O (q6 (sL [1,4,5] O) (q4 (AM O (AK (v:=(vN ts.length)) (AF O underlying28) O ?_))))))))))
 refine AM O (AC.nil (OkQ.then_ (AE.block ?_)))
 refine AE.lp1 (tg λ(t:Nat)=>t<=ts.length) (tg λ(t:Nat)=>[(1,(Value.slice x.p ts.length x.c)),(4,(Value.slice none 0 0)),(5,(Value.map (some b1))),(20,(Value.slice x.p ts.length x.c)),(21,(vN ts.length)),(22,(vN t))]) (tg λ(t:Nat)=>[Bm b1 D5 vN (Cd ts (3*t+0)),AJ x.p (rowsL Am ts)]) (tg λ(t:Nat)=>ts.length-t) 0 (Nat.zero_le _) (sF O) sr (λt hJ=>?_)
 have ht:=hJ
 refine q4 (AK (Ad (c:=(decide (t<ts.length))) O O (B7 (a:=t) (b:=ts.length))) O (AC.nil (q1 ?_)))
 refine AE.cond O (λhc1=>?_) (λhc1=>?_)
 ·replace hc1:=of_decide_eq_true hc1
  obtain ⟨T,hT⟩:∃q,q=ts.getD t (0,0,0):=⟨_,rfl⟩
  obtain ⟨g1,g2,g3⟩:=Cn (CL hn hc1)
  rw [<-hT] at g1 g2 g3
  refine AE.skip (q1 (AE.block (q4 (AK (v:=(pP (pB x.p) (pO x.p+t*3))) (AH (j:=t) O O x.ok underlying28 sizeOf68 O Z) O (AK (v:=(aG (Am (ts.getD t ((0,0,0):Tq3))))) (Ai (vs:=Am (ts.getD t ((0,0,0):Tq3))) (i:=1) O O (Ar.ne x.ok Z) DL (A8 Af _ _ _ Z) (Af _)) O (AC.retell (k:=25) (u:=(aG (Am T))) O (by rw [hT]) (al Ng O λb2=>BP O sizeOf68 O (q3 (sL [1,4,5,20,21,22,7] O) (AM O (AC.nil ?_))))))))))
  refine OkQ.then_ (AE.block (AE.unroll 4 (FF.step (q4 (AK (Ad (c:=true) O O (by decide)) O (AC.nil (q1 (AE.cond_true O (AE.skip (q1 (AE.block ?_)))))))))))
  refine q4 (AM O (AI O (q6 (sL [1,4,5,20,21,22,7,26,8] O) (Cu [(0,true),(1,true),(2,true),(3,true),(4,true),(5,true),(6,true),(7,true),(8,true),(9,true)] sr (BU O (Av (v:=(pP b2 0)) O (AG (j:=0) O O underlying68 sizeOf3 O (by decide) O) (Bx 0 (vN T.1) BR O (BU O (Av O (AY (c:=(1:Int)) O O (by decide)) (Av O (Cb (c:=(1:Int)) O O (by decide) (by decide)) (Av (v:=(pP b2 1)) O (AG (j:=1) O O underlying68 sizeOf3 O (by decide) O) ?_)))))))))))
  refine Bx 0 (vN T.2.1) BR O (pS' O (pS' O (OkE.nil (OkQ.subF (sL [1,4,5,20,21,22,7,26,9,10] O) (OkQ.then_ ?_)))))
  obtain ⟨vq1,hvq1⟩:∃q,q=(Ac (Cd ts (3*t+0)) ((min T.1 T.2.1,max T.1 T.2.1):P2)).getD 0:=⟨_,rfl⟩
  refine aP [(0,true),(1,true),(2,true),(3,true),(4,true),(5,true),(6,true),(7,true),(8,true),(9,true),(10,false),(11,true)] 12 [] (bD 1 (x:=((min T.1 T.2.1,max T.1 T.2.1):P2)) (v:=vq1) O O) (List.nil_sublist _) (by kernel_rfl) (λ_ _ d _ _ h=>by cases d<;>exact h) (vM O O O (vM O O O (vM O O O (vE O (Fm (c:=((min T.1 T.2.1:Nat):Int)) O O (by split<;>omega)) O (vM O O O (vM O O O (vE O (Eo (c:=((max T.1 T.2.1:Nat):Int)) O O (by split<;>omega)) O (vE (v:=(aG ([(vN (min T.1 T.2.1)),(vN (max T.1 T.2.1))]))) O (Aa (zs:=Bh ((0,0):P2)) (vs:=[(vN (min T.1 T.2.1)),(vN (max T.1 T.2.1))]) (pv:=[(0,(vN (min T.1 T.2.1))),(1,(vN (max T.1 T.2.1)))]) (places:=[(0,1),(1,1)]) zeroValue158 underlying158 (λw=>by simp [sizeOf3]) O O) O (vE (v:=(vN vq1)) O (G5 G1 1 (kvs:=Cd ts (3*t+0)) (x:=((min T.1 T.2.1,max T.1 T.2.1):P2)) (z0:=0) O O underlying156 zeroValue3 O (Eh hn hN _ Z) (DY Z Z) hvq1) O ?_)))))))))
  have hmq:=L7 (ts:=ts) (3*t+0) ((min T.1 T.2.1,max T.1 T.2.1):P2)
  refine vE O (AY (c:=((vq1+1:Nat):Int)) O O (AU (a:=vq1) (b:=1) Z)) O (Dc.imp O (AC.mapEntry G1 1 (kvs:=Cd ts (3*t+0)) (x:=((min T.1 T.2.1,max T.1 T.2.1):P2)) (z0:=0) (v:=vq1) O O underlying156 zeroValue3 O (Eh hn hN _ Z) (DY Z Z) hvq1 O (Dc.backW (YY 1 O O) (vE O (AX (v:=(vN (Ct (Cd ts (3*t+0)) ((min T.1 T.2.1,max T.1 T.2.1):P2)))) O O) O (Dc.cut O (AC.entryStore 1 (kvs:=Cd ts (3*t+0)) (x:=((min T.1 T.2.1,max T.1 T.2.1):P2)) (u:=vq1) (y:=vq1+1) O O O O ?_))))))
  rw [show A9 (Cd ts (3*t+0)) ((min T.1 T.2.1,max T.1 T.2.1):P2) (vq1+1)=Cd ts (3*t+1) from by rw [hvq1,hT];exact (Hx (ts:=ts) (t:=t) (i:=0) Z).symm]
  refine OkE.back (List.nil_sublist _) (OkE.nil (OkQ.subF (sL [1,4,5,20,21,22,7,26] O) (OkQ.in_normal (OkQ.then_ (AE.region (AK (AY (c:=(1:Int)) O O (by decide)) O (AM O (AC.nil (OkQ.subF (sL [1,4,5,20,21,22,7,26] O) (OkQ.again (FF.step ?_)))))))))))
  refine q4 (AK (Ad (c:=true) O O (by decide)) O (AC.nil (q1 (AE.cond_true O (AE.skip (q1 (AE.block (q4 (AM O (AI O (q6 (sL [1,4,5,20,21,22,7,26,8] O) ?_)))))))))))
  refine Cu [(0,true),(1,true),(2,true),(3,true),(4,true),(5,true),(6,true),(7,true),(8,true),(9,true)] sr (BU O (Av (v:=(pP b2 1)) O (AG (j:=1) O O underlying68 sizeOf3 O (by decide) O) (Bx 0 (vN T.2.1) BR O (BU O (Av O (AY (c:=(2:Int)) O O (by decide)) (Av O (Cb (c:=(2:Int)) O O (by decide) (by decide)) (Av (v:=(pP b2 2)) O (AG (j:=2) O O underlying68 sizeOf3 O (by decide) O) (Bx 0 (vN T.2.2) BR O (pS' O (pS' O (OkE.nil ?_)))))))))))
  refine OkQ.subF (sL [1,4,5,20,21,22,7,26,9,10] O) (OkQ.then_ ?_)
  obtain ⟨vq2,hvq2⟩:∃q,q=(Ac (Cd ts (3*t+1)) ((min T.2.1 T.2.2,max T.2.1 T.2.2):P2)).getD 0:=⟨_,rfl⟩
  refine aP [(0,true),(1,true),(2,true),(3,true),(4,true),(5,true),(6,true),(7,true),(8,true),(9,true),(10,false),(11,true)] 12 [] (bD 1 (x:=((min T.2.1 T.2.2,max T.2.1 T.2.2):P2)) (v:=vq2) O O) (List.nil_sublist _) (by kernel_rfl) (λ_ _ d _ _ h=>by cases d<;>exact h) (vM O O O (vM O O O (vM O O O (vE O (Fm (c:=((min T.2.1 T.2.2:Nat):Int)) O O (by split<;>omega)) O (vM O O O (vM O O O (vE O (Eo (c:=((max T.2.1 T.2.2:Nat):Int)) O O (by split<;>omega)) O (vE (v:=(aG ([(vN (min T.2.1 T.2.2)),(vN (max T.2.1 T.2.2))]))) O (Aa (zs:=Bh ((0,0):P2)) (vs:=[(vN (min T.2.1 T.2.2)),(vN (max T.2.1 T.2.2))]) (pv:=[(0,(vN (min T.2.1 T.2.2))),(1,(vN (max T.2.1 T.2.2)))]) (places:=[(0,1),(1,1)]) zeroValue158 underlying158 (λw=>by simp [sizeOf3]) O O) O (vE (v:=(vN vq2)) O (G5 G1 1 (kvs:=Cd ts (3*t+1)) (x:=((min T.2.1 T.2.2,max T.2.1 T.2.2):P2)) (z0:=0) O O underlying156 zeroValue3 O (Eh hn hN _ Z) (DY Z Z) hvq2) O ?_)))))))))
  have hmq:=L7 (ts:=ts) (3*t+1) ((min T.2.1 T.2.2,max T.2.1 T.2.2):P2)
  refine vE O (AY (c:=((vq2+1:Nat):Int)) O O (AU (a:=vq2) (b:=1) Z)) O (Dc.imp O (AC.mapEntry G1 1 (kvs:=Cd ts (3*t+1)) (x:=((min T.2.1 T.2.2,max T.2.1 T.2.2):P2)) (z0:=0) (v:=vq2) O O underlying156 zeroValue3 O (Eh hn hN _ Z) (DY Z Z) hvq2 O (Dc.backW (YY 1 O O) (vE O (AX (v:=(vN (Ct (Cd ts (3*t+1)) ((min T.2.1 T.2.2,max T.2.1 T.2.2):P2)))) O O) O (Dc.cut O (AC.entryStore 1 (kvs:=Cd ts (3*t+1)) (x:=((min T.2.1 T.2.2,max T.2.1 T.2.2):P2)) (u:=vq2) (y:=vq2+1) O O O O ?_))))))
  rw [show A9 (Cd ts (3*t+1)) ((min T.2.1 T.2.2,max T.2.1 T.2.2):P2) (vq2+1)=Cd ts (3*t+2) from by rw [hvq2,hT];exact (Hx (ts:=ts) (t:=t) (i:=1) Z).symm]
  refine OkE.back (List.nil_sublist _) (OkE.nil (OkQ.subF (sL [1,4,5,20,21,22,7,26] O) (OkQ.in_normal (OkQ.then_ (AE.region (AK (AY (c:=(2:Int)) O O (by decide)) O (AM O (AC.nil (OkQ.subF (sL [1,4,5,20,21,22,7,26] O) (OkQ.again (FF.step ?_)))))))))))
  refine q4 (AK (Ad (c:=true) O O (by decide)) O (AC.nil (q1 (AE.cond_true O (AE.skip (q1 (AE.block (q4 (AM O (AI O (q6 (sL [1,4,5,20,21,22,7,26,8] O) ?_)))))))))))
  refine Cu [(0,true),(1,true),(2,true),(3,true),(4,true),(5,true),(6,true),(7,true),(8,true),(9,true)] sr (BU O (Av (v:=(pP b2 2)) O (AG (j:=2) O O underlying68 sizeOf3 O (by decide) O) (Bx 0 (vN T.2.2) BR O (BU O (Av O (AY (c:=(3:Int)) O O (by decide)) (Av O (Cb (c:=(0:Int)) O O (by decide) (by decide)) (Av (v:=(pP b2 0)) O (AG (j:=0) O O underlying68 sizeOf3 O (by decide) O) (Bx 0 (vN T.1) BR O (pS' O (pS' O (OkE.nil ?_)))))))))))
  refine OkQ.subF (sL [1,4,5,20,21,22,7,26,9,10] O) (OkQ.then_ ?_)
  obtain ⟨vq3,hvq3⟩:∃q,q=(Ac (Cd ts (3*t+2)) ((min T.2.2 T.1,max T.2.2 T.1):P2)).getD 0:=⟨_,rfl⟩
  refine aP [(0,true),(1,true),(2,true),(3,true),(4,true),(5,true),(6,true),(7,true),(8,true),(9,true),(10,false),(11,true)] 12 [] (bD 1 (x:=((min T.2.2 T.1,max T.2.2 T.1):P2)) (v:=vq3) O O) (List.nil_sublist _) (by kernel_rfl) (λ_ _ d _ _ h=>by cases d<;>exact h) (vM O O O (vM O O O (vM O O O (vE O (Fm (c:=((min T.2.2 T.1:Nat):Int)) O O (by split<;>omega)) O (vM O O O (vM O O O (vE O (Eo (c:=((max T.2.2 T.1:Nat):Int)) O O (by split<;>omega)) O (vE (v:=(aG ([(vN (min T.2.2 T.1)),(vN (max T.2.2 T.1))]))) O (Aa (zs:=Bh ((0,0):P2)) (vs:=[(vN (min T.2.2 T.1)),(vN (max T.2.2 T.1))]) (pv:=[(0,(vN (min T.2.2 T.1))),(1,(vN (max T.2.2 T.1)))]) (places:=[(0,1),(1,1)]) zeroValue158 underlying158 (λw=>by simp [sizeOf3]) O O) O (vE (v:=(vN vq3)) O (G5 G1 1 (kvs:=Cd ts (3*t+2)) (x:=((min T.2.2 T.1,max T.2.2 T.1):P2)) (z0:=0) O O underlying156 zeroValue3 O (Eh hn hN _ Z) (DY Z Z) hvq3) O ?_)))))))))
  have hmq:=L7 (ts:=ts) (3*t+2) ((min T.2.2 T.1,max T.2.2 T.1):P2)
  refine vE O (AY (c:=((vq3+1:Nat):Int)) O O (AU (a:=vq3) (b:=1) Z)) O (Dc.imp O (AC.mapEntry G1 1 (kvs:=Cd ts (3*t+2)) (x:=((min T.2.2 T.1,max T.2.2 T.1):P2)) (z0:=0) (v:=vq3) O O underlying156 zeroValue3 O (Eh hn hN _ Z) (DY Z Z) hvq3 O (Dc.backW (YY 1 O O) (vE O (AX (v:=(vN (Ct (Cd ts (3*t+2)) ((min T.2.2 T.1,max T.2.2 T.1):P2)))) O O) O (Dc.cut O (AC.entryStore 1 (kvs:=Cd ts (3*t+2)) (x:=((min T.2.2 T.1,max T.2.2 T.1):P2)) (u:=vq3) (y:=vq3+1) O O O O ?_))))))
  rw [show A9 (Cd ts (3*t+2)) ((min T.2.2 T.1,max T.2.2 T.1):P2) (vq3+1)=Cd ts (3*t+3) from by rw [hvq3,hT];exact (Hx (ts:=ts) (t:=t) (i:=2) Z).symm]
  refine OkE.back (List.nil_sublist _) (OkE.nil (OkQ.subF (sL [1,4,5,20,21,22,7,26] O) (OkQ.in_normal (OkQ.then_ (AE.region (AK (AY (c:=(3:Int)) O O (by decide)) O (AM O (AC.nil (OkQ.subF (sL [1,4,5,20,21,22,7,26] O) (OkQ.again (FF.step ?_)))))))))))
  refine q4 (AK (Ad (c:=false) O O (by decide)) O (AC.nil (q1 (AE.cond_false O (AE.exit (OkQ.then_exit (OkQ.then_exit (OkQ.in_exit (OkQ.in_normal (OkQ.then_ (AE.region ?_)))))))))))
  refine AK (AY (c:=((t+1:Nat):Int)) O O (AU (a:=t) (b:=1) Z)) O (AM O (AC.nil (OkQ.subF (sL [1,4,5,20,21,22,7,26] O) ?_)))
  rw [show 3*t+3=3*(t+1)+0 by omega]
  exact OkQ.round1 (t+1) Z Z (sF O) (sl sr)
 ·replace hc1:=of_decide_eq_false hc1
  have htl:t=ts.length:=by omega
  refine AE.exit (OkQ.then_exit (OkQ.round1_exit (OkQ.in_exit (q2 (AI O (AC.nilRow 70 3 (AC.nil (q1 (q4 (AM O ?_))))))))))
  rw [show Cd ts (3*t+0)=(Cd ts (3*ts.length)) by rw [htl,Nat.add_zero]]
  refine cX (S:=S) (cs:=rowsL B1 (Bv ts)) (k:=(Bv ts).length) (args:=[(Value.slice x.p ts.length x.c)]) call63 (λw hw=>TO ts x N hn hN hl w (Bc hw 2 O lx)) O O O λo lo=>AK (v:=(vN ((Bv ts).length))) (AF O underlying125) O (AM O (AC.nil (OkQ.subF (sL [1,4,5,20,21,22,11,52,53,54] O) (OkQ.then_ (AE.block ?_)))))
  refine AE.lp4 (tg λ(i:Nat) (p1:Option Addr) (c1:Nat) (out:List T3)=>i<=(Bv ts).length/\OwnOk p1 out.length c1/\out=HU ts i) (tg λ(i:Nat) (p1:Option Addr) (c1:Nat) (out:List T3)=>[(4,(Value.slice none 0 0)),(5,(Value.map (some b1))),(52,(Value.slice o.p ((Bv ts).length) o.c)),(53,(vN ((Bv ts).length))),(54,(vN i)),(11,(Value.slice p1 out.length c1))]) (tg λ(i:Nat) (p1:Option Addr) (c1:Nat) (out:List T3)=>[AJ o.p (rowsL B1 (Bv ts)),rowW p1 70 3 out.length c1 (rowsL Am out),Bm b1 D5 vN (Cd ts (3*ts.length)),AJ x.p (rowsL Am ts)]) (tg λ(i:Nat) (p1:Option Addr) (c1:Nat) (out:List T3)=>(Bv ts).length-i) 0 none 0 ([]:List T3) (⟨Nat.zero_le _,OwnOk.none,rfl⟩) (sF O) sr (λi p1 c1 out hJ=>?_)
  obtain ⟨hi,ho,hou⟩:=hJ
  have hol:=Ns (ts:=ts) i
  rw [<-hou] at hol
  refine q4 (AK (Ad (c:=(decide (i<((Bv ts).length)))) O O (B7 (a:=i) (b:=(Bv ts).length))) O (AC.nil (q1 ?_)))
  refine AE.cond O (λhc3=>?_) (λhc3=>?_)
  ·replace hc3:=of_decide_eq_true hc3
   have hel:=JD (ts:=ts) (3*ts.length)
   rw [<-JF] at hel
   have hmem:((Bv ts).getD i (⟨0,0,0,0⟩:E4))∈Bv ts:=by rw [List.getD,List.getElem?_eq_getElem hc3];exact List.getElem_mem hc3
   obtain ⟨hea,heb⟩:=N7 hn hN _ hmem
   refine AE.skip (q1 (AE.block (q4 (AK (v:=(pP (pB o.p) (pO o.p+i*4))) (AH (j:=i) O O o.ok underlying125 sizeOf159 O Z) O (AK (v:=(aG (B1 ((Bv ts).getD i (⟨0,0,0,0⟩:E4))))) (Ai (vs:=B1 ((Bv ts).getD i (⟨0,0,0,0⟩:E4))) (i:=0) O O (Ar.ne o.ok Z) Na (A8 Dp _ _ _ Z) (Dp _)) O (al NR O λb2=>BP O sizeOf159 O (q3 (sL [4,5,52,53,54,11,13] O) (AM O (AK (v:=(pP b2 0)) (AB O underlying159 O sizeOf3 O) O (BL 0 (vN (((Bv ts).getD i (⟨0,0,0,0⟩:E4)).a)) BR O ?_))))))))))
   refine AK (v:=(pP b2 1)) (AB O underlying159 O sizeOf3 O) O (BL 0 (vN (((Bv ts).getD i (⟨0,0,0,0⟩:E4)).b)) BR O (AK (v:=(aG ([(vN (((Bv ts).getD i (⟨0,0,0,0⟩:E4)).a)),(vN (((Bv ts).getD i (⟨0,0,0,0⟩:E4)).b))]))) (Aa (zs:=Bh ((0,0):P2)) (vs:=[(vN (((Bv ts).getD i (⟨0,0,0,0⟩:E4)).a)),(vN (((Bv ts).getD i (⟨0,0,0,0⟩:E4)).b))]) (pv:=[(0,(vN (((Bv ts).getD i (⟨0,0,0,0⟩:E4)).a))),(1,(vN (((Bv ts).getD i (⟨0,0,0,0⟩:E4)).b)))]) (places:=[(0,1),(1,1)]) zeroValue158 underlying158 (λw=>by simp [sizeOf3]) O O) O (AK (v:=(vN ((Ac (Cd ts (3*ts.length)) ((((Bv ts).getD i (⟨0,0,0,0⟩:E4)).a,((Bv ts).getD i (⟨0,0,0,0⟩:E4)).b):P2)).getD 0))) (Bj G1 3 (eV:=vN) (kvs:=(Cd ts (3*ts.length))) (x:=((((Bv ts).getD i (⟨0,0,0,0⟩:E4)).a,((Bv ts).getD i (⟨0,0,0,0⟩:E4)).b):P2)) (z0:=0) (co:=false) O O underlying156 zeroValue3 O (Eh hn hN _ Z) (Fy Z Z)) O (AK (BA (c:=(decide (((Ac (Cd ts (3*ts.length)) ((((Bv ts).getD i (⟨0,0,0,0⟩:E4)).a,((Bv ts).getD i (⟨0,0,0,0⟩:E4)).b):P2)).getD 0)=1))) O O (KW (a:=(Ac (Cd ts (3*ts.length)) ((((Bv ts).getD i (⟨0,0,0,0⟩:E4)).a,((Bv ts).getD i (⟨0,0,0,0⟩:E4)).b):P2)).getD 0) (b:=1))) O (AC.nil (OkQ.subF (sL [4,5,52,53,54,11,13,65] O) (OkQ.then_ ?_)))))))
   refine AE.cond O (λhc4=>?_) (λhc4=>?_)
   ·replace hc4:=of_decide_eq_true hc4
    refine AE.region (AM O (AK (v:=(pP b2 0)) (AB O underlying159 O sizeOf3 O) O (BL 0 (vN (((Bv ts).getD i (⟨0,0,0,0⟩:E4)).a)) BR O (AK (v:=(pP b2 1)) (AB O underlying159 O sizeOf3 O) O (BL 0 (vN (((Bv ts).getD i (⟨0,0,0,0⟩:E4)).b)) BR O (AK (v:=(aG ([(vN (((Bv ts).getD i (⟨0,0,0,0⟩:E4)).a)),(vN (((Bv ts).getD i (⟨0,0,0,0⟩:E4)).b)),(vI 0)]))) (Aa (zs:=Am ((0,0,0):Tq3)) (vs:=[(vN (((Bv ts).getD i (⟨0,0,0,0⟩:E4)).a)),(vN (((Bv ts).getD i (⟨0,0,0,0⟩:E4)).b)),(vI 0)]) (pv:=[(0,(vN (((Bv ts).getD i (⟨0,0,0,0⟩:E4)).a))),(1,(vN (((Bv ts).getD i (⟨0,0,0,0⟩:E4)).b)))]) (places:=[(0,1),(1,1),(2,1)]) zeroValue70 underlying70 (λw=>by simp [sizeOf3]) O O) O (AC.openV (V:=λb3=>(Value.slice (some ⟨b3,0,none⟩) 1 1)) (T:=70) (cs:=Am (((Bv ts).getD i (⟨0,0,0,0⟩:E4)).a,((Bv ts).getD i (⟨0,0,0,0⟩:E4)).b,0)) (AT O) (Ap (z:=.agg (Am ((0,0,0):Tq3)).toArray) (cs:=Am (((Bv ts).getD i (⟨0,0,0,0⟩:E4)).a,((Bv ts).getD i (⟨0,0,0,0⟩:E4)).b,0)) (pv:=[(0,(aG ([(vN (((Bv ts).getD i (⟨0,0,0,0⟩:E4)).a)),(vN (((Bv ts).getD i (⟨0,0,0,0⟩:E4)).b)),(vI 0)])))]) underlying29 sizeOf70 zeroValue70 (by decide) (by decide) O (KZ (((Bv ts).getD i (⟨0,0,0,0⟩:E4)).a,((Bv ts).getD i (⟨0,0,0,0⟩:E4)).b,0))) O (AV O) λb3=>AC.appendAt 3 (j:=0) (cs2:=rowsL Am (out++[(((Bv ts).getD i (⟨0,0,0,0⟩:E4)).a,((Bv ts).getD i (⟨0,0,0,0⟩:E4)).b,0)])) ZI O ho (A6 Af _) O O O O O (by decide) (Fl Z) Z (by rw [Bk];rfl) O λp_1 c_1 ho_1 hne_1=>AI O (AC.nil (OkQ.subF (sL [4,5,52,53,54,11,13] O) ?_)))))))))
    refine OkQ.in_normal (OkQ.then_ (AE.region (AK (AY (c:=((i+1:Nat):Int)) O O (AU (a:=i) (b:=1) Z)) O (AM O (AC.nil (OkQ.subF (sL [4,5,52,53,54,11,13] O) ?_))))))
    rw [show out.length+1=(out++[(((Bv ts).getD i (⟨0,0,0,0⟩:E4)).a,((Bv ts).getD i (⟨0,0,0,0⟩:E4)).b,0)]).length by simp]
    exact OkQ.round4 (i+1) p_1 c_1 (out++[(((Bv ts).getD i (⟨0,0,0,0⟩:E4)).a,((Bv ts).getD i (⟨0,0,0,0⟩:E4)).b,0)]) (⟨Z,(by simpa using ho_1),by rw [hou];exact (TB Z hc4).symm⟩) Z (sF O) (sl (sl sr))
   ·replace hc4:=of_decide_eq_false hc4
    exact AE.skip (OkQ.in_normal (OkQ.then_ (AE.region (AK (AY (c:=((i+1:Nat):Int)) O O (AU (a:=i) (b:=1) Z)) O (AM O (AC.nil (OkQ.subF (sL [4,5,52,53,54,11,13] O) (OkQ.round4 (i+1) p1 c1 out (⟨Z,ho,by rw [hou];exact (WH Z hc4).symm⟩) Z (sF O) (sl sr)))))))))
  ·replace hc3:=of_decide_eq_false hc3
   exact AE.exit (OkQ.then_exit (OkQ.round4_exit (OkQ.in_exit (q2 (AM O (ck' call71 (Ss p1 out.length c1 ho.row.le) O (AI O (AC.nil (OkQ.subF (sL [4,5,52,53,54,11] O) (OkQ.then_ (AE.ret (AS O (AZ (v:=(Value.slice p1 out.length out.length)) O) (λw hw=>(by rw [show Au ts=out by rw [hou,show i=(Bv ts).length by omega];rfl];exact YK hw (OX.mk p1 c1 ho) (sl (sk (sl (sl sr)))) (Ms.own O Ms.nil) O))))))))))))))
end
section
set_option maxRecDepth 100000
theorem E9:Ir prog 112 D5 N9:=XF Us (by decide +kernel) (by kernel_rfl) (by kernel_rfl) underlying112 underlying3 (by kernel_rfl) (by kernel_rfl) (by kernel_rfl)
theorem D4 (x0 x1:Nat):Instr.fill (λi=>some (i*1,1)) (Bh ((0,0):P2)).toArray [(0,vN x0),(1,vN x1)]=some (Bh (x0,x1)).toArray:=by kernel_rfl
set_option maxHeartbeats 1000000 in
theorem Dm {N:Nat} {ts ss:List T3} (x:RM N ts ss) (hp:N<=1000000) (htl:ts.length<=1000000) (w:World) {S:Nat->Prop} (hx:Ro S w x):Calls prog 15 #[(aG (BN x))] w (Al (SX ts (A_ N ts&&BV ts (3*ts.length))) S w):=by
 have lx:=CV (W:=w) hx
 refine Ag (args:=[(aG (BN x))]) (L:=[AJ x.a.p (x.cs),AJ x.b.p (rowsL Am ts),AJ x.c.p (x.ds)]) func15 O O (AV O) (C4 hx Ao) (AE.subF (sL [0] O) (q4 (B0 (cs:=BN x) O λb1=>AI O (AI O (q3 (sL [1,2,3] O) (AC.makeMap D5 vN (AT O) O λb2=>AI O (q6 (sL [1,2,3,4] O) (q4 (BC 1 CF O ?_)))))))))
 refine Cc call35 (λw hw=>E_ x Z w (Bc hw 2 O lx)) O (AK (BF (c:=(!(A_ N ts))) O O) O (AC.nil (OkQ.subF (sL [1,2,3,4,14] O) (OkQ.then_ ?_))))
 refine AE.cond O (λhc0=>?_) (λhc0=>?_)
 ·simp only [Bool.and_eq_true,Bool.or_eq_true,Bool.and_eq_false_iff,Bool.or_eq_false_iff,Bool.not_eq_true',Bool.not_eq_false',decide_eq_true_eq,decide_eq_false_iff_not] at hc0
  exact q4 (AM O (AI O (AI O (AC.nil (OkQ.subF (sL [1,2,3,4] O) (OkQ.then_ (AE.ret (OkQ.then_ret (Bo O (AZ (v:=(Value.map (some b2))) O) (AZ (v:=(Value.bool false)) O) (λw hw=>(by rw [show (A_ N ts&&BV ts (3*ts.length))=false from by rw [hc0];rfl];exact K9 hw 0 O ⟨λp hp=>(by cases hp),List.Pairwise.nil⟩ (λh=>by cases h) O)))))))))))
 ·simp only [Bool.and_eq_true,Bool.or_eq_true,Bool.and_eq_false_iff,Bool.or_eq_false_iff,Bool.not_eq_true',Bool.not_eq_false',decide_eq_true_eq,decide_eq_false_iff_not] at hc0
  refine AE.skip (q1 (q4 (AK (v:=(pP b1 1)) (AB O underlying31 O sizeOf28 O) O (BL 1 (Value.slice x.b.p ts.length x.b.c) Bp O (AK (v:=(vN ts.length)) (AF O underlying28) O (AM O (AC.nil (OkQ.subF (sL [1,2,3,4,17,18,19] O) (OkQ.then_ (AE.block ?_))))))))))
  refine AE.lp1 (tg λ(t:Nat)=>t<=ts.length/\BV ts (3*t+0)=true) (tg λ(t:Nat)=>[(4,(Value.map (some b2))),(17,(Value.slice x.b.p ts.length x.b.c)),(18,(vN ts.length)),(19,(vN t))]) (tg λ(t:Nat)=>[Bm b2 D5 vN (Bw ts (3*t+0)),Ah b1 31 (BN x),AJ x.a.p (x.cs),AJ x.b.p (rowsL Am ts),AJ x.c.p (x.ds)]) (tg λ(t:Nat)=>ts.length-t) 0 (⟨Nat.zero_le _,rfl⟩) (sF O) sr (λt hJ=>?_)
  obtain ⟨ht,hor0⟩:=hJ
  refine q4 (AK (Ad (c:=(decide (t<ts.length))) O O (B7 (a:=t) (b:=ts.length))) O (AC.nil (q1 ?_)))
  refine AE.cond O (λhc1=>?_) (λhc1=>?_)
  ·replace hc1:=of_decide_eq_true hc1
   obtain ⟨T,hT⟩:∃q,q=ts.getD t (0,0,0):=⟨_,rfl⟩
   obtain ⟨g1,g2,g3⟩:=Cn (CL hc0 hc1)
   rw [<-hT] at g1 g2 g3
   refine AE.skip (q1 (AE.block (q4 (AM O (AK (v:=(pP (pB x.b.p) (pO x.b.p+t*3))) (AH (j:=t) O O x.b.ok underlying28 sizeOf68 O Z) O (AK (v:=(aG (Am (ts.getD t ((0,0,0):Tq3))))) (Ai (vs:=Am (ts.getD t ((0,0,0):Tq3))) (i:=3) O O (Ar.ne x.b.ok Z) DL (A8 Af _ _ _ Z) (Af _)) O (AC.retell (k:=23) (u:=(aG (Am T))) O (by rw [hT]) (al Ng O λb3=>AI O (BP O sizeOf68 O (q3 (sL [4,17,18,19,6,5] O) ?_))))))))))
   refine AM O (AC.nil (OkQ.then_ (AE.block (AE.unroll 4 (FF.step (q4 (AK (Ad (c:=true) O O (by decide)) O (AC.nil (q1 (AE.cond_true O (AE.skip ?_)))))))))))
   refine q1 (AE.block (q4 (AM O (AI O (q6 (sL [4,17,18,19,6,5,24,7] O) (Cu [(0,true),(1,true),(2,true),(3,true),(4,true),(5,true),(6,true),(7,true),(8,true),(9,false),(10,false)] sr (BU O (Av (v:=(pP b3 0)) O (AG (j:=0) O O underlying68 sizeOf3 O (by decide) O) (Bx 0 (vN T.1) BR O (BU O (Av O (AY (c:=(1:Int)) O O (by decide)) ?_)))))))))))
   refine Av O (Cb (c:=(1:Int)) O O (by decide) (by decide)) (Av (v:=(pP b3 1)) O (AG (j:=1) O O underlying68 sizeOf3 O (by decide) O) (Bx 0 (vN T.2.1) BR O (Av (v:=(aG (Bh (T.1,T.2.1)))) O (BY (zs:=Bh ((0,0):P2)) (vs:=Bh (T.1,T.2.1)) (pv:=[(0,(vN T.1)),(1,(vN T.2.1))]) zeroValue112 underlying112 sizeOf3 O (D4 T.1 T.2.1)) (OkE.imp O (al IZ O λb4=>OkE.back (sl sr) (OkE.imp O (BP O sizeOf112 O (OkE.back (sl sr) (OkE.nil (OkQ.subF (sL [4,17,18,19,6,5,24,8] O) ?_))))))))))
   refine q1 (q4 (AM O (BC 0 EM O (AK (v:=(Value.tuple #[(vN ((Ac (Bw ts (3*t+0)) (T.1,T.2.1)).getD 0)),(Value.bool ((Ac (Bw ts (3*t+0)) (T.1,T.2.1)).isSome))])) (Bj E9 2 (eV:=vN) (kvs:=Bw ts (3*t+0)) (x:=(T.1,T.2.1)) (z0:=0) (co:=true) O O underlying71 zeroValue3 O (DQ hc0 Z _ Z) (Fy Z Z)) O (AM O (AK (AX (v:=(vN ((Ac (Bw ts (3*t+0)) (T.1,T.2.1)).getD 0))) O O) O (AK (AX (v:=(Value.bool ((Ac (Bw ts (3*t+0)) (T.1,T.2.1)).isSome))) O O) O (AI O (AI O (q3 (sL [4,17,18,19,6,5,24,8,10] O) (AM O ?_)))))))))))
   refine AC.nil (OkQ.subF (sL [4,17,18,19,6,5,24,8,42] O) (OkQ.then_ ?_))
   refine AE.cond O (λhc3=>?_) (λhc3=>?_)
   ·skip
    have hsy0:=hc3
    refine q4 (AM O (AI O (AI O (AC.nil (OkQ.subF (sL [4,17,18,19,6,5,24,8,2,3] O) (OkQ.then_ (AE.ret (OkQ.then_ret (OkQ.in_ret (OkQ.then_ret (OkQ.then_ret ?_)))))))))))
    exact OkQ.in_ret (OkQ.in_ret (OkQ.then_ret (OkQ.round1_ret (OkQ.in_ret (OkQ.then_ret (Bo O (AZ (v:=(Value.map (some b2))) O) (AZ (v:=(Value.bool false)) O) (λw hw=>(by rw [show (A_ N ts&&BV ts (3*ts.length))=false from by rw [hc0];exact MN (r:=0) Z hc1 (by rw [<-hT];exact hsy0)];exact K9 hw 2 O (DQ hc0 Z _ Z) (λh=>by cases h) O))))))))
   ·skip
    have hsn0:=hc3
    refine AE.skip (OkQ.then_ (AE.region (AM O (BC 0 EM O (AM O (AC.mapUpdate E9 2 (kvs:=Bw ts (3*t+0)) (x:=(T.1,T.2.1)) (y:=t) (AT O) O O O underlying71 O (DQ hc0 Z _ Z) (Fy Z Z) ?_))))))
    have hor1:BV ts (3*t+0+1)=true:=H6 Z hor0 (by rw [<-hT];exact hsn0)
    rw [show A9 (Bw ts (3*t+0)) (T.1,T.2.1) t=Bw ts (3*t+1) from by rw [hT];exact H0 Z]
    refine AC.nil (OkQ.subF (sL [4,17,18,19,6,5,24,8] O) (OkQ.in_normal (OkQ.then_ (AE.region (AK (AY (c:=(1:Int)) O O (by decide)) O (AM O (AC.nil (OkQ.subF (sL [4,17,18,19,6,5,24,8] O) (OkQ.again (FF.step (q4 ?_)))))))))))
    refine AK (Ad (c:=true) O O (by decide)) O (AC.nil (q1 (AE.cond_true O (AE.skip (q1 (AE.block (q4 (AM O (AI O (q6 (sL [4,17,18,19,6,5,24,8,7] O) (Cu [(0,true),(1,true),(2,true),(3,true),(4,true),(5,true),(6,true),(7,true),(8,true),(9,false),(10,false)] sr ?_)))))))))))
    refine BU O (Av (v:=(pP b3 1)) O (AG (j:=1) O O underlying68 sizeOf3 O (by decide) O) (Bx 1 (vN T.2.1) BR O (BU O (Av O (AY (c:=(2:Int)) O O (by decide)) (Av O (Cb (c:=(2:Int)) O O (by decide) (by decide)) (Av (v:=(pP b3 2)) O (AG (j:=2) O O underlying68 sizeOf3 O (by decide) O) (Bx 1 (vN T.2.2) BR O (Av (v:=(aG (Bh (T.2.1,T.2.2)))) O (BY (zs:=Bh ((0,0):P2)) (vs:=Bh (T.2.1,T.2.2)) (pv:=[(0,(vN T.2.1)),(1,(vN T.2.2))]) zeroValue112 underlying112 sizeOf3 O (D4 T.2.1 T.2.2)) (OkE.imp O (al IZ O λb5=>OkE.back (sl sr) ?_))))))))))
    refine OkE.imp O (BP O sizeOf112 O (OkE.back (sl sr) (OkE.nil (OkQ.subF (sL [4,17,18,19,6,5,24,8] O) (q1 (q4 (AM O (BC 0 EM O (AK (v:=(Value.tuple #[(vN ((Ac (Bw ts (3*t+1)) (T.2.1,T.2.2)).getD 0)),(Value.bool ((Ac (Bw ts (3*t+1)) (T.2.1,T.2.2)).isSome))])) (Bj E9 3 (eV:=vN) (kvs:=Bw ts (3*t+1)) (x:=(T.2.1,T.2.2)) (z0:=0) (co:=true) O O underlying71 zeroValue3 O (DQ hc0 Z _ Z) (Fy Z Z)) O (AM O (AK (AX (v:=(vN ((Ac (Bw ts (3*t+1)) (T.2.1,T.2.2)).getD 0))) O O) O ?_)))))))))))
    refine AK (AX (v:=(Value.bool ((Ac (Bw ts (3*t+1)) (T.2.1,T.2.2)).isSome))) O O) O (AI O (AI O (q3 (sL [4,17,18,19,6,5,24,8,10] O) (AM O (AC.nil (OkQ.subF (sL [4,17,18,19,6,5,24,8,42] O) (OkQ.then_ ?_)))))))
    refine AE.cond O (λhc3=>?_) (λhc3=>?_)
    ·skip
     have hsy1:=hc3
     refine q4 (AM O (AI O (AI O (AC.nil (OkQ.subF (sL [4,17,18,19,6,5,24,8,2,3] O) (OkQ.then_ (AE.ret (OkQ.then_ret (OkQ.in_ret (OkQ.then_ret (OkQ.then_ret ?_)))))))))))
     exact OkQ.in_ret (OkQ.in_ret (OkQ.then_ret (OkQ.round1_ret (OkQ.in_ret (OkQ.then_ret (Bo O (AZ (v:=(Value.map (some b2))) O) (AZ (v:=(Value.bool false)) O) (λw hw=>(by rw [show (A_ N ts&&BV ts (3*ts.length))=false from by rw [hc0];exact MN (r:=1) Z hc1 (by rw [<-hT];exact hsy1)];exact K9 hw 3 O (DQ hc0 Z _ Z) (λh=>by cases h) O))))))))
    ·skip
     have hsn1:=hc3
     refine AE.skip (OkQ.then_ (AE.region (AM O (BC 0 EM O (AM O (AC.mapUpdate E9 3 (kvs:=Bw ts (3*t+1)) (x:=(T.2.1,T.2.2)) (y:=t) (AT O) O O O underlying71 O (DQ hc0 Z _ Z) (Fy Z Z) ?_))))))
     have hor2:BV ts (3*t+1+1)=true:=H6 Z hor1 (by rw [<-hT];exact hsn1)
     rw [show A9 (Bw ts (3*t+1)) (T.2.1,T.2.2) t=Bw ts (3*t+2) from by rw [hT];exact H0 Z]
     refine AC.nil (OkQ.subF (sL [4,17,18,19,6,5,24,8] O) (OkQ.in_normal (OkQ.then_ (AE.region (AK (AY (c:=(2:Int)) O O (by decide)) O (AM O (AC.nil (OkQ.subF (sL [4,17,18,19,6,5,24,8] O) (OkQ.again (FF.step (q4 ?_)))))))))))
     refine AK (Ad (c:=true) O O (by decide)) O (AC.nil (q1 (AE.cond_true O (AE.skip (q1 (AE.block (q4 (AM O (AI O (q6 (sL [4,17,18,19,6,5,24,8,7] O) (Cu [(0,true),(1,true),(2,true),(3,true),(4,true),(5,true),(6,true),(7,true),(8,true),(9,false),(10,false)] sr ?_)))))))))))
     refine BU O (Av (v:=(pP b3 2)) O (AG (j:=2) O O underlying68 sizeOf3 O (by decide) O) (Bx 2 (vN T.2.2) BR O (BU O (Av O (AY (c:=(3:Int)) O O (by decide)) (Av O (Cb (c:=(0:Int)) O O (by decide) (by decide)) (Av (v:=(pP b3 0)) O (AG (j:=0) O O underlying68 sizeOf3 O (by decide) O) (Bx 2 (vN T.1) BR O (Av (v:=(aG (Bh (T.2.2,T.1)))) O (BY (zs:=Bh ((0,0):P2)) (vs:=Bh (T.2.2,T.1)) (pv:=[(0,(vN T.2.2)),(1,(vN T.1))]) zeroValue112 underlying112 sizeOf3 O (D4 T.2.2 T.1)) (OkE.imp O (al IZ O λb6=>OkE.back (sl sr) ?_))))))))))
     refine OkE.imp O (BP O sizeOf112 O (OkE.back (sl sr) (OkE.nil (OkQ.subF (sL [4,17,18,19,6,5,24,8] O) (q1 (q4 (AM O (BC 0 EM O (AK (v:=(Value.tuple #[(vN ((Ac (Bw ts (3*t+2)) (T.2.2,T.1)).getD 0)),(Value.bool ((Ac (Bw ts (3*t+2)) (T.2.2,T.1)).isSome))])) (Bj E9 4 (eV:=vN) (kvs:=Bw ts (3*t+2)) (x:=(T.2.2,T.1)) (z0:=0) (co:=true) O O underlying71 zeroValue3 O (DQ hc0 Z _ Z) (Fy Z Z)) O (AM O (AK (AX (v:=(vN ((Ac (Bw ts (3*t+2)) (T.2.2,T.1)).getD 0))) O O) O ?_)))))))))))
     refine AK (AX (v:=(Value.bool ((Ac (Bw ts (3*t+2)) (T.2.2,T.1)).isSome))) O O) O (AI O (AI O (q3 (sL [4,17,18,19,6,5,24,8,10] O) (AM O (AC.nil (OkQ.subF (sL [4,17,18,19,6,5,24,8,42] O) (OkQ.then_ ?_)))))))
     refine AE.cond O (λhc3=>?_) (λhc3=>?_)
     ·skip
      have hsy2:=hc3
      refine q4 (AM O (AI O (AI O (AC.nil (OkQ.subF (sL [4,17,18,19,6,5,24,8,2,3] O) (OkQ.then_ (AE.ret (OkQ.then_ret (OkQ.in_ret (OkQ.then_ret (OkQ.then_ret ?_)))))))))))
      exact OkQ.in_ret (OkQ.in_ret (OkQ.then_ret (OkQ.round1_ret (OkQ.in_ret (OkQ.then_ret (Bo O (AZ (v:=(Value.map (some b2))) O) (AZ (v:=(Value.bool false)) O) (λw hw=>(by rw [show (A_ N ts&&BV ts (3*ts.length))=false from by rw [hc0];exact MN (r:=2) Z hc1 (by rw [<-hT];exact hsy2)];exact K9 hw 4 O (DQ hc0 Z _ Z) (λh=>by cases h) O))))))))
     ·skip
      have hsn2:=hc3
      refine AE.skip (OkQ.then_ (AE.region (AM O (BC 0 EM O (AM O (AC.mapUpdate E9 4 (kvs:=Bw ts (3*t+2)) (x:=(T.2.2,T.1)) (y:=t) (AT O) O O O underlying71 O (DQ hc0 Z _ Z) (Fy Z Z) ?_))))))
      have hor3:BV ts (3*t+2+1)=true:=H6 Z hor2 (by rw [<-hT];exact hsn2)
      rw [show A9 (Bw ts (3*t+2)) (T.2.2,T.1) t=Bw ts (3*t+3) from by rw [hT];exact H0 Z]
      refine AC.nil (OkQ.subF (sL [4,17,18,19,6,5,24,8] O) (OkQ.in_normal (OkQ.then_ (AE.region (AK (AY (c:=(3:Int)) O O (by decide)) O (AM O (AC.nil (OkQ.subF (sL [4,17,18,19,6,5,24,8] O) (OkQ.again (FF.step (q4 ?_)))))))))))
      refine AK (Ad (c:=false) O O (by decide)) O (AC.nil (q1 (AE.cond_false O (AE.exit (OkQ.then_exit (OkQ.then_exit (OkQ.in_exit (OkQ.in_normal (OkQ.then_ (AE.region (AK (AY (c:=((t+1:Nat):Int)) O O (AU (a:=t) (b:=1) Z)) O ?_)))))))))))
      refine AM O (AC.nil (OkQ.subF (sL [4,17,18,19,6,5,24,8] O) ?_))
      rw [show 3*t+3=3*(t+1)+0 by omega]
      exact OkQ.round1 (t+1) (⟨Z,hor3⟩) Z (sF O) (sl (sl (sl (sl sr))))
  ·replace hc1:=of_decide_eq_false hc1
   exact AE.exit (OkQ.then_exit (OkQ.round1_exit (OkQ.in_exit (q2 (AM O (AI O (AI O (AC.nil (OkQ.subF (sL [4,17,18,19,2,3] O) (OkQ.then_ (AE.ret (Bo O (AZ (v:=(Value.map (some b2))) O) (AZ (v:=(Value.bool true)) O) (λw hw=>(by rw [show (A_ N ts&&BV ts (3*ts.length))=true from by rw [hc0];rw [show t=ts.length by omega] at hor0;exact hor0];exact K9 hw 0 O (DQ hc0 Z _ Z) (λ_=>by rw [show t=ts.length by omega];rfl) O))))))))))))))
theorem Pk {N:Nat} {ts ss:List T3} (x:RM N ts ss) (hp:N<=1000000) (htl:ts.length<=1000000) (w:World) {S:Nat->Prop} (hx:Ro S w x):Calls prog 6 #[(aG (BN x))] w (Ak w (Value.bool (A_ N ts&&BV ts (3*ts.length)))):=by
 have lx:=CV (W:=w) hx
 refine Ag (args:=[(aG (BN x))]) (L:=[AJ x.a.p (x.cs),AJ x.b.p (rowsL Am ts),AJ x.c.p (x.ds)]) func6 O O (AV O) (C4 hx Ao) (AE.subF (sL [0] O) (q4 (B0 (cs:=BN x) O λb1=>AI O (q3 (sL [1,2] O) (BC 0 CF O (AC.callR (S:=S) (α:=SX ts (A_ N ts&&BV ts (3*ts.length))) (args:=[(aG (BN x))]) call15 (λw hw=>Dm x hp htl w (Bc hw 1 O lx)) O O O λsx lsx=>AM O (AK (AX (v:=(Value.map (some sx.b))) O O) O (AK (AX (v:=(Value.bool (A_ N ts&&BV ts (3*ts.length)))) O O) O (AI O ?_)))))))))
 exact AI O (q3 (sL [2,4] O) (AM O (AI O (AC.nil (OkQ.subF (sL [2] O) (OkQ.then_ (AE.ret (AS O (AZ (v:=(Value.bool (A_ N ts&&BV ts (3*ts.length)))) O) (λw hw=>⟨rfl,hw.out⟩)))))))))
end
end Go.Proofs.YtpgncndhhhllfaaGreat
