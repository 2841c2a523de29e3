import Derived.Test.YtpgncndhhhllfaaGreatPart03
import Derived.Test.YtpgncndhhhllfaaGreatPart27
namespace Go.Proofs.YtpgncndhhhllfaaGreat
open Go Go.RowKit Go.Proofs.Tryz
set_option linter.unusedVariables false
set_option linter.unusedSimpArgs false
section
set_option maxRecDepth 100000
theorem HI:JO prog 158 Ee O3 where
 law:=.of_law (deep_law_laid T0 (m:=2) (by decide) (by decide +kernel) (by kernel_rfl) (by kernel_rfl))
 key:=λa h=>Lo underlying158 ⟨rfl,rfl⟩ ⟨rfl,rfl⟩ (by decide +kernel) underlying3 (by kernel_rfl) (by kernel_rfl) (by kernel_rfl) (by decide +kernel) (HN h.1) (HN h.2)
 inj:=λa b h=>KF h
theorem Kw (x0:Tq3):Instr.fill (λi=>some (i*3,3)) ((Array.range (1*3)).map ((Value.agg (AZ ((0,0,0):Tq3)).toArray).cells[·%(Value.agg (AZ ((0,0,0):Tq3)).toArray).cells.size]!)) [(0,.agg (AZ x0).toArray)]=some (AZ x0).toArray:=by kernel_rfl
set_option maxHeartbeats 4000000 in
theorem Y6 (ts:List T3) (x:RX (rowsL AZ ts) ts.length) (pp:Option Addr) (N pc:Nat) (hn:BI N ts=true) (hN:N<=4611686018427387904) (hl:ts.length<=1000000000) (w:World) {S:Nat->Prop} (hx:Ro S w x):Calls prog 53 #[(Value.slice pp N pc),(Value.slice x.p ts.length x.c)] w (Mz eF (cd (T:=70) (z:=3) (cs:=rowsL AZ (A6 ts)) (n:=(A6 ts).length)) S w):=by
 have lx:=Dk (W:=w) hx
 refine An (args:=[(Value.slice pp N pc),(Value.slice x.p ts.length x.c)]) (L:=[AK x.p (rowsL AZ ts)]) func53 O O (Ad O) (E3 hx BA) (AE.subF (sL [0,1] O) (q4 (AI O (AC.nil (q1 (q4 (AM O (AM O (AJ (v:=(vN N)) (AF O underlying27) O (DS (args:=[(Value.slice x.p ts.length x.c),(vN N)]) (v:=(Value.bool true)) call52 (λw hw=>(by have h9:=R_ N ts x Z w (Br hw 0 O lx);rw [hn] at h9;exact h9)) O (AJ (Bj (c:=false) O O) O ?_)))))))))))
 refine AC.nil (OkQ.subF (sL [1,4,18] O) (OkQ.then_ (AE.cond_false O (AE.skip (q2 (AC.makeMap Ee vN (AP O) O λb1=>AI O (q6 (sL [1,4,5] O) (q4 (AM O (AJ (v:=(vN ts.length)) (AF O underlying28) O ?_))))))))))
 refine AM O (AC.nil (OkQ.then_ (AE.block ?_)))
 refine AE.lp1 (tg λ(t:Nat)=>t<=ts.length) (tg λ(t:Nat)=>[(1,(Value.slice x.p ts.length x.c)),(4,(Value.slice none 0 0)),(5,(Value.map (some b1))),(20,(Value.slice x.p ts.length x.c)),(21,(vN ts.length)),(22,(vN t))]) (tg λ(t:Nat)=>[Bu b1 Ee vN (Co ts (3*t+0)),AK x.p (rowsL AZ ts)]) (tg λ(t:Nat)=>ts.length-t) 0 (Nat.zero_le _) (sF O) sr (λt hJ=>?_)
 have ht:=hJ
 refine q4 (AJ (Ac (c:=(decide (t<ts.length))) O O (CD (a:=t) (b:=ts.length))) O (AC.nil (q1 ?_)))
 refine AE.cond O (λhc1=>?_) (λhc1=>?_)
 ·replace hc1:=of_decide_eq_true hc1
  obtain ⟨T,hT⟩:∃q,q=ts.getD t (0,0,0):=⟨_,rfl⟩
  obtain ⟨g1,g2,g3⟩:=Cy (CW hn hc1)
  rw [<-hT] at g1 g2 g3
  refine AE.skip (q1 (AE.block (q4 (AJ (v:=(pP (pB x.p) (pO x.p+t*3))) (AG (j:=t) O O x.ok underlying28 sizeOf68 O Z) O (AJ (v:=(aG (AZ (ts.getD t ((0,0,0):Tq3))))) (Ak (vs:=AZ (ts.getD t ((0,0,0):Tq3))) (i:=1) O O (Aw.ne x.ok Z) Dj (BD Aa _ _ _ Z) (Aa _)) O (AC.retell (k:=25) (u:=(aG (AZ T))) O (by rw [hT]) (al O7 O λb2=>BN O sizeOf68 O (q3 (sL [1,4,5,20,21,22,7] O) (AM O (AC.nil ?_))))))))))
  refine OkQ.then_ (AE.block (AE.unroll 4 (Fr.step (q4 (AJ (Ac (c:=true) O O (by decide)) O (AC.nil (q1 (AE.cond_true O (AE.skip (q1 (AE.block ?_)))))))))))
  refine q4 (AM O (AI O (q6 (sL [1,4,5,20,21,22,7,26,8] O) (Ck [(0,true),(1,true),(2,true),(3,true),(4,true),(5,true),(6,true),(7,true),(8,true),(9,true)] sr (BT O (Ao (v:=(pP b2 0)) O (AD (j:=0) O O underlying68 sizeOf3 O (by decide) O) (Bk 0 (vN T.1) BY O (BT O (Ao O (AQ (c:=(1:Int)) O O (by decide)) (Ao O (Bg (c:=(1:Int)) O O (by decide) (by decide)) (Ao (v:=(pP b2 1)) O (AD (j:=1) O O underlying68 sizeOf3 O (by decide) O) ?_)))))))))))
  refine Bk 0 (vN T.2.1) BY O (pS' O (pS' O (OkE.nil (OkQ.subF (sL [1,4,5,20,21,22,7,26,9,10] O) (OkQ.then_ ?_)))))
  obtain ⟨vq1,hvq1⟩:∃q,q=(Ae (Co ts (3*t+0)) ((min T.1 T.2.1,max T.1 T.2.1):P2)).getD 0:=⟨_,rfl⟩
  refine cV [(0,true),(1,true),(2,true),(3,true),(4,true),(5,true),(6,true),(7,true),(8,true),(9,true),(10,false),(11,true)] 12 [] (d7 1 (x:=((min T.1 T.2.1,max T.1 T.2.1):P2)) (v:=vq1) O O) (List.nil_sublist _) (by kernel_rfl) (λ_ _ d _ _ h=>by cases d<;>exact h) (vM O O O (vM O O O (vM O O O (vE O (GO (c:=((min T.1 T.2.1:Nat):Int)) O O (by split<;>omega)) O (vM O O O (vM O O O (vE O (FL (c:=((max T.1 T.2.1:Nat):Int)) O O (by split<;>omega)) O (vE (v:=(aG ([(vN (min T.1 T.2.1)),(vN (max T.1 T.2.1))]))) O (AY (zs:=Ap ((0,0):P2)) (vs:=[(vN (min T.1 T.2.1)),(vN (max T.1 T.2.1))]) (pv:=[(0,(vN (min T.1 T.2.1))),(1,(vN (max T.1 T.2.1)))]) (places:=[(0,1),(1,1)]) zeroValue158 underlying158 (λw=>by simp [sizeOf3]) O O) O (vE (v:=(vN vq1)) O (HW HI 1 (kvs:=Co ts (3*t+0)) (x:=((min T.1 T.2.1,max T.1 T.2.1):P2)) (z0:=0) O O underlying156 zeroValue3 O (FD hn hN _ Z) (Dy Z Z) hvq1) O ?_)))))))))
  have hmq:=Ms (ts:=ts) (3*t+0) ((min T.1 T.2.1,max T.1 T.2.1):P2)
  refine vE O (AQ (c:=((vq1+1:Nat):Int)) O O (AN (a:=vq1) (b:=1) Z)) O (Cj.imp O (AC.mapEntry HI 1 (kvs:=Co ts (3*t+0)) (x:=((min T.1 T.2.1,max T.1 T.2.1):P2)) (z0:=0) (v:=vq1) O O underlying156 zeroValue3 O (FD hn hN _ Z) (Dy Z Z) hvq1 O (Cj.backW (Z5 1 O O) (vE O (Ab (v:=(vN (C8 (Co ts (3*t+0)) ((min T.1 T.2.1,max T.1 T.2.1):P2)))) O O) O (Cj.cut O (AC.entryStore 1 (kvs:=Co ts (3*t+0)) (x:=((min T.1 T.2.1,max T.1 T.2.1):P2)) (u:=vq1) (y:=vq1+1) O O O O ?_))))))
  rw [show BG (Co ts (3*t+0)) ((min T.1 T.2.1,max T.1 T.2.1):P2) (vq1+1)=Co ts (3*t+1) from by rw [hvq1,hT];exact (IZ (ts:=ts) (t:=t) (i:=0) Z).symm]
  refine OkE.back (List.nil_sublist _) (OkE.nil (OkQ.subF (sL [1,4,5,20,21,22,7,26] O) (OkQ.in_normal (OkQ.then_ (AE.region (AJ (AQ (c:=(1:Int)) O O (by decide)) O (AM O (AC.nil (OkQ.subF (sL [1,4,5,20,21,22,7,26] O) (OkQ.again (Fr.step ?_)))))))))))
  refine q4 (AJ (Ac (c:=true) O O (by decide)) O (AC.nil (q1 (AE.cond_true O (AE.skip (q1 (AE.block (q4 (AM O (AI O (q6 (sL [1,4,5,20,21,22,7,26,8] O) ?_)))))))))))
  refine Ck [(0,true),(1,true),(2,true),(3,true),(4,true),(5,true),(6,true),(7,true),(8,true),(9,true)] sr (BT O (Ao (v:=(pP b2 1)) O (AD (j:=1) O O underlying68 sizeOf3 O (by decide) O) (Bk 0 (vN T.2.1) BY O (BT O (Ao O (AQ (c:=(2:Int)) O O (by decide)) (Ao O (Bg (c:=(2:Int)) O O (by decide) (by decide)) (Ao (v:=(pP b2 2)) O (AD (j:=2) O O underlying68 sizeOf3 O (by decide) O) (Bk 0 (vN T.2.2) BY O (pS' O (pS' O (OkE.nil ?_)))))))))))
  refine OkQ.subF (sL [1,4,5,20,21,22,7,26,9,10] O) (OkQ.then_ ?_)
  obtain ⟨vq2,hvq2⟩:∃q,q=(Ae (Co ts (3*t+1)) ((min T.2.1 T.2.2,max T.2.1 T.2.2):P2)).getD 0:=⟨_,rfl⟩
  refine cV [(0,true),(1,true),(2,true),(3,true),(4,true),(5,true),(6,true),(7,true),(8,true),(9,true),(10,false),(11,true)] 12 [] (d7 1 (x:=((min T.2.1 T.2.2,max T.2.1 T.2.2):P2)) (v:=vq2) O O) (List.nil_sublist _) (by kernel_rfl) (λ_ _ d _ _ h=>by cases d<;>exact h) (vM O O O (vM O O O (vM O O O (vE O (GO (c:=((min T.2.1 T.2.2:Nat):Int)) O O (by split<;>omega)) O (vM O O O (vM O O O (vE O (FL (c:=((max T.2.1 T.2.2:Nat):Int)) O O (by split<;>omega)) O (vE (v:=(aG ([(vN (min T.2.1 T.2.2)),(vN (max T.2.1 T.2.2))]))) O (AY (zs:=Ap ((0,0):P2)) (vs:=[(vN (min T.2.1 T.2.2)),(vN (max T.2.1 T.2.2))]) (pv:=[(0,(vN (min T.2.1 T.2.2))),(1,(vN (max T.2.1 T.2.2)))]) (places:=[(0,1),(1,1)]) zeroValue158 underlying158 (λw=>by simp [sizeOf3]) O O) O (vE (v:=(vN vq2)) O (HW HI 1 (kvs:=Co ts (3*t+1)) (x:=((min T.2.1 T.2.2,max T.2.1 T.2.2):P2)) (z0:=0) O O underlying156 zeroValue3 O (FD hn hN _ Z) (Dy Z Z) hvq2) O ?_)))))))))
  have hmq:=Ms (ts:=ts) (3*t+1) ((min T.2.1 T.2.2,max T.2.1 T.2.2):P2)
  refine vE O (AQ (c:=((vq2+1:Nat):Int)) O O (AN (a:=vq2) (b:=1) Z)) O (Cj.imp O (AC.mapEntry HI 1 (kvs:=Co ts (3*t+1)) (x:=((min T.2.1 T.2.2,max T.2.1 T.2.2):P2)) (z0:=0) (v:=vq2) O O underlying156 zeroValue3 O (FD hn hN _ Z) (Dy Z Z) hvq2 O (Cj.backW (Z5 1 O O) (vE O (Ab (v:=(vN (C8 (Co ts (3*t+1)) ((min T.2.1 T.2.2,max T.2.1 T.2.2):P2)))) O O) O (Cj.cut O (AC.entryStore 1 (kvs:=Co ts (3*t+1)) (x:=((min T.2.1 T.2.2,max T.2.1 T.2.2):P2)) (u:=vq2) (y:=vq2+1) O O O O ?_))))))
  rw [show BG (Co ts (3*t+1)) ((min T.2.1 T.2.2,max T.2.1 T.2.2):P2) (vq2+1)=Co ts (3*t+2) from by rw [hvq2,hT];exact (IZ (ts:=ts) (t:=t) (i:=1) Z).symm]
  refine OkE.back (List.nil_sublist _) (OkE.nil (OkQ.subF (sL [1,4,5,20,21,22,7,26] O) (OkQ.in_normal (OkQ.then_ (AE.region (AJ (AQ (c:=(2:Int)) O O (by decide)) O (AM O (AC.nil (OkQ.subF (sL [1,4,5,20,21,22,7,26] O) (OkQ.again (Fr.step ?_)))))))))))
  refine q4 (AJ (Ac (c:=true) O O (by decide)) O (AC.nil (q1 (AE.cond_true O (AE.skip (q1 (AE.block (q4 (AM O (AI O (q6 (sL [1,4,5,20,21,22,7,26,8] O) ?_)))))))))))
  refine Ck [(0,true),(1,true),(2,true),(3,true),(4,true),(5,true),(6,true),(7,true),(8,true),(9,true)] sr (BT O (Ao (v:=(pP b2 2)) O (AD (j:=2) O O underlying68 sizeOf3 O (by decide) O) (Bk 0 (vN T.2.2) BY O (BT O (Ao O (AQ (c:=(3:Int)) O O (by decide)) (Ao O (Bg (c:=(0:Int)) O O (by decide) (by decide)) (Ao (v:=(pP b2 0)) O (AD (j:=0) O O underlying68 sizeOf3 O (by decide) O) (Bk 0 (vN T.1) BY O (pS' O (pS' O (OkE.nil ?_)))))))))))
  refine OkQ.subF (sL [1,4,5,20,21,22,7,26,9,10] O) (OkQ.then_ ?_)
  obtain ⟨vq3,hvq3⟩:∃q,q=(Ae (Co ts (3*t+2)) ((min T.2.2 T.1,max T.2.2 T.1):P2)).getD 0:=⟨_,rfl⟩
  refine cV [(0,true),(1,true),(2,true),(3,true),(4,true),(5,true),(6,true),(7,true),(8,true),(9,true),(10,false),(11,true)] 12 [] (d7 1 (x:=((min T.2.2 T.1,max T.2.2 T.1):P2)) (v:=vq3) O O) (List.nil_sublist _) (by kernel_rfl) (λ_ _ d _ _ h=>by cases d<;>exact h) (vM O O O (vM O O O (vM O O O (vE O (GO (c:=((min T.2.2 T.1:Nat):Int)) O O (by split<;>omega)) O (vM O O O (vM O O O (vE O (FL (c:=((max T.2.2 T.1:Nat):Int)) O O (by split<;>omega)) O (vE (v:=(aG ([(vN (min T.2.2 T.1)),(vN (max T.2.2 T.1))]))) O (AY (zs:=Ap ((0,0):P2)) (vs:=[(vN (min T.2.2 T.1)),(vN (max T.2.2 T.1))]) (pv:=[(0,(vN (min T.2.2 T.1))),(1,(vN (max T.2.2 T.1)))]) (places:=[(0,1),(1,1)]) zeroValue158 underlying158 (λw=>by simp [sizeOf3]) O O) O (vE (v:=(vN vq3)) O (HW HI 1 (kvs:=Co ts (3*t+2)) (x:=((min T.2.2 T.1,max T.2.2 T.1):P2)) (z0:=0) O O underlying156 zeroValue3 O (FD hn hN _ Z) (Dy Z Z) hvq3) O ?_)))))))))
  have hmq:=Ms (ts:=ts) (3*t+2) ((min T.2.2 T.1,max T.2.2 T.1):P2)
  refine vE O (AQ (c:=((vq3+1:Nat):Int)) O O (AN (a:=vq3) (b:=1) Z)) O (Cj.imp O (AC.mapEntry HI 1 (kvs:=Co ts (3*t+2)) (x:=((min T.2.2 T.1,max T.2.2 T.1):P2)) (z0:=0) (v:=vq3) O O underlying156 zeroValue3 O (FD hn hN _ Z) (Dy Z Z) hvq3 O (Cj.backW (Z5 1 O O) (vE O (Ab (v:=(vN (C8 (Co ts (3*t+2)) ((min T.2.2 T.1,max T.2.2 T.1):P2)))) O O) O (Cj.cut O (AC.entryStore 1 (kvs:=Co ts (3*t+2)) (x:=((min T.2.2 T.1,max T.2.2 T.1):P2)) (u:=vq3) (y:=vq3+1) O O O O ?_))))))
  rw [show BG (Co ts (3*t+2)) ((min T.2.2 T.1,max T.2.2 T.1):P2) (vq3+1)=Co ts (3*t+3) from by rw [hvq3,hT];exact (IZ (ts:=ts) (t:=t) (i:=2) Z).symm]
  refine OkE.back (List.nil_sublist _) (OkE.nil (OkQ.subF (sL [1,4,5,20,21,22,7,26] O) (OkQ.in_normal (OkQ.then_ (AE.region (AJ (AQ (c:=(3:Int)) O O (by decide)) O (AM O (AC.nil (OkQ.subF (sL [1,4,5,20,21,22,7,26] O) (OkQ.again (Fr.step ?_)))))))))))
  refine q4 (AJ (Ac (c:=false) O O (by decide)) O (AC.nil (q1 (AE.cond_false O (AE.exit (OkQ.then_exit (OkQ.then_exit (OkQ.in_exit (OkQ.in_normal (OkQ.then_ (AE.region ?_)))))))))))
  refine AJ (AQ (c:=((t+1:Nat):Int)) O O (AN (a:=t) (b:=1) Z)) O (AM O (AC.nil (OkQ.subF (sL [1,4,5,20,21,22,7,26] O) ?_)))
  rw [show 3*t+3=3*(t+1)+0 by omega]
  exact OkQ.round1 (t+1) Z Z (sF O) (sl sr)
 ·replace hc1:=of_decide_eq_false hc1
  have htl:t=ts.length:=by omega
  refine AE.exit (OkQ.then_exit (OkQ.round1_exit (OkQ.in_exit (q2 (AI O (AC.nilRow 70 3 (AC.nil (q1 (q4 (AM O ?_))))))))))
  rw [show Co ts (3*t+0)=(Co ts (3*ts.length)) by rw [htl,Nat.add_zero]]
  refine cX (S:=S) (cs:=rowsL B8 (Bd ts)) (k:=(Bd ts).length) (args:=[(Value.slice x.p ts.length x.c)]) call63 (λw hw=>Un ts x N hn hN hl w (Br hw 2 O lx)) O O O λo lo=>AJ (v:=(vN ((Bd ts).length))) (AF O underlying125) O (AM O (AC.nil (OkQ.subF (sL [1,4,5,20,21,22,11,52,53,54] O) (OkQ.then_ (AE.block ?_)))))
  refine AE.lp4 (tg λ(i:Nat) (p1:Option Addr) (c1:Nat) (out:List T3)=>i<=(Bd ts).length/\OwnOk p1 out.length c1/\out=Hi ts i) (tg λ(i:Nat) (p1:Option Addr) (c1:Nat) (out:List T3)=>[(4,(Value.slice none 0 0)),(5,(Value.map (some b1))),(52,(Value.slice o.p ((Bd ts).length) o.c)),(53,(vN ((Bd ts).length))),(54,(vN i)),(11,(Value.slice p1 out.length c1))]) (tg λ(i:Nat) (p1:Option Addr) (c1:Nat) (out:List T3)=>[AK o.p (rowsL B8 (Bd ts)),rowW p1 70 3 out.length c1 (rowsL AZ out),Bu b1 Ee vN (Co ts (3*ts.length)),AK x.p (rowsL AZ ts)]) (tg λ(i:Nat) (p1:Option Addr) (c1:Nat) (out:List T3)=>(Bd ts).length-i) 0 none 0 ([]:List T3) (⟨Nat.zero_le _,OwnOk.none,rfl⟩) (sF O) sr (λi p1 c1 out hJ=>?_)
  obtain ⟨hi,ho,hou⟩:=hJ
  have hol:=OJ (ts:=ts) i
  rw [<-hou] at hol
  refine q4 (AJ (Ac (c:=(decide (i<((Bd ts).length)))) O O (CD (a:=i) (b:=(Bd ts).length))) O (AC.nil (q1 ?_)))
  refine AE.cond O (λhc3=>?_) (λhc3=>?_)
  ·replace hc3:=of_decide_eq_true hc3
   have hel:=Jm (ts:=ts) (3*ts.length)
   rw [<-Jh] at hel
   have hmem:((Bd ts).getD i (⟨0,0,0,0⟩:E4))∈Bd ts:=by rw [List.getD,List.getElem?_eq_getElem hc3];exact List.getElem_mem hc3
   obtain ⟨hea,heb⟩:=N_ hn hN _ hmem
   refine AE.skip (q1 (AE.block (q4 (AJ (v:=(pP (pB o.p) (pO o.p+i*4))) (AG (j:=i) O O o.ok underlying125 sizeOf159 O Z) O (AJ (v:=(aG (B8 ((Bd ts).getD i (⟨0,0,0,0⟩:E4))))) (Ak (vs:=B8 ((Bd ts).getD i (⟨0,0,0,0⟩:E4))) (i:=0) O O (Aw.ne o.ok Z) Oy (BD EG _ _ _ Z) (EG _)) O (al Nt O λb2=>BN O sizeOf159 O (q3 (sL [4,5,52,53,54,11,13] O) (AM O (AJ (v:=(pP b2 0)) (AB O underlying159 O sizeOf3 O) O (BE 0 (vN (((Bd ts).getD i (⟨0,0,0,0⟩:E4)).a)) BY O ?_))))))))))
   refine AJ (v:=(pP b2 1)) (AB O underlying159 O sizeOf3 O) O (BE 0 (vN (((Bd ts).getD i (⟨0,0,0,0⟩:E4)).b)) BY O (AJ (v:=(aG ([(vN (((Bd ts).getD i (⟨0,0,0,0⟩:E4)).a)),(vN (((Bd ts).getD i (⟨0,0,0,0⟩:E4)).b))]))) (AY (zs:=Ap ((0,0):P2)) (vs:=[(vN (((Bd ts).getD i (⟨0,0,0,0⟩:E4)).a)),(vN (((Bd ts).getD i (⟨0,0,0,0⟩:E4)).b))]) (pv:=[(0,(vN (((Bd ts).getD i (⟨0,0,0,0⟩:E4)).a))),(1,(vN (((Bd ts).getD i (⟨0,0,0,0⟩:E4)).b)))]) (places:=[(0,1),(1,1)]) zeroValue158 underlying158 (λw=>by simp [sizeOf3]) O O) O (AJ (v:=(vN ((Ae (Co ts (3*ts.length)) ((((Bd ts).getD i (⟨0,0,0,0⟩:E4)).a,((Bd ts).getD i (⟨0,0,0,0⟩:E4)).b):P2)).getD 0))) (Bo HI 3 (eV:=vN) (kvs:=(Co ts (3*ts.length))) (x:=((((Bd ts).getD i (⟨0,0,0,0⟩:E4)).a,((Bd ts).getD i (⟨0,0,0,0⟩:E4)).b):P2)) (z0:=0) (co:=false) O O underlying156 zeroValue3 O (FD hn hN _ Z) (Gh Z Z)) O (AJ (BQ (c:=(decide (((Ae (Co ts (3*ts.length)) ((((Bd ts).getD i (⟨0,0,0,0⟩:E4)).a,((Bd ts).getD i (⟨0,0,0,0⟩:E4)).b):P2)).getD 0)=1))) O O (JC (a:=(Ae (Co ts (3*ts.length)) ((((Bd ts).getD i (⟨0,0,0,0⟩:E4)).a,((Bd ts).getD i (⟨0,0,0,0⟩:E4)).b):P2)).getD 0) (b:=1))) O (AC.nil (OkQ.subF (sL [4,5,52,53,54,11,13,65] O) (OkQ.then_ ?_)))))))
   refine AE.cond O (λhc4=>?_) (λhc4=>?_)
   ·replace hc4:=of_decide_eq_true hc4
    refine AE.region (AM O (AJ (v:=(pP b2 0)) (AB O underlying159 O sizeOf3 O) O (BE 0 (vN (((Bd ts).getD i (⟨0,0,0,0⟩:E4)).a)) BY O (AJ (v:=(pP b2 1)) (AB O underlying159 O sizeOf3 O) O (BE 0 (vN (((Bd ts).getD i (⟨0,0,0,0⟩:E4)).b)) BY O (AJ (v:=(aG ([(vN (((Bd ts).getD i (⟨0,0,0,0⟩:E4)).a)),(vN (((Bd ts).getD i (⟨0,0,0,0⟩:E4)).b)),(vI 0)]))) (AY (zs:=AZ ((0,0,0):Tq3)) (vs:=[(vN (((Bd ts).getD i (⟨0,0,0,0⟩:E4)).a)),(vN (((Bd ts).getD i (⟨0,0,0,0⟩:E4)).b)),(vI 0)]) (pv:=[(0,(vN (((Bd ts).getD i (⟨0,0,0,0⟩:E4)).a))),(1,(vN (((Bd ts).getD i (⟨0,0,0,0⟩:E4)).b)))]) (places:=[(0,1),(1,1),(2,1)]) zeroValue70 underlying70 (λw=>by simp [sizeOf3]) O O) O (AC.openV (V:=λb3=>(Value.slice (some ⟨b3,0,none⟩) 1 1)) (T:=70) (cs:=AZ (((Bd ts).getD i (⟨0,0,0,0⟩:E4)).a,((Bd ts).getD i (⟨0,0,0,0⟩:E4)).b,0)) (AP O) (Ai (z:=.agg (AZ ((0,0,0):Tq3)).toArray) (cs:=AZ (((Bd ts).getD i (⟨0,0,0,0⟩:E4)).a,((Bd ts).getD i (⟨0,0,0,0⟩:E4)).b,0)) (pv:=[(0,(aG ([(vN (((Bd ts).getD i (⟨0,0,0,0⟩:E4)).a)),(vN (((Bd ts).getD i (⟨0,0,0,0⟩:E4)).b)),(vI 0)])))]) underlying29 sizeOf70 zeroValue70 (by decide) (by decide) O (Kw (((Bd ts).getD i (⟨0,0,0,0⟩:E4)).a,((Bd ts).getD i (⟨0,0,0,0⟩:E4)).b,0))) O (Ad O) λb3=>AC.appendAt 3 (j:=0) (cs2:=rowsL AZ (out++[(((Bd ts).getD i (⟨0,0,0,0⟩:E4)).a,((Bd ts).getD i (⟨0,0,0,0⟩:E4)).b,0)])) ar O ho (Al Aa _) O O O O O (by decide) (FE Z) Z (by rw [BJ];rfl) O λp_1 c_1 ho_1 hne_1=>AI O (AC.nil (OkQ.subF (sL [4,5,52,53,54,11,13] O) ?_)))))))))
    refine OkQ.in_normal (OkQ.then_ (AE.region (AJ (AQ (c:=((i+1:Nat):Int)) O O (AN (a:=i) (b:=1) Z)) O (AM O (AC.nil (OkQ.subF (sL [4,5,52,53,54,11,13] O) ?_))))))
    rw [show out.length+1=(out++[(((Bd ts).getD i (⟨0,0,0,0⟩:E4)).a,((Bd ts).getD i (⟨0,0,0,0⟩:E4)).b,0)]).length by simp]
    exact OkQ.round4 (i+1) p_1 c_1 (out++[(((Bd ts).getD i (⟨0,0,0,0⟩:E4)).a,((Bd ts).getD i (⟨0,0,0,0⟩:E4)).b,0)]) (⟨Z,(by simpa using ho_1),by rw [hou];exact (Uo Z hc4).symm⟩) Z (sF O) (sl (sl sr))
   ·replace hc4:=of_decide_eq_false hc4
    exact AE.skip (OkQ.in_normal (OkQ.then_ (AE.region (AJ (AQ (c:=((i+1:Nat):Int)) O O (AN (a:=i) (b:=1) Z)) O (AM O (AC.nil (OkQ.subF (sL [4,5,52,53,54,11,13] O) (OkQ.round4 (i+1) p1 c1 out (⟨Z,ho,by rw [hou];exact (Xh Z hc4).symm⟩) Z (sF O) (sl sr)))))))))
  ·replace hc3:=of_decide_eq_false hc3
   exact AE.exit (OkQ.then_exit (OkQ.round4_exit (OkQ.in_exit (q2 (AM O (ck' call71 (Ud p1 out.length c1 ho.row.le) O (AI O (AC.nil (OkQ.subF (sL [4,5,52,53,54,11] O) (OkQ.then_ (AE.ret (AV O (Ah (v:=(Value.slice p1 out.length out.length)) O) (λw hw=>(by rw [show A6 ts=out by rw [hou,show i=(Bd ts).length by omega];rfl];exact Y8 hw (OX.mk p1 c1 ho) (sl (sk (sl (sl sr)))) (RG.own O RG.nil) O))))))))))))))
end
section
set_option maxRecDepth 100000
theorem FY:JO prog 112 Ee O3:=Xe T0 (by decide +kernel) (by kernel_rfl) (by kernel_rfl) underlying112 underlying3 (by kernel_rfl) (by kernel_rfl) (by kernel_rfl)
theorem EW (x0 x1:Nat):Instr.fill (λi=>some (i*1,1)) (Ap ((0,0):P2)).toArray [(0,vN x0),(1,vN x1)]=some (Ap (x0,x1)).toArray:=by kernel_rfl
set_option maxHeartbeats 1000000 in
theorem Kh {ps:List Pt} {ts ss:List T3} (x:MX ps ts ss) (hp:ps.length<=1000000) (htl:ts.length<=1000000) (w:World) {S:Nat->Prop} (hx:Ro S w x):Calls prog 15 #[(aG (Bp x))] w (Am (SX ts (BI ps.length ts&&Bc ts (3*ts.length))) S w):=by
 have lx:=Dk (W:=w) hx
 refine An (args:=[(aG (Bp x))]) (L:=[AK x.a.p (rowsL Bf ps),AK x.b.p (rowsL AZ ts),AK x.c.p (rowsL AZ ss)]) func15 O O (Ad O) (E3 hx BA) (AE.subF (sL [0] O) (q4 (Ca (cs:=Bp x) O λb1=>AI O (AI O (q3 (sL [1,2,3] O) (AC.makeMap Ee vN (AP O) O λb2=>AI O (q6 (sL [1,2,3,4] O) (q4 (BF 1 DA O ?_)))))))))
 refine DS call35 (λw hw=>Jc x Z w (Br hw 2 O lx)) O (AJ (Bj (c:=(!(BI ps.length ts))) O O) O (AC.nil (OkQ.subF (sL [1,2,3,4,14] O) (OkQ.then_ ?_))))
 refine AE.cond O (λhc0=>?_) (λhc0=>?_)
 ·simp only [Bool.and_eq_true,Bool.or_eq_true,Bool.and_eq_false_iff,Bool.or_eq_false_iff,Bool.not_eq_true',Bool.not_eq_false',decide_eq_true_eq,decide_eq_false_iff_not] at hc0
  exact q4 (AM O (AI O (AI O (AC.nil (OkQ.subF (sL [1,2,3,4] O) (OkQ.then_ (AE.ret (OkQ.then_ret (CH O (Ah (v:=(Value.map (some b2))) O) (Ah (v:=(Value.bool false)) O) (λw hw=>(by rw [show (BI ps.length ts&&Bc ts (3*ts.length))=false from by rw [hc0];rfl];exact OO hw 0 O ⟨λp hp=>(by cases hp),List.Pairwise.nil⟩ (λh=>by cases h) O)))))))))))
 ·simp only [Bool.and_eq_true,Bool.or_eq_true,Bool.and_eq_false_iff,Bool.or_eq_false_iff,Bool.not_eq_true',Bool.not_eq_false',decide_eq_true_eq,decide_eq_false_iff_not] at hc0
  refine AE.skip (q1 (q4 (AJ (v:=(pP b1 1)) (AB O underlying31 O sizeOf28 O) O (BE 1 (Value.slice x.b.p ts.length x.b.c) Bl O (AJ (v:=(vN ts.length)) (AF O underlying28) O (AM O (AC.nil (OkQ.subF (sL [1,2,3,4,17,18,19] O) (OkQ.then_ (AE.block ?_))))))))))
  refine AE.lp1 (tg λ(t:Nat)=>t<=ts.length/\Bc ts (3*t+0)=true) (tg λ(t:Nat)=>[(4,(Value.map (some b2))),(17,(Value.slice x.b.p ts.length x.b.c)),(18,(vN ts.length)),(19,(vN t))]) (tg λ(t:Nat)=>[Bu b2 Ee vN (B4 ts (3*t+0)),Af b1 31 (Bp x),AK x.a.p (rowsL Bf ps),AK x.b.p (rowsL AZ ts),AK x.c.p (rowsL AZ ss)]) (tg λ(t:Nat)=>ts.length-t) 0 (⟨Nat.zero_le _,rfl⟩) (sF O) sr (λt hJ=>?_)
  obtain ⟨ht,hor0⟩:=hJ
  refine q4 (AJ (Ac (c:=(decide (t<ts.length))) O O (CD (a:=t) (b:=ts.length))) O (AC.nil (q1 ?_)))
  refine AE.cond O (λhc1=>?_) (λhc1=>?_)
  ·replace hc1:=of_decide_eq_true hc1
   obtain ⟨T,hT⟩:∃q,q=ts.getD t (0,0,0):=⟨_,rfl⟩
   obtain ⟨g1,g2,g3⟩:=Cy (CW hc0 hc1)
   rw [<-hT] at g1 g2 g3
   refine AE.skip (q1 (AE.block (q4 (AM O (AJ (v:=(pP (pB x.b.p) (pO x.b.p+t*3))) (AG (j:=t) O O x.b.ok underlying28 sizeOf68 O Z) O (AJ (v:=(aG (AZ (ts.getD t ((0,0,0):Tq3))))) (Ak (vs:=AZ (ts.getD t ((0,0,0):Tq3))) (i:=3) O O (Aw.ne x.b.ok Z) Dj (BD Aa _ _ _ Z) (Aa _)) O (AC.retell (k:=23) (u:=(aG (AZ T))) O (by rw [hT]) (al O7 O λb3=>AI O (BN O sizeOf68 O (q3 (sL [4,17,18,19,6,5] O) ?_))))))))))
   refine AM O (AC.nil (OkQ.then_ (AE.block (AE.unroll 4 (Fr.step (q4 (AJ (Ac (c:=true) O O (by decide)) O (AC.nil (q1 (AE.cond_true O (AE.skip ?_)))))))))))
   refine q1 (AE.block (q4 (AM O (AI O (q6 (sL [4,17,18,19,6,5,24,7] O) (Ck [(0,true),(1,true),(2,true),(3,true),(4,true),(5,true),(6,true),(7,true),(8,true),(9,false),(10,false)] sr (BT O (Ao (v:=(pP b3 0)) O (AD (j:=0) O O underlying68 sizeOf3 O (by decide) O) (Bk 0 (vN T.1) BY O (BT O (Ao O (AQ (c:=(1:Int)) O O (by decide)) ?_)))))))))))
   refine Ao O (Bg (c:=(1:Int)) O O (by decide) (by decide)) (Ao (v:=(pP b3 1)) O (AD (j:=1) O O underlying68 sizeOf3 O (by decide) O) (Bk 0 (vN T.2.1) BY O (Ao (v:=(aG (Ap (T.1,T.2.1)))) O (Ar (zs:=Ap ((0,0):P2)) (vs:=Ap (T.1,T.2.1)) (pv:=[(0,(vN T.1)),(1,(vN T.2.1))]) zeroValue112 underlying112 sizeOf3 O (EW T.1 T.2.1)) (OkE.imp O (al I4 O λb4=>OkE.back (sl sr) (OkE.imp O (BN O sizeOf112 O (OkE.back (sl sr) (OkE.nil (OkQ.subF (sL [4,17,18,19,6,5,24,8] O) ?_))))))))))
   refine q1 (q4 (AM O (BF 0 Eq O (AJ (v:=(Value.tuple #[(vN ((Ae (B4 ts (3*t+0)) (T.1,T.2.1)).getD 0)),(Value.bool ((Ae (B4 ts (3*t+0)) (T.1,T.2.1)).isSome))])) (Bo FY 2 (eV:=vN) (kvs:=B4 ts (3*t+0)) (x:=(T.1,T.2.1)) (z0:=0) (co:=true) O O underlying71 zeroValue3 O (Do hc0 Z _ Z) (Gh Z Z)) O (AM O (AJ (Ab (v:=(vN ((Ae (B4 ts (3*t+0)) (T.1,T.2.1)).getD 0))) O O) O (AJ (Ab (v:=(Value.bool ((Ae (B4 ts (3*t+0)) (T.1,T.2.1)).isSome))) O O) O (AI O (AI O (q3 (sL [4,17,18,19,6,5,24,8,10] O) (AM O ?_)))))))))))
   refine AC.nil (OkQ.subF (sL [4,17,18,19,6,5,24,8,42] O) (OkQ.then_ ?_))
   refine AE.cond O (λhc3=>?_) (λhc3=>?_)
   ·skip
    have hsy0:=hc3
    refine q4 (AM O (AI O (AI O (AC.nil (OkQ.subF (sL [4,17,18,19,6,5,24,8,2,3] O) (OkQ.then_ (AE.ret (OkQ.then_ret (OkQ.in_ret (OkQ.then_ret (OkQ.then_ret ?_)))))))))))
    exact OkQ.in_ret (OkQ.in_ret (OkQ.then_ret (OkQ.round1_ret (OkQ.in_ret (OkQ.then_ret (CH O (Ah (v:=(Value.map (some b2))) O) (Ah (v:=(Value.bool false)) O) (λw hw=>(by rw [show (BI ps.length ts&&Bc ts (3*ts.length))=false from by rw [hc0];exact NW (r:=0) Z hc1 (by rw [<-hT];exact hsy0)];exact OO hw 2 O (Do hc0 Z _ Z) (λh=>by cases h) O))))))))
   ·skip
    have hsn0:=hc3
    refine AE.skip (OkQ.then_ (AE.region (AM O (BF 0 Eq O (AM O (AC.mapUpdate FY 2 (kvs:=B4 ts (3*t+0)) (x:=(T.1,T.2.1)) (y:=t) (AP O) O O O underlying71 O (Do hc0 Z _ Z) (Gh Z Z) ?_))))))
    have hor1:Bc ts (3*t+0+1)=true:=IV Z hor0 (by rw [<-hT];exact hsn0)
    rw [show BG (B4 ts (3*t+0)) (T.1,T.2.1) t=B4 ts (3*t+1) from by rw [hT];exact Id Z]
    refine AC.nil (OkQ.subF (sL [4,17,18,19,6,5,24,8] O) (OkQ.in_normal (OkQ.then_ (AE.region (AJ (AQ (c:=(1:Int)) O O (by decide)) O (AM O (AC.nil (OkQ.subF (sL [4,17,18,19,6,5,24,8] O) (OkQ.again (Fr.step (q4 ?_)))))))))))
    refine AJ (Ac (c:=true) O O (by decide)) O (AC.nil (q1 (AE.cond_true O (AE.skip (q1 (AE.block (q4 (AM O (AI O (q6 (sL [4,17,18,19,6,5,24,8,7] O) (Ck [(0,true),(1,true),(2,true),(3,true),(4,true),(5,true),(6,true),(7,true),(8,true),(9,false),(10,false)] sr ?_)))))))))))
    refine BT O (Ao (v:=(pP b3 1)) O (AD (j:=1) O O underlying68 sizeOf3 O (by decide) O) (Bk 1 (vN T.2.1) BY O (BT O (Ao O (AQ (c:=(2:Int)) O O (by decide)) (Ao O (Bg (c:=(2:Int)) O O (by decide) (by decide)) (Ao (v:=(pP b3 2)) O (AD (j:=2) O O underlying68 sizeOf3 O (by decide) O) (Bk 1 (vN T.2.2) BY O (Ao (v:=(aG (Ap (T.2.1,T.2.2)))) O (Ar (zs:=Ap ((0,0):P2)) (vs:=Ap (T.2.1,T.2.2)) (pv:=[(0,(vN T.2.1)),(1,(vN T.2.2))]) zeroValue112 underlying112 sizeOf3 O (EW T.2.1 T.2.2)) (OkE.imp O (al I4 O λb5=>OkE.back (sl sr) ?_))))))))))
    refine OkE.imp O (BN O sizeOf112 O (OkE.back (sl sr) (OkE.nil (OkQ.subF (sL [4,17,18,19,6,5,24,8] O) (q1 (q4 (AM O (BF 0 Eq O (AJ (v:=(Value.tuple #[(vN ((Ae (B4 ts (3*t+1)) (T.2.1,T.2.2)).getD 0)),(Value.bool ((Ae (B4 ts (3*t+1)) (T.2.1,T.2.2)).isSome))])) (Bo FY 3 (eV:=vN) (kvs:=B4 ts (3*t+1)) (x:=(T.2.1,T.2.2)) (z0:=0) (co:=true) O O underlying71 zeroValue3 O (Do hc0 Z _ Z) (Gh Z Z)) O (AM O (AJ (Ab (v:=(vN ((Ae (B4 ts (3*t+1)) (T.2.1,T.2.2)).getD 0))) O O) O ?_)))))))))))
    refine AJ (Ab (v:=(Value.bool ((Ae (B4 ts (3*t+1)) (T.2.1,T.2.2)).isSome))) O O) O (AI O (AI O (q3 (sL [4,17,18,19,6,5,24,8,10] O) (AM O (AC.nil (OkQ.subF (sL [4,17,18,19,6,5,24,8,42] O) (OkQ.then_ ?_)))))))
    refine AE.cond O (λhc3=>?_) (λhc3=>?_)
    ·skip
     have hsy1:=hc3
     refine q4 (AM O (AI O (AI O (AC.nil (OkQ.subF (sL [4,17,18,19,6,5,24,8,2,3] O) (OkQ.then_ (AE.ret (OkQ.then_ret (OkQ.in_ret (OkQ.then_ret (OkQ.then_ret ?_)))))))))))
     exact OkQ.in_ret (OkQ.in_ret (OkQ.then_ret (OkQ.round1_ret (OkQ.in_ret (OkQ.then_ret (CH O (Ah (v:=(Value.map (some b2))) O) (Ah (v:=(Value.bool false)) O) (λw hw=>(by rw [show (BI ps.length ts&&Bc ts (3*ts.length))=false from by rw [hc0];exact NW (r:=1) Z hc1 (by rw [<-hT];exact hsy1)];exact OO hw 3 O (Do hc0 Z _ Z) (λh=>by cases h) O))))))))
    ·skip
     have hsn1:=hc3
     refine AE.skip (OkQ.then_ (AE.region (AM O (BF 0 Eq O (AM O (AC.mapUpdate FY 3 (kvs:=B4 ts (3*t+1)) (x:=(T.2.1,T.2.2)) (y:=t) (AP O) O O O underlying71 O (Do hc0 Z _ Z) (Gh Z Z) ?_))))))
     have hor2:Bc ts (3*t+1+1)=true:=IV Z hor1 (by rw [<-hT];exact hsn1)
     rw [show BG (B4 ts (3*t+1)) (T.2.1,T.2.2) t=B4 ts (3*t+2) from by rw [hT];exact Id Z]
     refine AC.nil (OkQ.subF (sL [4,17,18,19,6,5,24,8] O) (OkQ.in_normal (OkQ.then_ (AE.region (AJ (AQ (c:=(2:Int)) O O (by decide)) O (AM O (AC.nil (OkQ.subF (sL [4,17,18,19,6,5,24,8] O) (OkQ.again (Fr.step (q4 ?_)))))))))))
     refine AJ (Ac (c:=true) O O (by decide)) O (AC.nil (q1 (AE.cond_true O (AE.skip (q1 (AE.block (q4 (AM O (AI O (q6 (sL [4,17,18,19,6,5,24,8,7] O) (Ck [(0,true),(1,true),(2,true),(3,true),(4,true),(5,true),(6,true),(7,true),(8,true),(9,false),(10,false)] sr ?_)))))))))))
     refine BT O (Ao (v:=(pP b3 2)) O (AD (j:=2) O O underlying68 sizeOf3 O (by decide) O) (Bk 2 (vN T.2.2) BY O (BT O (Ao O (AQ (c:=(3:Int)) O O (by decide)) (Ao O (Bg (c:=(0:Int)) O O (by decide) (by decide)) (Ao (v:=(pP b3 0)) O (AD (j:=0) O O underlying68 sizeOf3 O (by decide) O) (Bk 2 (vN T.1) BY O (Ao (v:=(aG (Ap (T.2.2,T.1)))) O (Ar (zs:=Ap ((0,0):P2)) (vs:=Ap (T.2.2,T.1)) (pv:=[(0,(vN T.2.2)),(1,(vN T.1))]) zeroValue112 underlying112 sizeOf3 O (EW T.2.2 T.1)) (OkE.imp O (al I4 O λb6=>OkE.back (sl sr) ?_))))))))))
     refine OkE.imp O (BN O sizeOf112 O (OkE.back (sl sr) (OkE.nil (OkQ.subF (sL [4,17,18,19,6,5,24,8] O) (q1 (q4 (AM O (BF 0 Eq O (AJ (v:=(Value.tuple #[(vN ((Ae (B4 ts (3*t+2)) (T.2.2,T.1)).getD 0)),(Value.bool ((Ae (B4 ts (3*t+2)) (T.2.2,T.1)).isSome))])) (Bo FY 4 (eV:=vN) (kvs:=B4 ts (3*t+2)) (x:=(T.2.2,T.1)) (z0:=0) (co:=true) O O underlying71 zeroValue3 O (Do hc0 Z _ Z) (Gh Z Z)) O (AM O (AJ (Ab (v:=(vN ((Ae (B4 ts (3*t+2)) (T.2.2,T.1)).getD 0))) O O) O ?_)))))))))))
     refine AJ (Ab (v:=(Value.bool ((Ae (B4 ts (3*t+2)) (T.2.2,T.1)).isSome))) O O) O (AI O (AI O (q3 (sL [4,17,18,19,6,5,24,8,10] O) (AM O (AC.nil (OkQ.subF (sL [4,17,18,19,6,5,24,8,42] O) (OkQ.then_ ?_)))))))
     refine AE.cond O (λhc3=>?_) (λhc3=>?_)
     ·skip
      have hsy2:=hc3
      refine q4 (AM O (AI O (AI O (AC.nil (OkQ.subF (sL [4,17,18,19,6,5,24,8,2,3] O) (OkQ.then_ (AE.ret (OkQ.then_ret (OkQ.in_ret (OkQ.then_ret (OkQ.then_ret ?_)))))))))))
      exact OkQ.in_ret (OkQ.in_ret (OkQ.then_ret (OkQ.round1_ret (OkQ.in_ret (OkQ.then_ret (CH O (Ah (v:=(Value.map (some b2))) O) (Ah (v:=(Value.bool false)) O) (λw hw=>(by rw [show (BI ps.length ts&&Bc ts (3*ts.length))=false from by rw [hc0];exact NW (r:=2) Z hc1 (by rw [<-hT];exact hsy2)];exact OO hw 4 O (Do hc0 Z _ Z) (λh=>by cases h) O))))))))
     ·skip
      have hsn2:=hc3
      refine AE.skip (OkQ.then_ (AE.region (AM O (BF 0 Eq O (AM O (AC.mapUpdate FY 4 (kvs:=B4 ts (3*t+2)) (x:=(T.2.2,T.1)) (y:=t) (AP O) O O O underlying71 O (Do hc0 Z _ Z) (Gh Z Z) ?_))))))
      have hor3:Bc ts (3*t+2+1)=true:=IV Z hor2 (by rw [<-hT];exact hsn2)
      rw [show BG (B4 ts (3*t+2)) (T.2.2,T.1) t=B4 ts (3*t+3) from by rw [hT];exact Id Z]
      refine AC.nil (OkQ.subF (sL [4,17,18,19,6,5,24,8] O) (OkQ.in_normal (OkQ.then_ (AE.region (AJ (AQ (c:=(3:Int)) O O (by decide)) O (AM O (AC.nil (OkQ.subF (sL [4,17,18,19,6,5,24,8] O) (OkQ.again (Fr.step (q4 ?_)))))))))))
      refine AJ (Ac (c:=false) O O (by decide)) O (AC.nil (q1 (AE.cond_false O (AE.exit (OkQ.then_exit (OkQ.then_exit (OkQ.in_exit (OkQ.in_normal (OkQ.then_ (AE.region (AJ (AQ (c:=((t+1:Nat):Int)) O O (AN (a:=t) (b:=1) Z)) O ?_)))))))))))
      refine AM O (AC.nil (OkQ.subF (sL [4,17,18,19,6,5,24,8] O) ?_))
      rw [show 3*t+3=3*(t+1)+0 by omega]
      exact OkQ.round1 (t+1) (⟨Z,hor3⟩) Z (sF O) (sl (sl (sl (sl sr))))
  ·replace hc1:=of_decide_eq_false hc1
   exact AE.exit (OkQ.then_exit (OkQ.round1_exit (OkQ.in_exit (q2 (AM O (AI O (AI O (AC.nil (OkQ.subF (sL [4,17,18,19,2,3] O) (OkQ.then_ (AE.ret (CH O (Ah (v:=(Value.map (some b2))) O) (Ah (v:=(Value.bool true)) O) (λw hw=>(by rw [show (BI ps.length ts&&Bc ts (3*ts.length))=true from by rw [hc0];rw [show t=ts.length by omega] at hor0;exact hor0];exact OO hw 0 O (Do hc0 Z _ Z) (λ_=>by rw [show t=ts.length by omega];rfl) O))))))))))))))
theorem Oi {ps:List Pt} {ts ss:List T3} (x:MX ps ts ss) (hp:ps.length<=1000000) (htl:ts.length<=1000000) (w:World) {S:Nat->Prop} (hx:Ro S w x):Calls prog 6 #[(aG (Bp x))] w (A9 w (Value.bool (BI ps.length ts&&Bc ts (3*ts.length)))):=by
 have lx:=Dk (W:=w) hx
 refine An (args:=[(aG (Bp x))]) (L:=[AK x.a.p (rowsL Bf ps),AK x.b.p (rowsL AZ ts),AK x.c.p (rowsL AZ ss)]) func6 O O (Ad O) (E3 hx BA) (AE.subF (sL [0] O) (q4 (Ca (cs:=Bp x) O λb1=>AI O (q3 (sL [1,2] O) (BF 0 DA O (AC.callR (S:=S) (α:=SX ts (BI ps.length ts&&Bc ts (3*ts.length))) (args:=[(aG (Bp x))]) call15 (λw hw=>Kh x hp htl w (Br hw 1 O lx)) O O O λsx lsx=>AM O (AJ (Ab (v:=(Value.map (some sx.b))) O O) O (AJ (Ab (v:=(Value.bool (BI ps.length ts&&Bc ts (3*ts.length)))) O O) O (AI O ?_)))))))))
 exact AI O (q3 (sL [2,4] O) (AM O (AI O (AC.nil (OkQ.subF (sL [2] O) (OkQ.then_ (AE.ret (AV O (Ah (v:=(Value.bool (BI ps.length ts&&Bc ts (3*ts.length)))) O) (λw hw=>⟨rfl,hw.out⟩)))))))))
end
end Go.Proofs.YtpgncndhhhllfaaGreat
