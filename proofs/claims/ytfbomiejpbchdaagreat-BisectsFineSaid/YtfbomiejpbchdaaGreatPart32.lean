import Derived.Test.YtfbomiejpbchdaaGreatPart06
import Derived.Test.YtfbomiejpbchdaaGreatPart31
namespace Go.Proofs.YtfbomiejpbchdaaGreat
open Go Go.RowKit Go.Proofs.Tryz
set_option linter.unusedVariables false
set_option linter.unusedSimpArgs false
section
set_option maxRecDepth 100000
theorem HQ {ps:List Pt} {ts ss:List T3} (x:MX ps ts ss) (p:Nat) (w:World) {S:Nat->Prop} (hx:Ro S w x):Calls prog 117 #[(aG (Bk x)),(vN p)] w (Av w (Value.bool (decide (p<ps.length)))):=by
 have lx:=EA (W:=w) hx
 refine BF (args:=[(aG (Bk x)),(vN p)]) (L:=[AZ x.a.p (rowsL Aj ps),AZ x.b.p (rowsL An ts),AZ x.c.p (rowsL An ss)]) func117 O O (Ab O) (EB hx BR) (AF.subF (sL [0,1] O) (q4 (Bo (cs:=Bk x) O λb1=>AO O (q3 (sL [1,2,4] O) ?_))))
 refine AR O (AI (DD (c:=true) O O (by simp)) O (AR O (AE.step (v:=(vN p)) (AB O) (BA O) O (Ab O) (AE.step (v:=(pP b1 0)) (AB O) (AA O underlying31 O sizeOf27 O) O (Ab O) (AE.step (v:=(Value.slice x.a.p ps.length x.a.c)) (AB O) (AK (i:=0) (v:=(Value.slice x.a.p ps.length x.a.c)) O O Du.a O) O (Ab O) ?_)))))
 refine AE.step (v:=(vN ps.length)) (AB O) (AG O underlying27) O (Ab O) (AE.step (v:=(Value.bool (decide (p<ps.length)))) (AB O) (Am (c:=(decide (p<ps.length))) O O (C6 (a:=p) (b:=ps.length))) O (Ab O) (AI (v:=(Value.bool (decide (p<ps.length)))) (Ah O O) O (AO O (AE.nil (AC.subF (sL [4] O) ?_)))))
 exact AC.then_ (AF.ret (AT O (Ak (v:=(Value.bool (decide (p<ps.length)))) O) (λw hw=>⟨rfl,hw.out⟩)))
theorem Hj:KE prog 251 Dv JU where
 law:=.of_law (deep_law_laid QR (m:=2) (by decide) (by decide +kernel) (by kernel_rfl) (by kernel_rfl))
 key:=λa h=>L4 underlying251 ⟨rfl,rfl⟩ ⟨rfl,rfl⟩ (by decide +kernel) underlying3 (by kernel_rfl) (by kernel_rfl) (by kernel_rfl) (by decide +kernel) (Ix h.1) (Ix h.2)
 inj:=λa b h=>J_ h
theorem Ki (x0:Nat×Nat×Nat):Instr.fill (λi=>some (i*3,3)) ((Array.range (1*3)).map ((Value.agg (An ((0,0,0):Nat×Nat×Nat)).toArray).cells[·%(Value.agg (An ((0,0,0):Nat×Nat×Nat)).toArray).cells.size]!)) [(0,.agg (An x0).toArray)]=some (An x0).toArray:=by kernel_rfl
set_option maxHeartbeats 4000000 in
theorem UL (ts:List T3) (x:RX (rowsL An ts) ts.length) (pp:Option Addr) (N pc:Nat) (hn:CN N ts=true) (hN:N<=4611686018427387904) (hl:ts.length<=1000000000) (w:World) {S:Nat->Prop} (hx:Ro S w x):Calls prog 123 #[(Value.slice pp N pc),(Value.slice x.p ts.length x.c)] w (KD Z2 (XU (T:=44) (z:=3) (cs:=rowsL An (B0 ts)) (n:=(B0 ts).length)) S w):=by
 have lx:=EA (W:=w) hx
 refine BF (args:=[(Value.slice pp N pc),(Value.slice x.p ts.length x.c)]) (L:=[AZ x.p (rowsL An ts)]) func123 O O (Ab O) (EB hx BR) (AF.subF (sL [0,1] O) (q4 (AO O (AE.nil (q1 ?_)))))
 refine q4 (AR O (AR O (AI (v:=(vN N)) (AG O underlying27) O (Ew (args:=[(Value.slice x.p ts.length x.c),(vN N)]) (v:=(Value.bool true)) call116 (λw hw=>(by have h9:=Q7 N ts x Z w (DB hw 0 O lx);rw [hn] at h9;exact h9)) O (AI (Bg (c:=false) O O) O ?_)))))
 refine AE.nil (AC.subF (sL [1,4,18] O) (AC.then_ (AF.cond_false O (AF.skip (q2 ?_)))))
 refine AE.makeMap Dv vN (AM O) O λb1=>AO O (q6 (sL [1,4,5] O) (q4 (AR O (AI (v:=(vN ts.length)) (AG O underlying28) O ?_))))
 refine AR O (AE.nil (AC.then_ (AF.block ?_)))
 refine AF.lp1 (tg λ(t:Nat)=>t<=ts.length) (tg λ(t:Nat)=>[(1,(Value.slice x.p ts.length x.c)),(4,(Value.slice none 0 0)),(5,(Value.map (some b1))),(20,(Value.slice x.p ts.length x.c)),(21,(vN ts.length)),(22,(vN t))]) (tg λ(t:Nat)=>[CD b1 Dv vN (Ct ts (3*t+0)),AZ x.p (rowsL An ts)]) (tg λ(t:Nat)=>ts.length-t) 0 (Nat.zero_le _) (sF O) sr (λt hJ=>?_)
 have ht:=hJ
 refine q4 (AI (Am (c:=(decide (t<ts.length))) O O (C6 (a:=t) (b:=ts.length))) O (AE.nil (q1 ?_)))
 refine AF.cond O (λhc1=>?_) (λhc1=>?_)
 ·replace hc1:=of_decide_eq_true hc1
  obtain ⟨T,hT⟩:∃q,q=ts.getD t (0,0,0):=⟨_,rfl⟩
  obtain ⟨g1,g2,g3⟩:=C4 (CU hn hc1)
  rw [<-hT] at g1 g2 g3
  refine AF.skip (q1 (AF.block (q4 (AI (v:=(pP (pB x.p) (pO x.p+t*3))) (AQ (j:=t) O O x.ok underlying28 sizeOf76 O Z) O (AI (v:=(aG (An (ts.getD t ((0,0,0):Nat×Nat×Nat))))) (AW (vs:=An (ts.getD t ((0,0,0):Nat×Nat×Nat))) (i:=1) O O (BQ.ne x.ok Z) Ej (Aw Ar _ _ _ Z) (Ar _)) O ?_)))))
  refine AE.retell (k:=25) (u:=(aG (An T))) O (by rw [hT]) (al Nc O λb2=>Aq O sizeOf76 O (q3 (sL [1,4,5,20,21,22,7] O) (AR O (AE.nil ?_))))
  refine AC.then_ (AF.block (AF.unroll 4 (GC.step (q4 (AI (Am (c:=true) O O (by decide)) O ?_)))))
  refine AE.nil (q1 (AF.cond_true O (AF.skip (q1 (AF.block ?_)))))
  refine q4 (AR O (AO O (q6 (sL [1,4,5,20,21,22,7,26,8] O) (Cu [(0,true),(1,true),(2,true),(3,true),(4,true),(5,true),(6,true),(7,true),(8,true),(9,true)] sr (Bf O ?_)))))
  refine Ax (v:=(pP b2 0)) O (AD (j:=0) O O underlying76 sizeOf3 O (by decide) O) (Bj 0 (vN T.1) Bm O (Bf O (Ax O (AY (c:=(1:Int)) O O (by decide)) (Ax O (CC (c:=(1:Int)) O O (by decide) (by decide)) (Ax (v:=(pP b2 1)) O (AD (j:=1) O O underlying76 sizeOf3 O (by decide) O) ?_)))))
  refine Bj 0 (vN T.2.1) Bm O (Ev O (Ev O (AV.nil (AC.subF (sL [1,4,5,20,21,22,7,26,9,10] O) (AC.then_ ?_)))))
  obtain ⟨vq1,hvq1⟩:∃q,q=(Ae (Ct ts (3*t+0)) ((min T.1 T.2.1,max T.1 T.2.1):P2)).getD 0:=⟨_,rfl⟩
  refine Zp [(0,true),(1,true),(2,true),(3,true),(4,true),(5,true),(6,true),(7,true),(8,true),(9,true),(10,false),(11,true)] 12 [] (aA 1 (x:=((min T.1 T.2.1,max T.1 T.2.1):P2)) (v:=vq1) O O) (List.nil_sublist _) (by kernel_rfl) (λ_ _ d _ _ h=>by cases d<;>exact h) (vM O O O (vM O O O (vM O O O (vE O (GL (c:=((min T.1 T.2.1:Nat):Int)) O O (by split<;>omega)) O (vM O O O ?_)))))
  refine vM O O O (vE O (Fu (c:=((max T.1 T.2.1:Nat):Int)) O O (by split<;>omega)) O (vE (v:=(aG ([(vN (min T.1 T.2.1)),(vN (max T.1 T.2.1))]))) O (Ad (zs:=Az ((0,0):P2)) (vs:=[(vN (min T.1 T.2.1)),(vN (max T.1 T.2.1))]) (pv:=[(0,(vN (min T.1 T.2.1))),(1,(vN (max T.1 T.2.1)))]) (places:=[(0,1),(1,1)]) zeroValue251 underlying251 (λw=>by simp [sizeOf3]) O O) O (vE (v:=(vN vq1)) O (Hp Hj 1 (kvs:=Ct ts (3*t+0)) (x:=((min T.1 T.2.1,max T.1 T.2.1):P2)) (z0:=0) O O underlying250 zeroValue3 O (Fe hn hN _ Z) (Bn Z Z) hvq1) O ?_)))
  have hmq:=NZ (ts:=ts) (3*t+0) ((min T.1 T.2.1,max T.1 T.2.1):P2)
  refine vE O (AY (c:=((vq1+1:Nat):Int)) O O (AX (a:=vq1) (b:=1) Z)) O (Bu.imp O (AE.mapEntry Hj 1 (kvs:=Ct ts (3*t+0)) (x:=((min T.1 T.2.1,max T.1 T.2.1):P2)) (z0:=0) (v:=vq1) O O underlying250 zeroValue3 O (Fe hn hN _ Z) (Bn Z Z) hvq1 O (Bu.backW (YH 1 O O) (vE O (AU (v:=(vN (C2 (Ct ts (3*t+0)) ((min T.1 T.2.1,max T.1 T.2.1):P2)))) O O) O (Bu.cut O ?_)))))
  refine AE.entryStore 1 (kvs:=Ct ts (3*t+0)) (x:=((min T.1 T.2.1,max T.1 T.2.1):P2)) (u:=vq1) (y:=vq1+1) O O O O ?_
  rw [show BU (Ct ts (3*t+0)) ((min T.1 T.2.1,max T.1 T.2.1):P2) (vq1+1)=Ct ts (3*t+1) from by rw [hvq1,hT];exact (Ik (ts:=ts) (t:=t) (i:=0) Z).symm]
  refine AV.back (List.nil_sublist _) (AV.nil (AC.subF (sL [1,4,5,20,21,22,7,26] O) (AC.in_normal (AC.then_ (AF.region ?_)))))
  refine AI (AY (c:=(1:Int)) O O (by decide)) O (AR O (AE.nil (AC.subF (sL [1,4,5,20,21,22,7,26] O) (AC.again (GC.step ?_)))))
  refine q4 (AI (Am (c:=true) O O (by decide)) O (AE.nil (q1 (AF.cond_true O (AF.skip ?_)))))
  refine q1 (AF.block (q4 (AR O (AO O (q6 (sL [1,4,5,20,21,22,7,26,8] O) ?_)))))
  refine Cu [(0,true),(1,true),(2,true),(3,true),(4,true),(5,true),(6,true),(7,true),(8,true),(9,true)] sr (Bf O (Ax (v:=(pP b2 1)) O (AD (j:=1) O O underlying76 sizeOf3 O (by decide) O) (Bj 0 (vN T.2.1) Bm O (Bf O (Ax O (AY (c:=(2:Int)) O O (by decide)) ?_)))))
  refine Ax O (CC (c:=(2:Int)) O O (by decide) (by decide)) (Ax (v:=(pP b2 2)) O (AD (j:=2) O O underlying76 sizeOf3 O (by decide) O) (Bj 0 (vN T.2.2) Bm O (Ev O (Ev O (AV.nil ?_)))))
  refine AC.subF (sL [1,4,5,20,21,22,7,26,9,10] O) (AC.then_ ?_)
  obtain ⟨vq2,hvq2⟩:∃q,q=(Ae (Ct ts (3*t+1)) ((min T.2.1 T.2.2,max T.2.1 T.2.2):P2)).getD 0:=⟨_,rfl⟩
  refine Zp [(0,true),(1,true),(2,true),(3,true),(4,true),(5,true),(6,true),(7,true),(8,true),(9,true),(10,false),(11,true)] 12 [] (aA 1 (x:=((min T.2.1 T.2.2,max T.2.1 T.2.2):P2)) (v:=vq2) O O) (List.nil_sublist _) (by kernel_rfl) (λ_ _ d _ _ h=>by cases d<;>exact h) (vM O O O (vM O O O (vM O O O (vE O (GL (c:=((min T.2.1 T.2.2:Nat):Int)) O O (by split<;>omega)) O (vM O O O ?_)))))
  refine vM O O O (vE O (Fu (c:=((max T.2.1 T.2.2:Nat):Int)) O O (by split<;>omega)) O (vE (v:=(aG ([(vN (min T.2.1 T.2.2)),(vN (max T.2.1 T.2.2))]))) O (Ad (zs:=Az ((0,0):P2)) (vs:=[(vN (min T.2.1 T.2.2)),(vN (max T.2.1 T.2.2))]) (pv:=[(0,(vN (min T.2.1 T.2.2))),(1,(vN (max T.2.1 T.2.2)))]) (places:=[(0,1),(1,1)]) zeroValue251 underlying251 (λw=>by simp [sizeOf3]) O O) O (vE (v:=(vN vq2)) O (Hp Hj 1 (kvs:=Ct ts (3*t+1)) (x:=((min T.2.1 T.2.2,max T.2.1 T.2.2):P2)) (z0:=0) O O underlying250 zeroValue3 O (Fe hn hN _ Z) (Bn Z Z) hvq2) O ?_)))
  have hmq:=NZ (ts:=ts) (3*t+1) ((min T.2.1 T.2.2,max T.2.1 T.2.2):P2)
  refine vE O (AY (c:=((vq2+1:Nat):Int)) O O (AX (a:=vq2) (b:=1) Z)) O (Bu.imp O (AE.mapEntry Hj 1 (kvs:=Ct ts (3*t+1)) (x:=((min T.2.1 T.2.2,max T.2.1 T.2.2):P2)) (z0:=0) (v:=vq2) O O underlying250 zeroValue3 O (Fe hn hN _ Z) (Bn Z Z) hvq2 O (Bu.backW (YH 1 O O) (vE O (AU (v:=(vN (C2 (Ct ts (3*t+1)) ((min T.2.1 T.2.2,max T.2.1 T.2.2):P2)))) O O) O (Bu.cut O ?_)))))
  refine AE.entryStore 1 (kvs:=Ct ts (3*t+1)) (x:=((min T.2.1 T.2.2,max T.2.1 T.2.2):P2)) (u:=vq2) (y:=vq2+1) O O O O ?_
  rw [show BU (Ct ts (3*t+1)) ((min T.2.1 T.2.2,max T.2.1 T.2.2):P2) (vq2+1)=Ct ts (3*t+2) from by rw [hvq2,hT];exact (Ik (ts:=ts) (t:=t) (i:=1) Z).symm]
  refine AV.back (List.nil_sublist _) (AV.nil (AC.subF (sL [1,4,5,20,21,22,7,26] O) (AC.in_normal (AC.then_ (AF.region ?_)))))
  refine AI (AY (c:=(2:Int)) O O (by decide)) O (AR O (AE.nil (AC.subF (sL [1,4,5,20,21,22,7,26] O) (AC.again (GC.step ?_)))))
  refine q4 (AI (Am (c:=true) O O (by decide)) O (AE.nil (q1 (AF.cond_true O (AF.skip ?_)))))
  refine q1 (AF.block (q4 (AR O (AO O (q6 (sL [1,4,5,20,21,22,7,26,8] O) ?_)))))
  refine Cu [(0,true),(1,true),(2,true),(3,true),(4,true),(5,true),(6,true),(7,true),(8,true),(9,true)] sr (Bf O (Ax (v:=(pP b2 2)) O (AD (j:=2) O O underlying76 sizeOf3 O (by decide) O) (Bj 0 (vN T.2.2) Bm O (Bf O (Ax O (AY (c:=(3:Int)) O O (by decide)) ?_)))))
  refine Ax O (CC (c:=(0:Int)) O O (by decide) (by decide)) (Ax (v:=(pP b2 0)) O (AD (j:=0) O O underlying76 sizeOf3 O (by decide) O) (Bj 0 (vN T.1) Bm O (Ev O (Ev O (AV.nil ?_)))))
  refine AC.subF (sL [1,4,5,20,21,22,7,26,9,10] O) (AC.then_ ?_)
  obtain ⟨vq3,hvq3⟩:∃q,q=(Ae (Ct ts (3*t+2)) ((min T.2.2 T.1,max T.2.2 T.1):P2)).getD 0:=⟨_,rfl⟩
  refine Zp [(0,true),(1,true),(2,true),(3,true),(4,true),(5,true),(6,true),(7,true),(8,true),(9,true),(10,false),(11,true)] 12 [] (aA 1 (x:=((min T.2.2 T.1,max T.2.2 T.1):P2)) (v:=vq3) O O) (List.nil_sublist _) (by kernel_rfl) (λ_ _ d _ _ h=>by cases d<;>exact h) (vM O O O (vM O O O (vM O O O (vE O (GL (c:=((min T.2.2 T.1:Nat):Int)) O O (by split<;>omega)) O (vM O O O ?_)))))
  refine vM O O O (vE O (Fu (c:=((max T.2.2 T.1:Nat):Int)) O O (by split<;>omega)) O (vE (v:=(aG ([(vN (min T.2.2 T.1)),(vN (max T.2.2 T.1))]))) O (Ad (zs:=Az ((0,0):P2)) (vs:=[(vN (min T.2.2 T.1)),(vN (max T.2.2 T.1))]) (pv:=[(0,(vN (min T.2.2 T.1))),(1,(vN (max T.2.2 T.1)))]) (places:=[(0,1),(1,1)]) zeroValue251 underlying251 (λw=>by simp [sizeOf3]) O O) O (vE (v:=(vN vq3)) O (Hp Hj 1 (kvs:=Ct ts (3*t+2)) (x:=((min T.2.2 T.1,max T.2.2 T.1):P2)) (z0:=0) O O underlying250 zeroValue3 O (Fe hn hN _ Z) (Bn Z Z) hvq3) O ?_)))
  have hmq:=NZ (ts:=ts) (3*t+2) ((min T.2.2 T.1,max T.2.2 T.1):P2)
  refine vE O (AY (c:=((vq3+1:Nat):Int)) O O (AX (a:=vq3) (b:=1) Z)) O (Bu.imp O (AE.mapEntry Hj 1 (kvs:=Ct ts (3*t+2)) (x:=((min T.2.2 T.1,max T.2.2 T.1):P2)) (z0:=0) (v:=vq3) O O underlying250 zeroValue3 O (Fe hn hN _ Z) (Bn Z Z) hvq3 O (Bu.backW (YH 1 O O) (vE O (AU (v:=(vN (C2 (Ct ts (3*t+2)) ((min T.2.2 T.1,max T.2.2 T.1):P2)))) O O) O (Bu.cut O ?_)))))
  refine AE.entryStore 1 (kvs:=Ct ts (3*t+2)) (x:=((min T.2.2 T.1,max T.2.2 T.1):P2)) (u:=vq3) (y:=vq3+1) O O O O ?_
  rw [show BU (Ct ts (3*t+2)) ((min T.2.2 T.1,max T.2.2 T.1):P2) (vq3+1)=Ct ts (3*t+3) from by rw [hvq3,hT];exact (Ik (ts:=ts) (t:=t) (i:=2) Z).symm]
  refine AV.back (List.nil_sublist _) (AV.nil (AC.subF (sL [1,4,5,20,21,22,7,26] O) (AC.in_normal (AC.then_ (AF.region ?_)))))
  refine AI (AY (c:=(3:Int)) O O (by decide)) O (AR O (AE.nil (AC.subF (sL [1,4,5,20,21,22,7,26] O) (AC.again (GC.step ?_)))))
  refine q4 (AI (Am (c:=false) O O (by decide)) O (AE.nil (q1 (AF.cond_false O (AF.exit ?_)))))
  refine AC.then_exit (AC.then_exit (AC.in_exit (AC.in_normal (AC.then_ (AF.region ?_)))))
  refine AI (AY (c:=((t+1:Nat):Int)) O O (AX (a:=t) (b:=1) Z)) O (AR O (AE.nil (AC.subF (sL [1,4,5,20,21,22,7,26] O) ?_)))
  rw [show 3*t+3=3*(t+1)+0 by omega]
  exact AC.round1 (t+1) Z Z (sF O) (sl sr)
 ·replace hc1:=of_decide_eq_false hc1
  have htl:t=ts.length:=by omega
  refine AF.exit (AC.then_exit (AC.round1_exit (AC.in_exit (q2 (AO O ?_)))))
  refine AE.nilRow 44 3 (AE.nil (q1 (q4 (AR O ?_))))
  rw [show Ct ts (3*t+0)=(Ct ts (3*ts.length)) by rw [htl,Nat.add_zero]]
  refine cX (S:=S) (cs:=rowsL B9 (Bq ts)) (k:=(Bq ts).length) (args:=[(Value.slice x.p ts.length x.c)]) call49 (λw hw=>Og ts x N hn hN hl w (DB hw 2 O lx)) O O O λo lo=>AI (v:=(vN ((Bq ts).length))) (AG O underlying37) O (AR O (AE.nil (AC.subF (sL [1,4,5,20,21,22,11,52,53,54] O) (AC.then_ ?_))))
  refine AF.block ?_
  refine AF.lp4 (tg λ(i:Nat) (p1:Option Addr) (c1:Nat) (out:List T3)=>i<=(Bq ts).length/\OwnOk p1 out.length c1/\out=Ia ts i) (tg λ(i:Nat) (p1:Option Addr) (c1:Nat) (out:List T3)=>[(4,(Value.slice none 0 0)),(5,(Value.map (some b1))),(52,(Value.slice o.p ((Bq ts).length) o.c)),(53,(vN ((Bq ts).length))),(54,(vN i)),(11,(Value.slice p1 out.length c1))]) (tg λ(i:Nat) (p1:Option Addr) (c1:Nat) (out:List T3)=>[AZ o.p (rowsL B9 (Bq ts)),rowW p1 44 3 out.length c1 (rowsL An out),CD b1 Dv vN (Ct ts (3*ts.length)),AZ x.p (rowsL An ts)]) (tg λ(i:Nat) (p1:Option Addr) (c1:Nat) (out:List T3)=>(Bq ts).length-i) 0 none 0 ([]:List T3) (⟨Nat.zero_le _,OwnOk.none,rfl⟩) (sF O) sr (λi p1 c1 out hJ=>?_)
  obtain ⟨hi,ho,hou⟩:=hJ
  have hol:=Ks (ts:=ts) i
  rw [<-hou] at hol
  refine q4 (AI (Am (c:=(decide (i<((Bq ts).length)))) O O (C6 (a:=i) (b:=(Bq ts).length))) O (AE.nil (q1 ?_)))
  refine AF.cond O (λhc3=>?_) (λhc3=>?_)
  ·replace hc3:=of_decide_eq_true hc3
   have hel:=IN (ts:=ts) (3*ts.length)
   rw [<-H_] at hel
   have hmem:((Bq ts).getD i (⟨0,0,0,0⟩:E4))∈Bq ts:=by rw [List.getD,List.getElem?_eq_getElem hc3];exact List.getElem_mem hc3
   obtain ⟨hea,heb⟩:=IT hn hN _ hmem
   refine AF.skip (q1 (AF.block (q4 (AI (v:=(pP (pB o.p) (pO o.p+i*4))) (AQ (j:=i) O O o.ok underlying37 sizeOf110 O Z) O (AI (v:=(aG (B9 ((Bq ts).getD i (⟨0,0,0,0⟩:E4))))) (AW (vs:=B9 ((Bq ts).getD i (⟨0,0,0,0⟩:E4))) (i:=0) O O (BQ.ne o.ok Z) IC (Aw Cn _ _ _ Z) (Cn _)) O ?_)))))
   refine al JK O λb2=>Aq O sizeOf110 O (q3 (sL [4,5,52,53,54,11,13] O) (AR O (AI (v:=(pP b2 0)) (AA O underlying110 O sizeOf3 O) O (BK 0 (vN (((Bq ts).getD i (⟨0,0,0,0⟩:E4)).a)) Bm O ?_))))
   refine AI (v:=(pP b2 1)) (AA O underlying110 O sizeOf3 O) O (BK 0 (vN (((Bq ts).getD i (⟨0,0,0,0⟩:E4)).b)) Bm O (AI (v:=(aG ([(vN (((Bq ts).getD i (⟨0,0,0,0⟩:E4)).a)),(vN (((Bq ts).getD i (⟨0,0,0,0⟩:E4)).b))]))) (Ad (zs:=Az ((0,0):P2)) (vs:=[(vN (((Bq ts).getD i (⟨0,0,0,0⟩:E4)).a)),(vN (((Bq ts).getD i (⟨0,0,0,0⟩:E4)).b))]) (pv:=[(0,(vN (((Bq ts).getD i (⟨0,0,0,0⟩:E4)).a))),(1,(vN (((Bq ts).getD i (⟨0,0,0,0⟩:E4)).b)))]) (places:=[(0,1),(1,1)]) zeroValue251 underlying251 (λw=>by simp [sizeOf3]) O O) O (AI (v:=(vN ((Ae (Ct ts (3*ts.length)) ((((Bq ts).getD i (⟨0,0,0,0⟩:E4)).a,((Bq ts).getD i (⟨0,0,0,0⟩:E4)).b):P2)).getD 0))) (Ce Hj 3 (eV:=vN) (kvs:=(Ct ts (3*ts.length))) (x:=((((Bq ts).getD i (⟨0,0,0,0⟩:E4)).a,((Bq ts).getD i (⟨0,0,0,0⟩:E4)).b):P2)) (z0:=0) (co:=false) O O underlying250 zeroValue3 O (Fe hn hN _ Z) (Ym Z Z)) O (AI (BS (c:=(decide (((Ae (Ct ts (3*ts.length)) ((((Bq ts).getD i (⟨0,0,0,0⟩:E4)).a,((Bq ts).getD i (⟨0,0,0,0⟩:E4)).b):P2)).getD 0)=1))) O O (Ot (a:=(Ae (Ct ts (3*ts.length)) ((((Bq ts).getD i (⟨0,0,0,0⟩:E4)).a,((Bq ts).getD i (⟨0,0,0,0⟩:E4)).b):P2)).getD 0) (b:=1))) O (AE.nil ?_)))))
   refine AC.subF (sL [4,5,52,53,54,11,13,65] O) (AC.then_ ?_)
   refine AF.cond O (λhc4=>?_) (λhc4=>?_)
   ·replace hc4:=of_decide_eq_true hc4
    refine AF.region (AR O (AI (v:=(pP b2 0)) (AA O underlying110 O sizeOf3 O) O (BK 0 (vN (((Bq ts).getD i (⟨0,0,0,0⟩:E4)).a)) Bm O (AI (v:=(pP b2 1)) (AA O underlying110 O sizeOf3 O) O (BK 0 (vN (((Bq ts).getD i (⟨0,0,0,0⟩:E4)).b)) Bm O ?_)))))
    refine AI (v:=(aG ([(vN (((Bq ts).getD i (⟨0,0,0,0⟩:E4)).a)),(vN (((Bq ts).getD i (⟨0,0,0,0⟩:E4)).b)),(vI 0)]))) (Ad (zs:=An ((0,0,0):Nat×Nat×Nat)) (vs:=[(vN (((Bq ts).getD i (⟨0,0,0,0⟩:E4)).a)),(vN (((Bq ts).getD i (⟨0,0,0,0⟩:E4)).b)),(vI 0)]) (pv:=[(0,(vN (((Bq ts).getD i (⟨0,0,0,0⟩:E4)).a))),(1,(vN (((Bq ts).getD i (⟨0,0,0,0⟩:E4)).b)))]) (places:=[(0,1),(1,1),(2,1)]) zeroValue44 underlying44 (λw=>by simp [sizeOf3]) O O) O (AE.openV (V:=λb3=>(Value.slice (some ⟨b3,0,none⟩) 1 1)) (T:=44) (cs:=An (((Bq ts).getD i (⟨0,0,0,0⟩:E4)).a,((Bq ts).getD i (⟨0,0,0,0⟩:E4)).b,0)) (AM O) (Ap (z:=.agg (An ((0,0,0):Nat×Nat×Nat)).toArray) (cs:=An (((Bq ts).getD i (⟨0,0,0,0⟩:E4)).a,((Bq ts).getD i (⟨0,0,0,0⟩:E4)).b,0)) (pv:=[(0,(aG ([(vN (((Bq ts).getD i (⟨0,0,0,0⟩:E4)).a)),(vN (((Bq ts).getD i (⟨0,0,0,0⟩:E4)).b)),(vI 0)])))]) underlying29 sizeOf44 zeroValue44 (by decide) (by decide) O (Ki (((Bq ts).getD i (⟨0,0,0,0⟩:E4)).a,((Bq ts).getD i (⟨0,0,0,0⟩:E4)).b,0))) O (Ab O) λb3=>AE.appendAt 3 (j:=0) (cs2:=rowsL An (out++[(((Bq ts).getD i (⟨0,0,0,0⟩:E4)).a,((Bq ts).getD i (⟨0,0,0,0⟩:E4)).b,0)])) ZL O ho (Al Ar _) O O O O O (by decide) (Gt Z) Z (by rw [BN];rfl) O λp_1 c_1 ho_1 hne_1=>AO O (AE.nil (AC.subF (sL [4,5,52,53,54,11,13] O) ?_)))
    refine AC.in_normal (AC.then_ (AF.region (AI (AY (c:=((i+1:Nat):Int)) O O (AX (a:=i) (b:=1) Z)) O (AR O (AE.nil ?_)))))
    refine AC.subF (sL [4,5,52,53,54,11,13] O) ?_
    rw [show out.length+1=(out++[(((Bq ts).getD i (⟨0,0,0,0⟩:E4)).a,((Bq ts).getD i (⟨0,0,0,0⟩:E4)).b,0)]).length by simp]
    exact AC.round4 (i+1) p_1 c_1 (out++[(((Bq ts).getD i (⟨0,0,0,0⟩:E4)).a,((Bq ts).getD i (⟨0,0,0,0⟩:E4)).b,0)]) (⟨Z,(by simpa using ho_1),by rw [hou];exact (S8 Z hc4).symm⟩) Z (sF O) (sl (sl sr))
   ·replace hc4:=of_decide_eq_false hc4
    refine AF.skip (AC.in_normal (AC.then_ (AF.region (AI (AY (c:=((i+1:Nat):Int)) O O (AX (a:=i) (b:=1) Z)) O (AR O ?_)))))
    exact AE.nil (AC.subF (sL [4,5,52,53,54,11,13] O) (AC.round4 (i+1) p1 c1 out (⟨Z,ho,by rw [hou];exact (WX Z hc4).symm⟩) Z (sF O) (sl sr)))
  ·replace hc3:=of_decide_eq_false hc3
   refine AF.exit (AC.then_exit (AC.round4_exit (AC.in_exit (q2 (AR O ?_)))))
   exact BW call51 (Uy p1 out.length c1 ho.row.le) O (AO O (AE.nil (AC.subF (sL [4,5,52,53,54,11] O) (AC.then_ (AF.ret (AT O (Ak (v:=(Value.slice p1 out.length out.length)) O) (λw hw=>(by rw [show B0 ts=out by rw [hou,show i=(Bq ts).length by omega];rfl];exact TE hw (OX.mk p1 c1 ho) (sl (sk (sl (sl sr)))) (KU.own O KU.nil) O))))))))
end
end Go.Proofs.YtfbomiejpbchdaaGreat
