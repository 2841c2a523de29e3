import Derived.Test.YtfbomiejpbchdaaGreatPart06
import Derived.Test.YtfbomiejpbchdaaGreatPart31
namespace Go.Proofs.YtfbomiejpbchdaaGreat
open Go Go.RowKit
set_option linter.unusedVariables false
set_option linter.unusedSimpArgs false
section
set_option maxRecDepth 100000
theorem Gi {ps:List Pt} {ts ss:List T3} (x:MX ps ts ss) (p:Nat) (w:World) {S:Nat->Prop} (hx:Ro S w x):Calls Tryz.prog 117 #[(aG (B5 x)),(vN p)] w (Ax w (Value.bool (decide (p<ps.length)))):=by
 have lx:=H0 (W:=w) hx
 refine BQ (args:=[(aG (B5 x)),(vN p)]) (L:=[AX x.a.p (rowsL An ps),AX x.b.p (rowsL Ai ts),AX x.c.p (rowsL Ai ss)]) Tryz.func117 rfl rfl (Af rfl) (Hy hx Bo) (AE.subF (sL [0,1] rfl) (q4 (CB (cs:=B5 x) rfl λb1=>AL rfl (q3 (sL [1,2,4] rfl) ?_))))
 refine AO rfl (AH (FB (c:=true) rfl rfl (by simp)) rfl (AO rfl (AD.step (v:=(vN p)) (AB rfl) (BU rfl) rfl (Af rfl) (AD.step (v:=(pP b1 0)) (AB rfl) (AA rfl Tryz.underlying31 rfl Tryz.sizeOf27 rfl) rfl (Af rfl) (AD.step (v:=(Value.slice x.a.p ps.length x.a.c)) (AB rfl) (AK (i:=0) (v:=(Value.slice x.a.p ps.length x.a.c)) rfl rfl Dr.a rfl) rfl (Af rfl) ?_)))))
 refine AD.step (v:=(vN ps.length)) (AB rfl) (AF rfl Tryz.underlying27) rfl (Af rfl) (AD.step (v:=(Value.bool (decide (p<ps.length)))) (AB rfl) (Ag (c:=(decide (p<ps.length))) rfl rfl (DA (a:=p) (b:=ps.length))) rfl (Af rfl) (AH (v:=(Value.bool (decide (p<ps.length)))) (Ae rfl rfl) rfl (AL rfl (AD.nil (AC.subF (sL [4] rfl) ?_)))))
 exact AC.then_ (AE.ret (AU rfl (Am (v:=(Value.bool (decide (p<ps.length)))) rfl) (λw hw=>⟨rfl,hw.out⟩)))
theorem G9:Ji Tryz.prog 251 GN Mb where
 law:=.of_law (deep_law_laid TG (m:=2) (by decide) (by decide +kernel) (by kernel_rfl) (by kernel_rfl))
 key:=λa h=>Lh Tryz.underlying251 ⟨rfl,rfl⟩ ⟨rfl,rfl⟩ (by decide +kernel) Tryz.underlying3 (by kernel_rfl) (by kernel_rfl) (by kernel_rfl) (by decide +kernel) (G5 h.1) (G5 h.2)
 inj:=λa b h=>Jp h
theorem Jt (x0:Nat×Nat×Nat):Instr.fill (λi=>some (i*3,3)) ((Array.range (1*3)).map ((Value.agg (Ai ((0,0,0):Nat×Nat×Nat)).toArray).cells[·%(Value.agg (Ai ((0,0,0):Nat×Nat×Nat)).toArray).cells.size]!)) [(0,.agg (Ai x0).toArray)]=some (Ai x0).toArray:=by kernel_rfl
set_option maxHeartbeats 4000000 in
theorem WX (ts:List T3) (x:RX (rowsL Ai ts) ts.length) (pp:Option Addr) (N pc:Nat) (hn:Ba N ts=true) (hN:N<=4611686018427387904) (hl:ts.length<=1000000000) (w:World) {S:Nat->Prop} (hx:Ro S w x):Calls Tryz.prog 123 #[(Value.slice pp N pc),(Value.slice x.p ts.length x.c)] w (Ki YY (XF (T:=44) (z:=3) (cs:=rowsL Ai (CC ts)) (n:=(CC ts).length)) S w):=by
 have lx:=H0 (W:=w) hx
 refine BQ (args:=[(Value.slice pp N pc),(Value.slice x.p ts.length x.c)]) (L:=[AX x.p (rowsL Ai ts)]) Tryz.func123 rfl rfl (Af rfl) (Hy hx Bo) (AE.subF (sL [0,1] rfl) (q4 (AL rfl (AD.nil (q1 ?_)))))
 refine q4 (AO rfl (AO rfl (AH (v:=(vN N)) (AF rfl Tryz.underlying27) rfl (IC (args:=[(Value.slice x.p ts.length x.c),(vN N)]) (v:=(Value.bool true)) Tryz.call116 (λw hw=>(by have h9:=PM N ts x (by omega) w (Eu hw 0 rfl lx);rw [hn] at h9;exact h9)) rfl (AH (CR (c:=false) rfl rfl) rfl ?_)))))
 refine AD.nil (AC.subF (sL [1,4,18] rfl) (AC.then_ (AE.cond_false rfl (AE.skip (q2 ?_)))))
 refine AD.makeMap GN vN (AN rfl) rfl λb1=>AL rfl (q6 (sL [1,4,5] rfl) (q4 (AO rfl (AH (v:=(vN ts.length)) (AF rfl Tryz.underlying28) rfl ?_))))
 refine AO rfl (AD.nil (AC.then_ (AE.block ?_)))
 refine AE.lp1 (tg λ(t:Nat)=>t<=ts.length) (tg λ(t:Nat)=>[(1,(Value.slice x.p ts.length x.c)),(4,(Value.slice none 0 0)),(5,(Value.map (some b1))),(20,(Value.slice x.p ts.length x.c)),(21,(vN ts.length)),(22,(vN t))]) (tg λ(t:Nat)=>[Br b1 GN vN (Ch ts (3*t+0)),AX x.p (rowsL Ai ts)]) (tg λ(t:Nat)=>ts.length-t) 0 (Nat.zero_le _) (sF rfl) sr (λt hJ=>?_)
 have ht:=hJ
 refine q4 (AH (Ag (c:=(decide (t<ts.length))) rfl rfl (DA (a:=t) (b:=ts.length))) rfl (AD.nil (q1 ?_)))
 refine AE.cond rfl (λhc1=>?_) (λhc1=>?_)
 ·replace hc1:=of_decide_eq_true hc1
  obtain ⟨T,hT⟩:∃q,q=ts.getD t (0,0,0):=⟨_,rfl⟩
  obtain ⟨g1,g2,g3⟩:=DE (DN hn hc1)
  rw [<-hT] at g1 g2 g3
  refine AE.skip (q1 (AE.block (q4 (AH (v:=(pP (pB x.p) (pO x.p+t*3))) (AQ (j:=t) rfl rfl x.ok Tryz.underlying28 Tryz.sizeOf76 rfl (by omega)) rfl (AH (v:=(aG (Ai (ts.getD t ((0,0,0):Nat×Nat×Nat))))) (AZ (vs:=Ai (ts.getD t ((0,0,0):Nat×Nat×Nat))) (i:=1) rfl rfl (BL.ne x.ok (by omega)) Hs (A7 Aq _ _ _ (by omega)) (Aq _)) rfl ?_)))))
  refine AD.retell (k:=25) (u:=(aG (Ai T))) rfl (by rw [hT]) (al QZ rfl λb2=>A6 rfl Tryz.sizeOf76 rfl (q3 (sL [1,4,5,20,21,22,7] rfl) (AO rfl (AD.nil ?_))))
  refine AC.then_ (AE.block (AE.unroll 4 (F1.step (q4 (AH (Ag (c:=true) rfl rfl (by decide)) rfl ?_)))))
  refine AD.nil (q1 (AE.cond_true rfl (AE.skip (q1 (AE.block ?_)))))
  refine q4 (AO rfl (AL rfl (q6 (sL [1,4,5,20,21,22,7,26,8] rfl) (C7 [(0,true),(1,true),(2,true),(3,true),(4,true),(5,true),(6,true),(7,true),(8,true),(9,true)] sr (Bl rfl ?_)))))
  refine Au (v:=(pP b2 0)) rfl (AG (j:=0) rfl rfl Tryz.underlying76 Tryz.sizeOf3 rfl (by decide) rfl) (Bk 0 (vN T.1) B_ rfl (Bl rfl (Au rfl (AT (c:=(1:Int)) rfl rfl (by decide)) (Au rfl (CN (c:=(1:Int)) rfl rfl (by decide) (by decide)) (Au (v:=(pP b2 1)) rfl (AG (j:=1) rfl rfl Tryz.underlying76 Tryz.sizeOf3 rfl (by decide) rfl) ?_)))))
  refine Bk 0 (vN T.2.1) B_ rfl (E5 rfl (E5 rfl (AP.nil (AC.subF (sL [1,4,5,20,21,22,7,26,9,10] rfl) (AC.then_ ?_)))))
  obtain ⟨vq1,hvq1⟩:∃q,q=(Ab (Ch ts (3*t+0)) ((min T.1 T.2.1,max T.1 T.2.1):P2)).getD 0:=⟨_,rfl⟩
  refine Xu [(0,true),(1,true),(2,true),(3,true),(4,true),(5,true),(6,true),(7,true),(8,true),(9,true),(10,false),(11,true)] 12 [] (YH 1 (x:=((min T.1 T.2.1,max T.1 T.2.1):P2)) (v:=vq1) rfl rfl) (List.nil_sublist _) (by kernel_rfl) (λ_ _ d _ _ h=>by cases d<;>exact h) (vM rfl rfl rfl (vM rfl rfl rfl (vM rfl rfl rfl (vE rfl (GP (c:=((min T.1 T.2.1:Nat):Int)) rfl rfl (by split<;>omega)) rfl (vM rfl rfl rfl ?_)))))
  refine vM rfl rfl rfl (vE rfl (Fc (c:=((max T.1 T.2.1:Nat):Int)) rfl rfl (by split<;>omega)) rfl (vE (v:=(aG ([(vN (min T.1 T.2.1)),(vN (max T.1 T.2.1))]))) rfl (AS (zs:=Aw ((0,0):P2)) (vs:=[(vN (min T.1 T.2.1)),(vN (max T.1 T.2.1))]) (pv:=[(0,(vN (min T.1 T.2.1))),(1,(vN (max T.1 T.2.1)))]) (places:=[(0,1),(1,1)]) Tryz.zeroValue251 Tryz.underlying251 (λw=>by simp [Tryz.sizeOf3]) rfl rfl) rfl (vE (v:=(vN vq1)) rfl (HF G9 1 (kvs:=Ch ts (3*t+0)) (x:=((min T.1 T.2.1,max T.1 T.2.1):P2)) (z0:=0) rfl rfl Tryz.underlying250 Tryz.zeroValue3 rfl (E7 hn hN _ (by omega)) (Bu (by omega) (by omega)) hvq1) rfl ?_)))
  have hmq:=Mc (ts:=ts) (3*t+0) ((min T.1 T.2.1,max T.1 T.2.1):P2)
  refine vE rfl (AT (c:=((vq1+1:Nat):Int)) rfl rfl (AR (a:=vq1) (b:=1) (by omega))) rfl (Cg.imp rfl (AD.mapEntry G9 1 (kvs:=Ch ts (3*t+0)) (x:=((min T.1 T.2.1,max T.1 T.2.1):P2)) (z0:=0) (v:=vq1) rfl rfl Tryz.underlying250 Tryz.zeroValue3 rfl (E7 hn hN _ (by omega)) (Bu (by omega) (by omega)) hvq1 rfl (Cg.backW (W0 1 rfl rfl) (vE rfl (AY (v:=(vN (Co (Ch ts (3*t+0)) ((min T.1 T.2.1,max T.1 T.2.1):P2)))) rfl rfl) rfl (Cg.cut rfl ?_)))))
  refine AD.entryStore 1 (kvs:=Ch ts (3*t+0)) (x:=((min T.1 T.2.1,max T.1 T.2.1):P2)) (u:=vq1) (y:=vq1+1) rfl rfl rfl rfl ?_
  rw [show BC (Ch ts (3*t+0)) ((min T.1 T.2.1,max T.1 T.2.1):P2) (vq1+1)=Ch ts (3*t+1) from by rw [hvq1,hT];exact (IX (ts:=ts) (t:=t) (i:=0) (by omega)).symm]
  refine AP.back (List.nil_sublist _) (AP.nil (AC.subF (sL [1,4,5,20,21,22,7,26] rfl) (AC.in_normal (AC.then_ (AE.region ?_)))))
  refine AH (AT (c:=(1:Int)) rfl rfl (by decide)) rfl (AO rfl (AD.nil (AC.subF (sL [1,4,5,20,21,22,7,26] rfl) (AC.again (F1.step ?_)))))
  refine q4 (AH (Ag (c:=true) rfl rfl (by decide)) rfl (AD.nil (q1 (AE.cond_true rfl (AE.skip ?_)))))
  refine q1 (AE.block (q4 (AO rfl (AL rfl (q6 (sL [1,4,5,20,21,22,7,26,8] rfl) ?_)))))
  refine C7 [(0,true),(1,true),(2,true),(3,true),(4,true),(5,true),(6,true),(7,true),(8,true),(9,true)] sr (Bl rfl (Au (v:=(pP b2 1)) rfl (AG (j:=1) rfl rfl Tryz.underlying76 Tryz.sizeOf3 rfl (by decide) rfl) (Bk 0 (vN T.2.1) B_ rfl (Bl rfl (Au rfl (AT (c:=(2:Int)) rfl rfl (by decide)) ?_)))))
  refine Au rfl (CN (c:=(2:Int)) rfl rfl (by decide) (by decide)) (Au (v:=(pP b2 2)) rfl (AG (j:=2) rfl rfl Tryz.underlying76 Tryz.sizeOf3 rfl (by decide) rfl) (Bk 0 (vN T.2.2) B_ rfl (E5 rfl (E5 rfl (AP.nil ?_)))))
  refine AC.subF (sL [1,4,5,20,21,22,7,26,9,10] rfl) (AC.then_ ?_)
  obtain ⟨vq2,hvq2⟩:∃q,q=(Ab (Ch ts (3*t+1)) ((min T.2.1 T.2.2,max T.2.1 T.2.2):P2)).getD 0:=⟨_,rfl⟩
  refine Xu [(0,true),(1,true),(2,true),(3,true),(4,true),(5,true),(6,true),(7,true),(8,true),(9,true),(10,false),(11,true)] 12 [] (YH 1 (x:=((min T.2.1 T.2.2,max T.2.1 T.2.2):P2)) (v:=vq2) rfl rfl) (List.nil_sublist _) (by kernel_rfl) (λ_ _ d _ _ h=>by cases d<;>exact h) (vM rfl rfl rfl (vM rfl rfl rfl (vM rfl rfl rfl (vE rfl (GP (c:=((min T.2.1 T.2.2:Nat):Int)) rfl rfl (by split<;>omega)) rfl (vM rfl rfl rfl ?_)))))
  refine vM rfl rfl rfl (vE rfl (Fc (c:=((max T.2.1 T.2.2:Nat):Int)) rfl rfl (by split<;>omega)) rfl (vE (v:=(aG ([(vN (min T.2.1 T.2.2)),(vN (max T.2.1 T.2.2))]))) rfl (AS (zs:=Aw ((0,0):P2)) (vs:=[(vN (min T.2.1 T.2.2)),(vN (max T.2.1 T.2.2))]) (pv:=[(0,(vN (min T.2.1 T.2.2))),(1,(vN (max T.2.1 T.2.2)))]) (places:=[(0,1),(1,1)]) Tryz.zeroValue251 Tryz.underlying251 (λw=>by simp [Tryz.sizeOf3]) rfl rfl) rfl (vE (v:=(vN vq2)) rfl (HF G9 1 (kvs:=Ch ts (3*t+1)) (x:=((min T.2.1 T.2.2,max T.2.1 T.2.2):P2)) (z0:=0) rfl rfl Tryz.underlying250 Tryz.zeroValue3 rfl (E7 hn hN _ (by omega)) (Bu (by omega) (by omega)) hvq2) rfl ?_)))
  have hmq:=Mc (ts:=ts) (3*t+1) ((min T.2.1 T.2.2,max T.2.1 T.2.2):P2)
  refine vE rfl (AT (c:=((vq2+1:Nat):Int)) rfl rfl (AR (a:=vq2) (b:=1) (by omega))) rfl (Cg.imp rfl (AD.mapEntry G9 1 (kvs:=Ch ts (3*t+1)) (x:=((min T.2.1 T.2.2,max T.2.1 T.2.2):P2)) (z0:=0) (v:=vq2) rfl rfl Tryz.underlying250 Tryz.zeroValue3 rfl (E7 hn hN _ (by omega)) (Bu (by omega) (by omega)) hvq2 rfl (Cg.backW (W0 1 rfl rfl) (vE rfl (AY (v:=(vN (Co (Ch ts (3*t+1)) ((min T.2.1 T.2.2,max T.2.1 T.2.2):P2)))) rfl rfl) rfl (Cg.cut rfl ?_)))))
  refine AD.entryStore 1 (kvs:=Ch ts (3*t+1)) (x:=((min T.2.1 T.2.2,max T.2.1 T.2.2):P2)) (u:=vq2) (y:=vq2+1) rfl rfl rfl rfl ?_
  rw [show BC (Ch ts (3*t+1)) ((min T.2.1 T.2.2,max T.2.1 T.2.2):P2) (vq2+1)=Ch ts (3*t+2) from by rw [hvq2,hT];exact (IX (ts:=ts) (t:=t) (i:=1) (by omega)).symm]
  refine AP.back (List.nil_sublist _) (AP.nil (AC.subF (sL [1,4,5,20,21,22,7,26] rfl) (AC.in_normal (AC.then_ (AE.region ?_)))))
  refine AH (AT (c:=(2:Int)) rfl rfl (by decide)) rfl (AO rfl (AD.nil (AC.subF (sL [1,4,5,20,21,22,7,26] rfl) (AC.again (F1.step ?_)))))
  refine q4 (AH (Ag (c:=true) rfl rfl (by decide)) rfl (AD.nil (q1 (AE.cond_true rfl (AE.skip ?_)))))
  refine q1 (AE.block (q4 (AO rfl (AL rfl (q6 (sL [1,4,5,20,21,22,7,26,8] rfl) ?_)))))
  refine C7 [(0,true),(1,true),(2,true),(3,true),(4,true),(5,true),(6,true),(7,true),(8,true),(9,true)] sr (Bl rfl (Au (v:=(pP b2 2)) rfl (AG (j:=2) rfl rfl Tryz.underlying76 Tryz.sizeOf3 rfl (by decide) rfl) (Bk 0 (vN T.2.2) B_ rfl (Bl rfl (Au rfl (AT (c:=(3:Int)) rfl rfl (by decide)) ?_)))))
  refine Au rfl (CN (c:=(0:Int)) rfl rfl (by decide) (by decide)) (Au (v:=(pP b2 0)) rfl (AG (j:=0) rfl rfl Tryz.underlying76 Tryz.sizeOf3 rfl (by decide) rfl) (Bk 0 (vN T.1) B_ rfl (E5 rfl (E5 rfl (AP.nil ?_)))))
  refine AC.subF (sL [1,4,5,20,21,22,7,26,9,10] rfl) (AC.then_ ?_)
  obtain ⟨vq3,hvq3⟩:∃q,q=(Ab (Ch ts (3*t+2)) ((min T.2.2 T.1,max T.2.2 T.1):P2)).getD 0:=⟨_,rfl⟩
  refine Xu [(0,true),(1,true),(2,true),(3,true),(4,true),(5,true),(6,true),(7,true),(8,true),(9,true),(10,false),(11,true)] 12 [] (YH 1 (x:=((min T.2.2 T.1,max T.2.2 T.1):P2)) (v:=vq3) rfl rfl) (List.nil_sublist _) (by kernel_rfl) (λ_ _ d _ _ h=>by cases d<;>exact h) (vM rfl rfl rfl (vM rfl rfl rfl (vM rfl rfl rfl (vE rfl (GP (c:=((min T.2.2 T.1:Nat):Int)) rfl rfl (by split<;>omega)) rfl (vM rfl rfl rfl ?_)))))
  refine vM rfl rfl rfl (vE rfl (Fc (c:=((max T.2.2 T.1:Nat):Int)) rfl rfl (by split<;>omega)) rfl (vE (v:=(aG ([(vN (min T.2.2 T.1)),(vN (max T.2.2 T.1))]))) rfl (AS (zs:=Aw ((0,0):P2)) (vs:=[(vN (min T.2.2 T.1)),(vN (max T.2.2 T.1))]) (pv:=[(0,(vN (min T.2.2 T.1))),(1,(vN (max T.2.2 T.1)))]) (places:=[(0,1),(1,1)]) Tryz.zeroValue251 Tryz.underlying251 (λw=>by simp [Tryz.sizeOf3]) rfl rfl) rfl (vE (v:=(vN vq3)) rfl (HF G9 1 (kvs:=Ch ts (3*t+2)) (x:=((min T.2.2 T.1,max T.2.2 T.1):P2)) (z0:=0) rfl rfl Tryz.underlying250 Tryz.zeroValue3 rfl (E7 hn hN _ (by omega)) (Bu (by omega) (by omega)) hvq3) rfl ?_)))
  have hmq:=Mc (ts:=ts) (3*t+2) ((min T.2.2 T.1,max T.2.2 T.1):P2)
  refine vE rfl (AT (c:=((vq3+1:Nat):Int)) rfl rfl (AR (a:=vq3) (b:=1) (by omega))) rfl (Cg.imp rfl (AD.mapEntry G9 1 (kvs:=Ch ts (3*t+2)) (x:=((min T.2.2 T.1,max T.2.2 T.1):P2)) (z0:=0) (v:=vq3) rfl rfl Tryz.underlying250 Tryz.zeroValue3 rfl (E7 hn hN _ (by omega)) (Bu (by omega) (by omega)) hvq3 rfl (Cg.backW (W0 1 rfl rfl) (vE rfl (AY (v:=(vN (Co (Ch ts (3*t+2)) ((min T.2.2 T.1,max T.2.2 T.1):P2)))) rfl rfl) rfl (Cg.cut rfl ?_)))))
  refine AD.entryStore 1 (kvs:=Ch ts (3*t+2)) (x:=((min T.2.2 T.1,max T.2.2 T.1):P2)) (u:=vq3) (y:=vq3+1) rfl rfl rfl rfl ?_
  rw [show BC (Ch ts (3*t+2)) ((min T.2.2 T.1,max T.2.2 T.1):P2) (vq3+1)=Ch ts (3*t+3) from by rw [hvq3,hT];exact (IX (ts:=ts) (t:=t) (i:=2) (by omega)).symm]
  refine AP.back (List.nil_sublist _) (AP.nil (AC.subF (sL [1,4,5,20,21,22,7,26] rfl) (AC.in_normal (AC.then_ (AE.region ?_)))))
  refine AH (AT (c:=(3:Int)) rfl rfl (by decide)) rfl (AO rfl (AD.nil (AC.subF (sL [1,4,5,20,21,22,7,26] rfl) (AC.again (F1.step ?_)))))
  refine q4 (AH (Ag (c:=false) rfl rfl (by decide)) rfl (AD.nil (q1 (AE.cond_false rfl (AE.exit ?_)))))
  refine AC.then_exit (AC.then_exit (AC.in_exit (AC.in_normal (AC.then_ (AE.region ?_)))))
  refine AH (AT (c:=((t+1:Nat):Int)) rfl rfl (AR (a:=t) (b:=1) (by omega))) rfl (AO rfl (AD.nil (AC.subF (sL [1,4,5,20,21,22,7,26] rfl) ?_)))
  rw [show 3*t+3=3*(t+1)+0 by omega]
  exact AC.round1 (t+1) (by omega) (by omega) (sF rfl) (sl sr)
 ·replace hc1:=of_decide_eq_false hc1
  have htl:t=ts.length:=by omega
  refine AE.exit (AC.then_exit (AC.round1_exit (AC.in_exit (q2 (AL rfl ?_)))))
  refine AD.nilRow 44 3 (AD.nil (q1 (q4 (AO rfl ?_))))
  rw [show Ch ts (3*t+0)=(Ch ts (3*ts.length)) by rw [htl,Nat.add_zero]]
  refine cX (S:=S) (cs:=rowsL B4 (A_ ts)) (k:=(A_ ts).length) (args:=[(Value.slice x.p ts.length x.c)]) Tryz.call49 (λw hw=>NV ts x N hn hN hl w (Eu hw 2 rfl lx)) rfl rfl rfl λo lo=>AH (v:=(vN ((A_ ts).length))) (AF rfl Tryz.underlying37) rfl (AO rfl (AD.nil (AC.subF (sL [1,4,5,20,21,22,11,52,53,54] rfl) (AC.then_ ?_))))
  refine AE.block ?_
  refine AE.lp4 (tg λ(i:Nat) (p1:Option Addr) (c1:Nat) (out:List T3)=>i<=(A_ ts).length/\OwnOk p1 out.length c1/\out=H9 ts i) (tg λ(i:Nat) (p1:Option Addr) (c1:Nat) (out:List T3)=>[(4,(Value.slice none 0 0)),(5,(Value.map (some b1))),(52,(Value.slice o.p ((A_ ts).length) o.c)),(53,(vN ((A_ ts).length))),(54,(vN i)),(11,(Value.slice p1 out.length c1))]) (tg λ(i:Nat) (p1:Option Addr) (c1:Nat) (out:List T3)=>[AX o.p (rowsL B4 (A_ ts)),rowW p1 44 3 out.length c1 (rowsL Ai out),Br b1 GN vN (Ch ts (3*ts.length)),AX x.p (rowsL Ai ts)]) (tg λ(i:Nat) (p1:Option Addr) (c1:Nat) (out:List T3)=>(A_ ts).length-i) 0 none 0 ([]:List T3) (⟨Nat.zero_le _,OwnOk.none,rfl⟩) (sF rfl) sr (λi p1 c1 out hJ=>?_)
  obtain ⟨hi,ho,hou⟩:=hJ
  have hol:=NT (ts:=ts) i
  rw [<-hou] at hol
  refine q4 (AH (Ag (c:=(decide (i<((A_ ts).length)))) rfl rfl (DA (a:=i) (b:=(A_ ts).length))) rfl (AD.nil (q1 ?_)))
  refine AE.cond rfl (λhc3=>?_) (λhc3=>?_)
  ·replace hc3:=of_decide_eq_true hc3
   have hel:=HY (ts:=ts) (3*ts.length)
   rw [<-HT] at hel
   have hmem:((A_ ts).getD i (⟨0,0,0,0⟩:E4))∈A_ ts:=by rw [List.getD,List.getElem?_eq_getElem hc3];exact List.getElem_mem hc3
   obtain ⟨hea,heb⟩:=D7 hn hN _ hmem
   refine AE.skip (q1 (AE.block (q4 (AH (v:=(pP (pB o.p) (pO o.p+i*4))) (AQ (j:=i) rfl rfl o.ok Tryz.underlying37 Tryz.sizeOf110 rfl (by omega)) rfl (AH (v:=(aG (B4 ((A_ ts).getD i (⟨0,0,0,0⟩:E4))))) (AZ (vs:=B4 ((A_ ts).getD i (⟨0,0,0,0⟩:E4))) (i:=0) rfl rfl (BL.ne o.ok (by omega)) Jh (A7 DO _ _ _ (by omega)) (DO _)) rfl ?_)))))
   refine al Jw rfl λb2=>A6 rfl Tryz.sizeOf110 rfl (q3 (sL [4,5,52,53,54,11,13] rfl) (AO rfl (AH (v:=(pP b2 0)) (AA rfl Tryz.underlying110 rfl Tryz.sizeOf3 rfl) rfl (BI 0 (vN (((A_ ts).getD i (⟨0,0,0,0⟩:E4)).a)) B_ rfl ?_))))
   refine AH (v:=(pP b2 1)) (AA rfl Tryz.underlying110 rfl Tryz.sizeOf3 rfl) rfl (BI 0 (vN (((A_ ts).getD i (⟨0,0,0,0⟩:E4)).b)) B_ rfl (AH (v:=(aG ([(vN (((A_ ts).getD i (⟨0,0,0,0⟩:E4)).a)),(vN (((A_ ts).getD i (⟨0,0,0,0⟩:E4)).b))]))) (AS (zs:=Aw ((0,0):P2)) (vs:=[(vN (((A_ ts).getD i (⟨0,0,0,0⟩:E4)).a)),(vN (((A_ ts).getD i (⟨0,0,0,0⟩:E4)).b))]) (pv:=[(0,(vN (((A_ ts).getD i (⟨0,0,0,0⟩:E4)).a))),(1,(vN (((A_ ts).getD i (⟨0,0,0,0⟩:E4)).b)))]) (places:=[(0,1),(1,1)]) Tryz.zeroValue251 Tryz.underlying251 (λw=>by simp [Tryz.sizeOf3]) rfl rfl) rfl (AH (v:=(vN ((Ab (Ch ts (3*ts.length)) ((((A_ ts).getD i (⟨0,0,0,0⟩:E4)).a,((A_ ts).getD i (⟨0,0,0,0⟩:E4)).b):P2)).getD 0))) (Bi G9 3 (eV:=vN) (kvs:=(Ch ts (3*ts.length))) (x:=((((A_ ts).getD i (⟨0,0,0,0⟩:E4)).a,((A_ ts).getD i (⟨0,0,0,0⟩:E4)).b):P2)) (z0:=0) (co:=false) rfl rfl Tryz.underlying250 Tryz.zeroValue3 rfl (E7 hn hN _ (by omega)) (XA (by omega) (by omega))) rfl (AH (Bp (c:=(decide (((Ab (Ch ts (3*ts.length)) ((((A_ ts).getD i (⟨0,0,0,0⟩:E4)).a,((A_ ts).getD i (⟨0,0,0,0⟩:E4)).b):P2)).getD 0)=1))) rfl rfl (Pm (a:=(Ab (Ch ts (3*ts.length)) ((((A_ ts).getD i (⟨0,0,0,0⟩:E4)).a,((A_ ts).getD i (⟨0,0,0,0⟩:E4)).b):P2)).getD 0) (b:=1))) rfl (AD.nil ?_)))))
   refine AC.subF (sL [4,5,52,53,54,11,13,65] rfl) (AC.then_ ?_)
   refine AE.cond rfl (λhc4=>?_) (λhc4=>?_)
   ·replace hc4:=of_decide_eq_true hc4
    refine AE.region (AO rfl (AH (v:=(pP b2 0)) (AA rfl Tryz.underlying110 rfl Tryz.sizeOf3 rfl) rfl (BI 0 (vN (((A_ ts).getD i (⟨0,0,0,0⟩:E4)).a)) B_ rfl (AH (v:=(pP b2 1)) (AA rfl Tryz.underlying110 rfl Tryz.sizeOf3 rfl) rfl (BI 0 (vN (((A_ ts).getD i (⟨0,0,0,0⟩:E4)).b)) B_ rfl ?_)))))
    refine AH (v:=(aG ([(vN (((A_ ts).getD i (⟨0,0,0,0⟩:E4)).a)),(vN (((A_ ts).getD i (⟨0,0,0,0⟩:E4)).b)),(vI 0)]))) (AS (zs:=Ai ((0,0,0):Nat×Nat×Nat)) (vs:=[(vN (((A_ ts).getD i (⟨0,0,0,0⟩:E4)).a)),(vN (((A_ ts).getD i (⟨0,0,0,0⟩:E4)).b)),(vI 0)]) (pv:=[(0,(vN (((A_ ts).getD i (⟨0,0,0,0⟩:E4)).a))),(1,(vN (((A_ ts).getD i (⟨0,0,0,0⟩:E4)).b)))]) (places:=[(0,1),(1,1),(2,1)]) Tryz.zeroValue44 Tryz.underlying44 (λw=>by simp [Tryz.sizeOf3]) rfl rfl) rfl (AD.openV (V:=λb3=>(Value.slice (some ⟨b3,0,none⟩) 1 1)) (T:=44) (cs:=Ai (((A_ ts).getD i (⟨0,0,0,0⟩:E4)).a,((A_ ts).getD i (⟨0,0,0,0⟩:E4)).b,0)) (AN rfl) (Ah (z:=.agg (Ai ((0,0,0):Nat×Nat×Nat)).toArray) (cs:=Ai (((A_ ts).getD i (⟨0,0,0,0⟩:E4)).a,((A_ ts).getD i (⟨0,0,0,0⟩:E4)).b,0)) (pv:=[(0,(aG ([(vN (((A_ ts).getD i (⟨0,0,0,0⟩:E4)).a)),(vN (((A_ ts).getD i (⟨0,0,0,0⟩:E4)).b)),(vI 0)])))]) Tryz.underlying29 Tryz.sizeOf44 Tryz.zeroValue44 (by decide) (by decide) rfl (Jt (((A_ ts).getD i (⟨0,0,0,0⟩:E4)).a,((A_ ts).getD i (⟨0,0,0,0⟩:E4)).b,0))) rfl (Af rfl) λb3=>AD.appendAt 3 (j:=0) (cs2:=rowsL Ai (out++[(((A_ ts).getD i (⟨0,0,0,0⟩:E4)).a,((A_ ts).getD i (⟨0,0,0,0⟩:E4)).b,0)])) WU rfl ho (Aj Aq _) rfl rfl rfl rfl rfl (by decide) (HM (by omega)) (by omega) (by rw [BN];rfl) rfl λp_1 c_1 ho_1 hne_1=>AL rfl (AD.nil (AC.subF (sL [4,5,52,53,54,11,13] rfl) ?_)))
    refine AC.in_normal (AC.then_ (AE.region (AH (AT (c:=((i+1:Nat):Int)) rfl rfl (AR (a:=i) (b:=1) (by omega))) rfl (AO rfl (AD.nil ?_)))))
    refine AC.subF (sL [4,5,52,53,54,11,13] rfl) ?_
    rw [show out.length+1=(out++[(((A_ ts).getD i (⟨0,0,0,0⟩:E4)).a,((A_ ts).getD i (⟨0,0,0,0⟩:E4)).b,0)]).length by simp]
    exact AC.round4 (i+1) p_1 c_1 (out++[(((A_ ts).getD i (⟨0,0,0,0⟩:E4)).a,((A_ ts).getD i (⟨0,0,0,0⟩:E4)).b,0)]) (⟨by omega,(by simpa using ho_1),by rw [hou];exact (Su (by omega) hc4).symm⟩) (by omega) (sF rfl) (sl (sl sr))
   ·replace hc4:=of_decide_eq_false hc4
    refine AE.skip (AC.in_normal (AC.then_ (AE.region (AH (AT (c:=((i+1:Nat):Int)) rfl rfl (AR (a:=i) (b:=1) (by omega))) rfl (AO rfl ?_)))))
    exact AD.nil (AC.subF (sL [4,5,52,53,54,11,13] rfl) (AC.round4 (i+1) p1 c1 out (⟨by omega,ho,by rw [hou];exact (VN (by omega) hc4).symm⟩) (by omega) (sF rfl) (sl sr)))
  ·replace hc3:=of_decide_eq_false hc3
   refine AE.exit (AC.then_exit (AC.round4_exit (AC.in_exit (q2 (AO rfl ?_)))))
   exact BY Tryz.call51 (OC p1 out.length c1 ho.row.le) rfl (AL rfl (AD.nil (AC.subF (sL [4,5,52,53,54,11] rfl) (AC.then_ (AE.ret (AU rfl (Am (v:=(Value.slice p1 out.length out.length)) rfl) (λw hw=>(by rw [show CC ts=out by rw [hou,show i=(A_ ts).length by omega];rfl];exact TW hw (OX.mk p1 c1 ho) (sl (sk (sl (sl sr)))) (J9.own rfl J9.nil) rfl))))))))
end
end Go.Proofs.YtfbomiejpbchdaaGreat
