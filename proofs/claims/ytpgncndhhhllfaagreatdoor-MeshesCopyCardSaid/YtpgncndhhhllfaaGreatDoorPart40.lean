import Derived.Test.YtpgncndhhhllfaaGreatDoorPart06
import Derived.Test.YtpgncndhhhllfaaGreatDoorPart34
namespace Go.Proofs.YtpgncndhhhllfaaGreatDoor
open Go Go.RowKit Go.Proofs.Tryz
set_option linter.unusedVariables false
set_option linter.unusedSimpArgs false
section
set_option maxRecDepth 100000
theorem GZ:Nh Tryz.prog 215 IB OD where
 law:=.of_law (deep_law_laid Uw (m:=2) (by decide) (by decide +kernel) (by kernel_rfl) (by kernel_rfl))
 key:=λa h=>KA Tryz.underlying215 ⟨rfl,rfl⟩ ⟨rfl,rfl⟩ (by decide +kernel) Tryz.underlying3 (by kernel_rfl) (by kernel_rfl) (by kernel_rfl) (by decide +kernel) (LQ h.1) (LQ h.2)
 inj:=λa b h=>L4 h
theorem JJ (x0:Nat×Nat×Nat):Instr.fill (λi=>some (i*3,3)) ((Array.range (1*3)).map ((Value.agg (BA ((0,0,0):Nat×Nat×Nat)).toArray).cells[·%(Value.agg (BA ((0,0,0):Nat×Nat×Nat)).toArray).cells.size]!)) [(0,.agg (BA x0).toArray)]=some (BA x0).toArray:=by kernel_rfl
set_option maxHeartbeats 4000000 in
theorem Vp (ts:List T3) (x:RX (rowsL BA ts) ts.length) (pp:Option Addr) (N pc:Nat) (hn:DK N ts=true) (hN:N<=4611686018427387904) (hl:ts.length<=1000000000) (w:World) {S:Nat->Prop} (hx:Ro S w x):Calls Tryz.prog 73 #[(Value.slice pp N pc),(Value.slice x.p ts.length x.c)] w (Gj Wy (UZ (T:=55) (z:=3) (cs:=rowsL BA (Il ts)) (n:=(Il ts).length)) S w):=by
 have lx:=Cx (W:=w) hx
 refine Aj (args:=[(Value.slice pp N pc),(Value.slice x.p ts.length x.c)]) (L:=[AG x.p (rowsL BA ts)]) Tryz.func73 rfl rfl (AV rfl) (Ds hx Ax) (AE.subF (sL [0,1] rfl) (q4 (asg' rfl (AD.nil (q1 ?_)))))
 refine q4 (AQ rfl (AQ rfl (AK (v:=(vN N)) (AF rfl Tryz.underlying28) rfl (CN (args:=[(Value.slice x.p ts.length x.c),(vN N)]) (v:=(Value.bool true)) Tryz.call132 (λw hw=>(by have h9:=OM N ts x (by omega) w (inS hw 0 rfl lx);rw [hn] at h9;exact h9)) rfl (AK (BF (c:=false) rfl rfl) rfl ?_)))))
 refine AD.nil (AC.subF (sL [1,4,18] rfl) (AC.then_ (AE.cond_false rfl (AE.skip (q2 ?_)))))
 refine AD.makeMap IB vN (AW rfl) rfl λb1=>asg' rfl (q6 (sL [1,4,5] rfl) (q4 (AQ rfl (AK (v:=(vN ts.length)) (AF rfl Tryz.underlying23) rfl ?_))))
 refine AQ rfl (AD.nil (AC.then_ (AE.block ?_)))
 refine AE.lp1 (tg λ(t:Nat)=>t<=ts.length) (tg λ(t:Nat)=>[(1,(Value.slice x.p ts.length x.c)),(4,(Value.slice none 0 0)),(5,(Value.map (some b1))),(20,(Value.slice x.p ts.length x.c)),(21,(vN ts.length)),(22,(vN t))]) (tg λ(t:Nat)=>[DB b1 IB vN (CT ts (3*t+0)),AG x.p (rowsL BA ts)]) (tg λ(t:Nat)=>ts.length-t) 0 (Nat.zero_le _) (sF rfl) sr (λt hJ=>?_)
 have ht:=hJ
 refine q4 (AK (Ai (c:=(decide (t<ts.length))) rfl rfl (CI (a:=t) (b:=ts.length))) rfl (AD.nil (q1 ?_)))
 refine AE.cond rfl (λhc1=>?_) (λhc1=>?_)
 ·replace hc1:=of_decide_eq_true hc1
  obtain ⟨T,hT⟩:∃q,q=ts.getD t (0,0,0):=⟨_,rfl⟩
  obtain ⟨g1,g2,g3⟩:=DV (DD hn hc1)
  rw [<-hT] at g1 g2 g3
  refine AE.skip (q1 (AE.block (q4 (AK (v:=(pP (pB x.p) (pO x.p+t*3))) (AO (j:=t) rfl rfl x.ok Tryz.underlying23 Tryz.sizeOf53 rfl (by omega)) rfl (AK (v:=(aG (BA (ts.getD t ((0,0,0):Nat×Nat×Nat))))) (AT (vs:=BA (ts.getD t ((0,0,0):Nat×Nat×Nat))) (i:=1) rfl rfl (A7.ne x.ok (by omega)) Gx (Aq Be _ _ _ (by omega)) (Be _)) rfl ?_)))))
  refine AD.retell (k:=25) (u:=(aG (BA T))) rfl (by rw [hT]) (al Ng rfl λb2=>A8 rfl Tryz.sizeOf53 rfl (q3 (sL [1,4,5,20,21,22,7] rfl) (AQ rfl (AD.nil ?_))))
  refine AC.then_ (AE.block (AE.unroll 4 (FY.step (q4 (AK (Ai (c:=true) rfl rfl (by decide)) rfl ?_)))))
  refine AD.nil (q1 (AE.cond_true rfl (AE.skip (q1 (AE.block ?_)))))
  refine q4 (AQ rfl (asg' rfl (q6 (sL [1,4,5,20,21,22,7,26,8] rfl) (CS [(0,true),(1,true),(2,true),(3,true),(4,true),(5,true),(6,true),(7,true),(8,true),(9,true)] sr (BT rfl ?_)))))
  refine Ap (v:=(pP b2 0)) rfl (AI (j:=0) rfl rfl Tryz.underlying53 Tryz.sizeOf3 rfl (by decide) rfl) (Ba 0 (vN T.1) Bo rfl (BT rfl (Ap rfl (Ac (c:=(1:Int)) rfl rfl (by decide)) (Ap rfl (Cb (c:=(1:Int)) rfl rfl (by decide) (by decide)) (Ap (v:=(pP b2 1)) rfl (AI (j:=1) rfl rfl Tryz.underlying53 Tryz.sizeOf3 rfl (by decide) rfl) ?_)))))
  refine Ba 0 (vN T.2.1) Bo rfl (pS' rfl (pS' rfl (OkE.nil (AC.subF (sL [1,4,5,20,21,22,7,26,9,10] rfl) (AC.then_ ?_)))))
  obtain ⟨vq1,hvq1⟩:∃q,q=(BB (CT ts (3*t+0)) ((min T.1 T.2.1,max T.1 T.2.1):P2)).getD 0:=⟨_,rfl⟩
  refine XH [(0,true),(1,true),(2,true),(3,true),(4,true),(5,true),(6,true),(7,true),(8,true),(9,true),(10,false),(11,true)] 12 [] (X_ 1 (x:=((min T.1 T.2.1,max T.1 T.2.1):P2)) (v:=vq1) rfl rfl) (List.nil_sublist _) (by kernel_rfl) (λ_ _ d _ _ h=>by cases d<;>exact h) (vM rfl rfl rfl (vM rfl rfl rfl (vM rfl rfl rfl (vE rfl (Fg (c:=((min T.1 T.2.1:Nat):Int)) rfl rfl (by split<;>omega)) rfl (vM rfl rfl rfl ?_)))))
  refine vM rfl rfl rfl (vE rfl (Er (c:=((max T.1 T.2.1:Nat):Int)) rfl rfl (by split<;>omega)) rfl (vE (v:=(aG ([(vN (min T.1 T.2.1)),(vN (max T.1 T.2.1))]))) rfl (AU (zs:=Gw ((0,0):P2)) (vs:=[(vN (min T.1 T.2.1)),(vN (max T.1 T.2.1))]) (pv:=[(0,(vN (min T.1 T.2.1))),(1,(vN (max T.1 T.2.1)))]) (places:=[(0,1),(1,1)]) Tryz.zeroValue215 Tryz.underlying215 (λw=>by simp [Tryz.sizeOf3]) rfl rfl) rfl (vE (v:=(vN vq1)) rfl (GU GZ 1 (kvs:=CT ts (3*t+0)) (x:=((min T.1 T.2.1,max T.1 T.2.1):P2)) (z0:=0) rfl rfl Tryz.underlying213 Tryz.zeroValue3 rfl (Ef hn hN _ (by omega)) (DP (by omega) (by omega)) hvq1) rfl ?_)))
  have hmq:=LJ (ts:=ts) (3*t+0) ((min T.1 T.2.1,max T.1 T.2.1):P2)
  refine vE rfl (Ac (c:=((vq1+1:Nat):Int)) rfl rfl (Ae (a:=vq1) (b:=1) (by omega))) rfl (CZ.imp rfl (AD.mapEntry GZ 1 (kvs:=CT ts (3*t+0)) (x:=((min T.1 T.2.1,max T.1 T.2.1):P2)) (z0:=0) (v:=vq1) rfl rfl Tryz.underlying213 Tryz.zeroValue3 rfl (Ef hn hN _ (by omega)) (DP (by omega) (by omega)) hvq1 rfl (CZ.backW (VZ 1 rfl rfl) (vE rfl (AZ (v:=(vN (Cm (CT ts (3*t+0)) ((min T.1 T.2.1,max T.1 T.2.1):P2)))) rfl rfl) rfl (CZ.cut rfl ?_)))))
  refine AD.entryStore 1 (kvs:=CT ts (3*t+0)) (x:=((min T.1 T.2.1,max T.1 T.2.1):P2)) (u:=vq1) (y:=vq1+1) rfl rfl rfl rfl ?_
  rw [show BW (CT ts (3*t+0)) ((min T.1 T.2.1,max T.1 T.2.1):P2) (vq1+1)=CT ts (3*t+1) from by rw [hvq1,hT];exact (HU (ts:=ts) (t:=t) (i:=0) (by omega)).symm]
  refine OkE.back (List.nil_sublist _) (OkE.nil (AC.subF (sL [1,4,5,20,21,22,7,26] rfl) (AC.in_normal (AC.then_ (AE.region ?_)))))
  refine AK (Ac (c:=(1:Int)) rfl rfl (by decide)) rfl (AQ rfl (AD.nil (AC.subF (sL [1,4,5,20,21,22,7,26] rfl) (AC.again (FY.step ?_)))))
  refine q4 (AK (Ai (c:=true) rfl rfl (by decide)) rfl (AD.nil (q1 (AE.cond_true rfl (AE.skip ?_)))))
  refine q1 (AE.block (q4 (AQ rfl (asg' rfl (q6 (sL [1,4,5,20,21,22,7,26,8] rfl) ?_)))))
  refine CS [(0,true),(1,true),(2,true),(3,true),(4,true),(5,true),(6,true),(7,true),(8,true),(9,true)] sr (BT rfl (Ap (v:=(pP b2 1)) rfl (AI (j:=1) rfl rfl Tryz.underlying53 Tryz.sizeOf3 rfl (by decide) rfl) (Ba 0 (vN T.2.1) Bo rfl (BT rfl (Ap rfl (Ac (c:=(2:Int)) rfl rfl (by decide)) ?_)))))
  refine Ap rfl (Cb (c:=(2:Int)) rfl rfl (by decide) (by decide)) (Ap (v:=(pP b2 2)) rfl (AI (j:=2) rfl rfl Tryz.underlying53 Tryz.sizeOf3 rfl (by decide) rfl) (Ba 0 (vN T.2.2) Bo rfl (pS' rfl (pS' rfl (OkE.nil ?_)))))
  refine AC.subF (sL [1,4,5,20,21,22,7,26,9,10] rfl) (AC.then_ ?_)
  obtain ⟨vq2,hvq2⟩:∃q,q=(BB (CT ts (3*t+1)) ((min T.2.1 T.2.2,max T.2.1 T.2.2):P2)).getD 0:=⟨_,rfl⟩
  refine XH [(0,true),(1,true),(2,true),(3,true),(4,true),(5,true),(6,true),(7,true),(8,true),(9,true),(10,false),(11,true)] 12 [] (X_ 1 (x:=((min T.2.1 T.2.2,max T.2.1 T.2.2):P2)) (v:=vq2) rfl rfl) (List.nil_sublist _) (by kernel_rfl) (λ_ _ d _ _ h=>by cases d<;>exact h) (vM rfl rfl rfl (vM rfl rfl rfl (vM rfl rfl rfl (vE rfl (Fg (c:=((min T.2.1 T.2.2:Nat):Int)) rfl rfl (by split<;>omega)) rfl (vM rfl rfl rfl ?_)))))
  refine vM rfl rfl rfl (vE rfl (Er (c:=((max T.2.1 T.2.2:Nat):Int)) rfl rfl (by split<;>omega)) rfl (vE (v:=(aG ([(vN (min T.2.1 T.2.2)),(vN (max T.2.1 T.2.2))]))) rfl (AU (zs:=Gw ((0,0):P2)) (vs:=[(vN (min T.2.1 T.2.2)),(vN (max T.2.1 T.2.2))]) (pv:=[(0,(vN (min T.2.1 T.2.2))),(1,(vN (max T.2.1 T.2.2)))]) (places:=[(0,1),(1,1)]) Tryz.zeroValue215 Tryz.underlying215 (λw=>by simp [Tryz.sizeOf3]) rfl rfl) rfl (vE (v:=(vN vq2)) rfl (GU GZ 1 (kvs:=CT ts (3*t+1)) (x:=((min T.2.1 T.2.2,max T.2.1 T.2.2):P2)) (z0:=0) rfl rfl Tryz.underlying213 Tryz.zeroValue3 rfl (Ef hn hN _ (by omega)) (DP (by omega) (by omega)) hvq2) rfl ?_)))
  have hmq:=LJ (ts:=ts) (3*t+1) ((min T.2.1 T.2.2,max T.2.1 T.2.2):P2)
  refine vE rfl (Ac (c:=((vq2+1:Nat):Int)) rfl rfl (Ae (a:=vq2) (b:=1) (by omega))) rfl (CZ.imp rfl (AD.mapEntry GZ 1 (kvs:=CT ts (3*t+1)) (x:=((min T.2.1 T.2.2,max T.2.1 T.2.2):P2)) (z0:=0) (v:=vq2) rfl rfl Tryz.underlying213 Tryz.zeroValue3 rfl (Ef hn hN _ (by omega)) (DP (by omega) (by omega)) hvq2 rfl (CZ.backW (VZ 1 rfl rfl) (vE rfl (AZ (v:=(vN (Cm (CT ts (3*t+1)) ((min T.2.1 T.2.2,max T.2.1 T.2.2):P2)))) rfl rfl) rfl (CZ.cut rfl ?_)))))
  refine AD.entryStore 1 (kvs:=CT ts (3*t+1)) (x:=((min T.2.1 T.2.2,max T.2.1 T.2.2):P2)) (u:=vq2) (y:=vq2+1) rfl rfl rfl rfl ?_
  rw [show BW (CT ts (3*t+1)) ((min T.2.1 T.2.2,max T.2.1 T.2.2):P2) (vq2+1)=CT ts (3*t+2) from by rw [hvq2,hT];exact (HU (ts:=ts) (t:=t) (i:=1) (by omega)).symm]
  refine OkE.back (List.nil_sublist _) (OkE.nil (AC.subF (sL [1,4,5,20,21,22,7,26] rfl) (AC.in_normal (AC.then_ (AE.region ?_)))))
  refine AK (Ac (c:=(2:Int)) rfl rfl (by decide)) rfl (AQ rfl (AD.nil (AC.subF (sL [1,4,5,20,21,22,7,26] rfl) (AC.again (FY.step ?_)))))
  refine q4 (AK (Ai (c:=true) rfl rfl (by decide)) rfl (AD.nil (q1 (AE.cond_true rfl (AE.skip ?_)))))
  refine q1 (AE.block (q4 (AQ rfl (asg' rfl (q6 (sL [1,4,5,20,21,22,7,26,8] rfl) ?_)))))
  refine CS [(0,true),(1,true),(2,true),(3,true),(4,true),(5,true),(6,true),(7,true),(8,true),(9,true)] sr (BT rfl (Ap (v:=(pP b2 2)) rfl (AI (j:=2) rfl rfl Tryz.underlying53 Tryz.sizeOf3 rfl (by decide) rfl) (Ba 0 (vN T.2.2) Bo rfl (BT rfl (Ap rfl (Ac (c:=(3:Int)) rfl rfl (by decide)) ?_)))))
  refine Ap rfl (Cb (c:=(0:Int)) rfl rfl (by decide) (by decide)) (Ap (v:=(pP b2 0)) rfl (AI (j:=0) rfl rfl Tryz.underlying53 Tryz.sizeOf3 rfl (by decide) rfl) (Ba 0 (vN T.1) Bo rfl (pS' rfl (pS' rfl (OkE.nil ?_)))))
  refine AC.subF (sL [1,4,5,20,21,22,7,26,9,10] rfl) (AC.then_ ?_)
  obtain ⟨vq3,hvq3⟩:∃q,q=(BB (CT ts (3*t+2)) ((min T.2.2 T.1,max T.2.2 T.1):P2)).getD 0:=⟨_,rfl⟩
  refine XH [(0,true),(1,true),(2,true),(3,true),(4,true),(5,true),(6,true),(7,true),(8,true),(9,true),(10,false),(11,true)] 12 [] (X_ 1 (x:=((min T.2.2 T.1,max T.2.2 T.1):P2)) (v:=vq3) rfl rfl) (List.nil_sublist _) (by kernel_rfl) (λ_ _ d _ _ h=>by cases d<;>exact h) (vM rfl rfl rfl (vM rfl rfl rfl (vM rfl rfl rfl (vE rfl (Fg (c:=((min T.2.2 T.1:Nat):Int)) rfl rfl (by split<;>omega)) rfl (vM rfl rfl rfl ?_)))))
  refine vM rfl rfl rfl (vE rfl (Er (c:=((max T.2.2 T.1:Nat):Int)) rfl rfl (by split<;>omega)) rfl (vE (v:=(aG ([(vN (min T.2.2 T.1)),(vN (max T.2.2 T.1))]))) rfl (AU (zs:=Gw ((0,0):P2)) (vs:=[(vN (min T.2.2 T.1)),(vN (max T.2.2 T.1))]) (pv:=[(0,(vN (min T.2.2 T.1))),(1,(vN (max T.2.2 T.1)))]) (places:=[(0,1),(1,1)]) Tryz.zeroValue215 Tryz.underlying215 (λw=>by simp [Tryz.sizeOf3]) rfl rfl) rfl (vE (v:=(vN vq3)) rfl (GU GZ 1 (kvs:=CT ts (3*t+2)) (x:=((min T.2.2 T.1,max T.2.2 T.1):P2)) (z0:=0) rfl rfl Tryz.underlying213 Tryz.zeroValue3 rfl (Ef hn hN _ (by omega)) (DP (by omega) (by omega)) hvq3) rfl ?_)))
  have hmq:=LJ (ts:=ts) (3*t+2) ((min T.2.2 T.1,max T.2.2 T.1):P2)
  refine vE rfl (Ac (c:=((vq3+1:Nat):Int)) rfl rfl (Ae (a:=vq3) (b:=1) (by omega))) rfl (CZ.imp rfl (AD.mapEntry GZ 1 (kvs:=CT ts (3*t+2)) (x:=((min T.2.2 T.1,max T.2.2 T.1):P2)) (z0:=0) (v:=vq3) rfl rfl Tryz.underlying213 Tryz.zeroValue3 rfl (Ef hn hN _ (by omega)) (DP (by omega) (by omega)) hvq3 rfl (CZ.backW (VZ 1 rfl rfl) (vE rfl (AZ (v:=(vN (Cm (CT ts (3*t+2)) ((min T.2.2 T.1,max T.2.2 T.1):P2)))) rfl rfl) rfl (CZ.cut rfl ?_)))))
  refine AD.entryStore 1 (kvs:=CT ts (3*t+2)) (x:=((min T.2.2 T.1,max T.2.2 T.1):P2)) (u:=vq3) (y:=vq3+1) rfl rfl rfl rfl ?_
  rw [show BW (CT ts (3*t+2)) ((min T.2.2 T.1,max T.2.2 T.1):P2) (vq3+1)=CT ts (3*t+3) from by rw [hvq3,hT];exact (HU (ts:=ts) (t:=t) (i:=2) (by omega)).symm]
  refine OkE.back (List.nil_sublist _) (OkE.nil (AC.subF (sL [1,4,5,20,21,22,7,26] rfl) (AC.in_normal (AC.then_ (AE.region ?_)))))
  refine AK (Ac (c:=(3:Int)) rfl rfl (by decide)) rfl (AQ rfl (AD.nil (AC.subF (sL [1,4,5,20,21,22,7,26] rfl) (AC.again (FY.step ?_)))))
  refine q4 (AK (Ai (c:=false) rfl rfl (by decide)) rfl (AD.nil (q1 (AE.cond_false rfl (AE.exit ?_)))))
  refine AC.then_exit (AC.then_exit (AC.in_exit (AC.in_normal (AC.then_ (AE.region ?_)))))
  refine AK (Ac (c:=((t+1:Nat):Int)) rfl rfl (Ae (a:=t) (b:=1) (by omega))) rfl (AQ rfl (AD.nil (AC.subF (sL [1,4,5,20,21,22,7,26] rfl) ?_)))
  rw [show 3*t+3=3*(t+1)+0 by omega]
  exact AC.round1 (t+1) (by omega) (by omega) (sF rfl) (sl sr)
 ·replace hc1:=of_decide_eq_false hc1
  have htl:t=ts.length:=by omega
  refine AE.exit (AC.then_exit (AC.round1_exit (AC.in_exit (q2 (asg' rfl ?_)))))
  refine AD.nilRow 55 3 (AD.nil (q1 (q4 (AQ rfl ?_))))
  rw [show CT ts (3*t+0)=(CT ts (3*ts.length)) by rw [htl,Nat.add_zero]]
  refine cX (S:=S) (cs:=rowsL B6 (B0 ts)) (k:=(B0 ts).length) (args:=[(Value.slice x.p ts.length x.c)]) Tryz.call93 (λw hw=>Mh ts x N hn hN hl w (inS hw 2 rfl lx)) rfl rfl rfl λo lo=>AK (v:=(vN ((B0 ts).length))) (AF rfl Tryz.underlying88) rfl (AQ rfl (AD.nil (AC.subF (sL [1,4,5,20,21,22,11,52,53,54] rfl) (AC.then_ ?_))))
  refine AE.block ?_
  refine AE.lp4 (tg λ(i:Nat) (p1:Option Addr) (c1:Nat) (out:List T3)=>i<=(B0 ts).length/\OwnOk p1 out.length c1/\out=Js ts i) (tg λ(i:Nat) (p1:Option Addr) (c1:Nat) (out:List T3)=>[(4,(Value.slice none 0 0)),(5,(Value.map (some b1))),(52,(Value.slice o.p ((B0 ts).length) o.c)),(53,(vN ((B0 ts).length))),(54,(vN i)),(11,(Value.slice p1 out.length c1))]) (tg λ(i:Nat) (p1:Option Addr) (c1:Nat) (out:List T3)=>[AG o.p (rowsL B6 (B0 ts)),rowW p1 55 3 out.length c1 (rowsL BA out),DB b1 IB vN (CT ts (3*ts.length)),AG x.p (rowsL BA ts)]) (tg λ(i:Nat) (p1:Option Addr) (c1:Nat) (out:List T3)=>(B0 ts).length-i) 0 none 0 ([]:List T3) (⟨Nat.zero_le _,OwnOk.none,rfl⟩) (sF rfl) sr (λi p1 c1 out hJ=>?_)
  obtain ⟨hi,ho,hou⟩:=hJ
  have hol:=SZ (ts:=ts) i
  rw [<-hou] at hol
  refine q4 (AK (Ai (c:=(decide (i<((B0 ts).length)))) rfl rfl (CI (a:=i) (b:=(B0 ts).length))) rfl (AD.nil (q1 ?_)))
  refine AE.cond rfl (λhc3=>?_) (λhc3=>?_)
  ·replace hc3:=of_decide_eq_true hc3
   have hel:=Ko (ts:=ts) (3*ts.length)
   rw [<-K4] at hel
   have hmem:((B0 ts).getD i (⟨0,0,0,0⟩:E4))∈B0 ts:=by rw [List.getD,List.getElem?_eq_getElem hc3];exact List.getElem_mem hc3
   obtain ⟨hea,heb⟩:=Sw hn hN _ hmem
   refine AE.skip (q1 (AE.block (q4 (AK (v:=(pP (pB o.p) (pO o.p+i*4))) (AO (j:=i) rfl rfl o.ok Tryz.underlying88 Tryz.sizeOf91 rfl (by omega)) rfl (AK (v:=(aG (B6 ((B0 ts).getD i (⟨0,0,0,0⟩:E4))))) (AT (vs:=B6 ((B0 ts).getD i (⟨0,0,0,0⟩:E4))) (i:=0) rfl rfl (A7.ne o.ok (by omega)) Mj (Aq Cl _ _ _ (by omega)) (Cl _)) rfl ?_)))))
   refine al R7 rfl λb2=>A8 rfl Tryz.sizeOf91 rfl (q3 (sL [4,5,52,53,54,11,13] rfl) (AQ rfl (AK (v:=(pP b2 0)) (AA rfl Tryz.underlying91 rfl Tryz.sizeOf3 rfl) rfl (BJ 0 (vN (((B0 ts).getD i (⟨0,0,0,0⟩:E4)).a)) Bo rfl ?_))))
   refine AK (v:=(pP b2 1)) (AA rfl Tryz.underlying91 rfl Tryz.sizeOf3 rfl) rfl (BJ 0 (vN (((B0 ts).getD i (⟨0,0,0,0⟩:E4)).b)) Bo rfl (AK (v:=(aG ([(vN (((B0 ts).getD i (⟨0,0,0,0⟩:E4)).a)),(vN (((B0 ts).getD i (⟨0,0,0,0⟩:E4)).b))]))) (AU (zs:=Gw ((0,0):P2)) (vs:=[(vN (((B0 ts).getD i (⟨0,0,0,0⟩:E4)).a)),(vN (((B0 ts).getD i (⟨0,0,0,0⟩:E4)).b))]) (pv:=[(0,(vN (((B0 ts).getD i (⟨0,0,0,0⟩:E4)).a))),(1,(vN (((B0 ts).getD i (⟨0,0,0,0⟩:E4)).b)))]) (places:=[(0,1),(1,1)]) Tryz.zeroValue215 Tryz.underlying215 (λw=>by simp [Tryz.sizeOf3]) rfl rfl) rfl (AK (v:=(vN ((BB (CT ts (3*ts.length)) ((((B0 ts).getD i (⟨0,0,0,0⟩:E4)).a,((B0 ts).getD i (⟨0,0,0,0⟩:E4)).b):P2)).getD 0))) (F9 GZ 3 (eV:=vN) (kvs:=(CT ts (3*ts.length))) (x:=((((B0 ts).getD i (⟨0,0,0,0⟩:E4)).a,((B0 ts).getD i (⟨0,0,0,0⟩:E4)).b):P2)) (z0:=0) (co:=false) rfl rfl Tryz.underlying213 Tryz.zeroValue3 rfl (Ef hn hN _ (by omega)) (Vq (by omega) (by omega))) rfl (AK (BR (c:=(decide (((BB (CT ts (3*ts.length)) ((((B0 ts).getD i (⟨0,0,0,0⟩:E4)).a,((B0 ts).getD i (⟨0,0,0,0⟩:E4)).b):P2)).getD 0)=1))) rfl rfl (LX (a:=(BB (CT ts (3*ts.length)) ((((B0 ts).getD i (⟨0,0,0,0⟩:E4)).a,((B0 ts).getD i (⟨0,0,0,0⟩:E4)).b):P2)).getD 0) (b:=1))) rfl (AD.nil ?_)))))
   refine AC.subF (sL [4,5,52,53,54,11,13,65] rfl) (AC.then_ ?_)
   refine AE.cond rfl (λhc4=>?_) (λhc4=>?_)
   ·replace hc4:=of_decide_eq_true hc4
    refine AE.region (AQ rfl (AK (v:=(pP b2 0)) (AA rfl Tryz.underlying91 rfl Tryz.sizeOf3 rfl) rfl (BJ 0 (vN (((B0 ts).getD i (⟨0,0,0,0⟩:E4)).a)) Bo rfl (AK (v:=(pP b2 1)) (AA rfl Tryz.underlying91 rfl Tryz.sizeOf3 rfl) rfl (BJ 0 (vN (((B0 ts).getD i (⟨0,0,0,0⟩:E4)).b)) Bo rfl ?_)))))
    refine AK (v:=(aG ([(vN (((B0 ts).getD i (⟨0,0,0,0⟩:E4)).a)),(vN (((B0 ts).getD i (⟨0,0,0,0⟩:E4)).b)),(vI 0)]))) (AU (zs:=BA ((0,0,0):Nat×Nat×Nat)) (vs:=[(vN (((B0 ts).getD i (⟨0,0,0,0⟩:E4)).a)),(vN (((B0 ts).getD i (⟨0,0,0,0⟩:E4)).b)),(vI 0)]) (pv:=[(0,(vN (((B0 ts).getD i (⟨0,0,0,0⟩:E4)).a))),(1,(vN (((B0 ts).getD i (⟨0,0,0,0⟩:E4)).b)))]) (places:=[(0,1),(1,1),(2,1)]) Tryz.zeroValue55 Tryz.underlying55 (λw=>by simp [Tryz.sizeOf3]) rfl rfl) rfl (AD.openV (V:=λb3=>(Value.slice (some ⟨b3,0,none⟩) 1 1)) (T:=55) (cs:=BA (((B0 ts).getD i (⟨0,0,0,0⟩:E4)).a,((B0 ts).getD i (⟨0,0,0,0⟩:E4)).b,0)) (AW rfl) (BI (z:=.agg (BA ((0,0,0):Nat×Nat×Nat)).toArray) (cs:=BA (((B0 ts).getD i (⟨0,0,0,0⟩:E4)).a,((B0 ts).getD i (⟨0,0,0,0⟩:E4)).b,0)) (pv:=[(0,(aG ([(vN (((B0 ts).getD i (⟨0,0,0,0⟩:E4)).a)),(vN (((B0 ts).getD i (⟨0,0,0,0⟩:E4)).b)),(vI 0)])))]) Tryz.underlying24 Tryz.sizeOf55 Tryz.zeroValue55 (by decide) (by decide) rfl (JJ (((B0 ts).getD i (⟨0,0,0,0⟩:E4)).a,((B0 ts).getD i (⟨0,0,0,0⟩:E4)).b,0))) rfl (AV rfl) λb3=>AD.appendAt 3 (j:=0) (cs2:=rowsL BA (out++[(((B0 ts).getD i (⟨0,0,0,0⟩:E4)).a,((B0 ts).getD i (⟨0,0,0,0⟩:E4)).b,0)])) V3 rfl ho (Ab Be _) rfl rfl rfl rfl rfl (by decide) (KM (by omega)) (by omega) (by rw [Ca];rfl) rfl λp_1 c_1 ho_1 hne_1=>asg' rfl (AD.nil (AC.subF (sL [4,5,52,53,54,11,13] rfl) ?_)))
    refine AC.in_normal (AC.then_ (AE.region (AK (Ac (c:=((i+1:Nat):Int)) rfl rfl (Ae (a:=i) (b:=1) (by omega))) rfl (AQ rfl (AD.nil ?_)))))
    refine AC.subF (sL [4,5,52,53,54,11,13] rfl) ?_
    rw [show out.length+1=(out++[(((B0 ts).getD i (⟨0,0,0,0⟩:E4)).a,((B0 ts).getD i (⟨0,0,0,0⟩:E4)).b,0)]).length by simp]
    exact AC.round4 (i+1) p_1 c_1 (out++[(((B0 ts).getD i (⟨0,0,0,0⟩:E4)).a,((B0 ts).getD i (⟨0,0,0,0⟩:E4)).b,0)]) (⟨by omega,(by simpa using ho_1),by rw [hou];exact (S5 (by omega) hc4).symm⟩) (by omega) (sF rfl) (sl (sl sr))
   ·replace hc4:=of_decide_eq_false hc4
    refine AE.skip (AC.in_normal (AC.then_ (AE.region (AK (Ac (c:=((i+1:Nat):Int)) rfl rfl (Ae (a:=i) (b:=1) (by omega))) rfl (AQ rfl ?_)))))
    exact AD.nil (AC.subF (sL [4,5,52,53,54,11,13] rfl) (AC.round4 (i+1) p1 c1 out (⟨by omega,ho,by rw [hou];exact (UF (by omega) hc4).symm⟩) (by omega) (sF rfl) (sl sr)))
  ·replace hc3:=of_decide_eq_false hc3
   refine AE.exit (AC.then_exit (AC.round4_exit (AC.in_exit (q2 (AQ rfl ?_)))))
   exact ck' Tryz.call44 (MI p1 out.length c1 ho.row.le) rfl (asg' rfl (AD.nil (AC.subF (sL [4,5,52,53,54,11] rfl) (AC.then_ (AE.ret (AJ rfl (AS (v:=(Value.slice p1 out.length out.length)) rfl) (λw hw=>(by rw [show Il ts=out by rw [hou,show i=(B0 ts).length by omega];rfl];exact Lu hw (OX.mk p1 c1 ho) (sl (sk (sl (sl sr)))) (Gr.own rfl Gr.nil) rfl))))))))
end
end Go.Proofs.YtpgncndhhhllfaaGreatDoor
