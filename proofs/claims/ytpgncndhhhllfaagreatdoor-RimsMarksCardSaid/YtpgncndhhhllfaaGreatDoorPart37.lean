import Derived.Test.YtpgncndhhhllfaaGreatDoorPart06
import Derived.Test.YtpgncndhhhllfaaGreatDoorPart15
import Derived.Test.YtpgncndhhhllfaaGreatDoorPart25
import Derived.Test.YtpgncndhhhllfaaGreatDoorPart26
import Derived.Test.YtpgncndhhhllfaaGreatDoorPart30
import Derived.Test.YtpgncndhhhllfaaGreatDoorPart32
namespace Go.Proofs.YtpgncndhhhllfaaGreatDoor
open Go Go.RowKit Go.Proofs.Tryz
set_option linter.unusedVariables false
set_option linter.unusedSimpArgs false
section
set_option maxRecDepth 100000
theorem Ge:Hm Tryz.prog 215 Dw Kp where
 law:=.of_law (deep_law_laid PT (m:=2) (by decide) (by decide +kernel) (by kernel_rfl) (by kernel_rfl))
 key:=λa h=>KM Tryz.underlying215 ⟨rfl,rfl⟩ ⟨rfl,rfl⟩ (by decide +kernel) Tryz.underlying3 (by kernel_rfl) (by kernel_rfl) (by kernel_rfl) (by decide +kernel) (Gc h.1) (Gc h.2)
 inj:=λa b h=>JG h
theorem Jj (x0:Nat×Nat×Nat):Instr.fill (λi=>some (i*3,3)) ((Array.range (1*3)).map ((Value.agg (Aq ((0,0,0):Nat×Nat×Nat)).toArray).cells[·%(Value.agg (Aq ((0,0,0):Nat×Nat×Nat)).toArray).cells.size]!)) [(0,.agg (Aq x0).toArray)]=some (Aq x0).toArray:=by kernel_rfl
set_option maxHeartbeats 4000000 in
theorem Wd (ts:List T3) (x:RX (rowsL Aq ts) ts.length) (pp:Option Addr) (N pc:Nat) (hn:By N ts=true) (hN:N<=4611686018427387904) (hl:ts.length<=1000000000) (w:World) {S:Nat->Prop} (hx:Ro S w x):Calls Tryz.prog 73 #[(Value.slice pp N pc),(Value.slice x.p ts.length x.c)] w (Eo Xt (T9 (T:=55) (z:=3) (cs:=rowsL Aq (C6 ts)) (n:=(C6 ts).length)) S w):=by
 have lx:=DF (W:=w) hx
 refine Ah (args:=[(Value.slice pp N pc),(Value.slice x.p ts.length x.c)]) (L:=[AI x.p (rowsL Aq ts)]) Tryz.func73 rfl rfl (AY rfl) (EV hx Ar) (AF.subF (sL [0,1] rfl) (q4 (asg' rfl (AD.nil (q1 ?_)))))
 refine q4 (AJ rfl (AJ rfl (AH (v:=(vN N)) (AE rfl Tryz.underlying28) rfl (DC (args:=[(Value.slice x.p ts.length x.c),(vN N)]) (v:=(Value.bool true)) Tryz.call132 (λw hw=>(by have h9:=Og N ts x (by omega) w (inS hw 0 rfl lx);rw [hn] at h9;exact h9)) rfl (AH (Bw (c:=false) rfl rfl) rfl ?_)))))
 refine AD.nil (AC.subF (sL [1,4,18] rfl) (AC.then_ (AF.cond_false rfl (AF.skip (q2 ?_)))))
 refine AD.makeMap Dw vN (AO rfl) rfl λb1=>asg' rfl (q6 (sL [1,4,5] rfl) (q4 (AJ rfl (AH (v:=(vN ts.length)) (AE rfl Tryz.underlying23) rfl ?_))))
 refine AJ rfl (AD.nil (AC.then_ (AF.block ?_)))
 refine AF.lp1 (tg λ(t:Nat)=>t<=ts.length) (tg λ(t:Nat)=>[(1,(Value.slice x.p ts.length x.c)),(4,(Value.slice none 0 0)),(5,(Value.map (some b1))),(20,(Value.slice x.p ts.length x.c)),(21,(vN ts.length)),(22,(vN t))]) (tg λ(t:Nat)=>[Bd b1 Dw vN (CV ts (3*t+0)),AI x.p (rowsL Aq ts)]) (tg λ(t:Nat)=>ts.length-t) 0 (Nat.zero_le _) (sF rfl) sr (λt hJ=>?_)
 have ht:=hJ
 refine q4 (AH (Ad (c:=(decide (t<ts.length))) rfl rfl (CB (a:=t) (b:=ts.length))) rfl (AD.nil (q1 ?_)))
 refine AF.cond rfl (λhc1=>?_) (λhc1=>?_)
 ·replace hc1:=of_decide_eq_true hc1
  obtain ⟨T,hT⟩:∃q,q=ts.getD t (0,0,0):=⟨_,rfl⟩
  obtain ⟨g1,g2,g3⟩:=DP (DK hn hc1)
  rw [<-hT] at g1 g2 g3
  refine AF.skip (q1 (AF.block (q4 (AH (v:=(pP (pB x.p) (pO x.p+t*3))) (AL (j:=t) rfl rfl x.ok Tryz.underlying23 Tryz.sizeOf53 rfl (by omega)) rfl (AH (v:=(aG (Aq (ts.getD t ((0,0,0):Nat×Nat×Nat))))) (Ae (vs:=Aq (ts.getD t ((0,0,0):Nat×Nat×Nat))) (i:=1) rfl rfl (A6.ne x.ok (by omega)) GL (Ax BR _ _ _ (by omega)) (BR _)) rfl ?_)))))
  refine AD.retell (k:=25) (u:=(aG (Aq T))) rfl (by rw [hT]) (al R_ rfl λb2=>BC rfl Tryz.sizeOf53 rfl (q3 (sL [1,4,5,20,21,22,7] rfl) (AJ rfl (AD.nil ?_))))
  refine AC.then_ (AF.block (AF.unroll 4 (Gd.step (q4 (AH (Ad (c:=true) rfl rfl (by decide)) rfl ?_)))))
  refine AD.nil (q1 (AF.cond_true rfl (AF.skip (q1 (AF.block ?_)))))
  refine q4 (AJ rfl (asg' rfl (q6 (sL [1,4,5,20,21,22,7,26,8] rfl) (Cw [(0,true),(1,true),(2,true),(3,true),(4,true),(5,true),(6,true),(7,true),(8,true),(9,true)] sr (BS rfl ?_)))))
  refine Aw (v:=(pP b2 0)) rfl (AX (j:=0) rfl rfl Tryz.underlying53 Tryz.sizeOf3 rfl (by decide) rfl) (Bm 0 (vN T.1) Be rfl (BS rfl (Aw rfl (AW (c:=(1:Int)) rfl rfl (by decide)) (Aw rfl (Cg (c:=(1:Int)) rfl rfl (by decide) (by decide)) (Aw (v:=(pP b2 1)) rfl (AX (j:=1) rfl rfl Tryz.underlying53 Tryz.sizeOf3 rfl (by decide) rfl) ?_)))))
  refine Bm 0 (vN T.2.1) Be rfl (pS' rfl (pS' rfl (OkE.nil (AC.subF (sL [1,4,5,20,21,22,7,26,9,10] rfl) (AC.then_ ?_)))))
  obtain ⟨vq1,hvq1⟩:∃q,q=(Ac (CV ts (3*t+0)) ((min T.1 T.2.1,max T.1 T.2.1):P2)).getD 0:=⟨_,rfl⟩
  refine YF [(0,true),(1,true),(2,true),(3,true),(4,true),(5,true),(6,true),(7,true),(8,true),(9,true),(10,false),(11,true)] 12 [] (Yb 1 (x:=((min T.1 T.2.1,max T.1 T.2.1):P2)) (v:=vq1) rfl rfl) (List.nil_sublist _) (by kernel_rfl) (λ_ _ d _ _ h=>by cases d<;>exact h) (vM rfl rfl rfl (vM rfl rfl rfl (vM rfl rfl rfl (vE rfl (Ek (c:=((min T.1 T.2.1:Nat):Int)) rfl rfl (by split<;>omega)) rfl (vM rfl rfl rfl ?_)))))
  refine vM rfl rfl rfl (vE rfl (Ds (c:=((max T.1 T.2.1:Nat):Int)) rfl rfl (by split<;>omega)) rfl (vE (v:=(aG ([(vN (min T.1 T.2.1)),(vN (max T.1 T.2.1))]))) rfl (AU (zs:=BY ((0,0):P2)) (vs:=[(vN (min T.1 T.2.1)),(vN (max T.1 T.2.1))]) (pv:=[(0,(vN (min T.1 T.2.1))),(1,(vN (max T.1 T.2.1)))]) (places:=[(0,1),(1,1)]) Tryz.zeroValue215 Tryz.underlying215 (λw=>by simp [Tryz.sizeOf3]) rfl rfl) rfl (vE (v:=(vN vq1)) rfl (Ga Ge 1 (kvs:=CV ts (3*t+0)) (x:=((min T.1 T.2.1,max T.1 T.2.1):P2)) (z0:=0) rfl rfl Tryz.underlying213 Tryz.zeroValue3 rfl (EW hn hN _ (by omega)) (DM (by omega) (by omega)) hvq1) rfl ?_)))
  have hmq:=Lc (ts:=ts) (3*t+0) ((min T.1 T.2.1,max T.1 T.2.1):P2)
  refine vE rfl (AW (c:=((vq1+1:Nat):Int)) rfl rfl (AR (a:=vq1) (b:=1) (by omega))) rfl (DG.imp rfl (AD.mapEntry Ge 1 (kvs:=CV ts (3*t+0)) (x:=((min T.1 T.2.1,max T.1 T.2.1):P2)) (z0:=0) (v:=vq1) rfl rfl Tryz.underlying213 Tryz.zeroValue3 rfl (EW hn hN _ (by omega)) (DM (by omega) (by omega)) hvq1 rfl (DG.backW (Wb 1 rfl rfl) (vE rfl (AS (v:=(vN (Cj (CV ts (3*t+0)) ((min T.1 T.2.1,max T.1 T.2.1):P2)))) rfl rfl) rfl (DG.cut rfl ?_)))))
  refine AD.entryStore 1 (kvs:=CV ts (3*t+0)) (x:=((min T.1 T.2.1,max T.1 T.2.1):P2)) (u:=vq1) (y:=vq1+1) rfl rfl rfl rfl ?_
  rw [show Az (CV ts (3*t+0)) ((min T.1 T.2.1,max T.1 T.2.1):P2) (vq1+1)=CV ts (3*t+1) from by rw [hvq1,hT];exact (Ho (ts:=ts) (t:=t) (i:=0) (by omega)).symm]
  refine OkE.back (List.nil_sublist _) (OkE.nil (AC.subF (sL [1,4,5,20,21,22,7,26] rfl) (AC.in_normal (AC.then_ (AF.region ?_)))))
  refine AH (AW (c:=(1:Int)) rfl rfl (by decide)) rfl (AJ rfl (AD.nil (AC.subF (sL [1,4,5,20,21,22,7,26] rfl) (AC.again (Gd.step ?_)))))
  refine q4 (AH (Ad (c:=true) rfl rfl (by decide)) rfl (AD.nil (q1 (AF.cond_true rfl (AF.skip ?_)))))
  refine q1 (AF.block (q4 (AJ rfl (asg' rfl (q6 (sL [1,4,5,20,21,22,7,26,8] rfl) ?_)))))
  refine Cw [(0,true),(1,true),(2,true),(3,true),(4,true),(5,true),(6,true),(7,true),(8,true),(9,true)] sr (BS rfl (Aw (v:=(pP b2 1)) rfl (AX (j:=1) rfl rfl Tryz.underlying53 Tryz.sizeOf3 rfl (by decide) rfl) (Bm 0 (vN T.2.1) Be rfl (BS rfl (Aw rfl (AW (c:=(2:Int)) rfl rfl (by decide)) ?_)))))
  refine Aw rfl (Cg (c:=(2:Int)) rfl rfl (by decide) (by decide)) (Aw (v:=(pP b2 2)) rfl (AX (j:=2) rfl rfl Tryz.underlying53 Tryz.sizeOf3 rfl (by decide) rfl) (Bm 0 (vN T.2.2) Be rfl (pS' rfl (pS' rfl (OkE.nil ?_)))))
  refine AC.subF (sL [1,4,5,20,21,22,7,26,9,10] rfl) (AC.then_ ?_)
  obtain ⟨vq2,hvq2⟩:∃q,q=(Ac (CV ts (3*t+1)) ((min T.2.1 T.2.2,max T.2.1 T.2.2):P2)).getD 0:=⟨_,rfl⟩
  refine YF [(0,true),(1,true),(2,true),(3,true),(4,true),(5,true),(6,true),(7,true),(8,true),(9,true),(10,false),(11,true)] 12 [] (Yb 1 (x:=((min T.2.1 T.2.2,max T.2.1 T.2.2):P2)) (v:=vq2) rfl rfl) (List.nil_sublist _) (by kernel_rfl) (λ_ _ d _ _ h=>by cases d<;>exact h) (vM rfl rfl rfl (vM rfl rfl rfl (vM rfl rfl rfl (vE rfl (Ek (c:=((min T.2.1 T.2.2:Nat):Int)) rfl rfl (by split<;>omega)) rfl (vM rfl rfl rfl ?_)))))
  refine vM rfl rfl rfl (vE rfl (Ds (c:=((max T.2.1 T.2.2:Nat):Int)) rfl rfl (by split<;>omega)) rfl (vE (v:=(aG ([(vN (min T.2.1 T.2.2)),(vN (max T.2.1 T.2.2))]))) rfl (AU (zs:=BY ((0,0):P2)) (vs:=[(vN (min T.2.1 T.2.2)),(vN (max T.2.1 T.2.2))]) (pv:=[(0,(vN (min T.2.1 T.2.2))),(1,(vN (max T.2.1 T.2.2)))]) (places:=[(0,1),(1,1)]) Tryz.zeroValue215 Tryz.underlying215 (λw=>by simp [Tryz.sizeOf3]) rfl rfl) rfl (vE (v:=(vN vq2)) rfl (Ga Ge 1 (kvs:=CV ts (3*t+1)) (x:=((min T.2.1 T.2.2,max T.2.1 T.2.2):P2)) (z0:=0) rfl rfl Tryz.underlying213 Tryz.zeroValue3 rfl (EW hn hN _ (by omega)) (DM (by omega) (by omega)) hvq2) rfl ?_)))
  have hmq:=Lc (ts:=ts) (3*t+1) ((min T.2.1 T.2.2,max T.2.1 T.2.2):P2)
  refine vE rfl (AW (c:=((vq2+1:Nat):Int)) rfl rfl (AR (a:=vq2) (b:=1) (by omega))) rfl (DG.imp rfl (AD.mapEntry Ge 1 (kvs:=CV ts (3*t+1)) (x:=((min T.2.1 T.2.2,max T.2.1 T.2.2):P2)) (z0:=0) (v:=vq2) rfl rfl Tryz.underlying213 Tryz.zeroValue3 rfl (EW hn hN _ (by omega)) (DM (by omega) (by omega)) hvq2 rfl (DG.backW (Wb 1 rfl rfl) (vE rfl (AS (v:=(vN (Cj (CV ts (3*t+1)) ((min T.2.1 T.2.2,max T.2.1 T.2.2):P2)))) rfl rfl) rfl (DG.cut rfl ?_)))))
  refine AD.entryStore 1 (kvs:=CV ts (3*t+1)) (x:=((min T.2.1 T.2.2,max T.2.1 T.2.2):P2)) (u:=vq2) (y:=vq2+1) rfl rfl rfl rfl ?_
  rw [show Az (CV ts (3*t+1)) ((min T.2.1 T.2.2,max T.2.1 T.2.2):P2) (vq2+1)=CV ts (3*t+2) from by rw [hvq2,hT];exact (Ho (ts:=ts) (t:=t) (i:=1) (by omega)).symm]
  refine OkE.back (List.nil_sublist _) (OkE.nil (AC.subF (sL [1,4,5,20,21,22,7,26] rfl) (AC.in_normal (AC.then_ (AF.region ?_)))))
  refine AH (AW (c:=(2:Int)) rfl rfl (by decide)) rfl (AJ rfl (AD.nil (AC.subF (sL [1,4,5,20,21,22,7,26] rfl) (AC.again (Gd.step ?_)))))
  refine q4 (AH (Ad (c:=true) rfl rfl (by decide)) rfl (AD.nil (q1 (AF.cond_true rfl (AF.skip ?_)))))
  refine q1 (AF.block (q4 (AJ rfl (asg' rfl (q6 (sL [1,4,5,20,21,22,7,26,8] rfl) ?_)))))
  refine Cw [(0,true),(1,true),(2,true),(3,true),(4,true),(5,true),(6,true),(7,true),(8,true),(9,true)] sr (BS rfl (Aw (v:=(pP b2 2)) rfl (AX (j:=2) rfl rfl Tryz.underlying53 Tryz.sizeOf3 rfl (by decide) rfl) (Bm 0 (vN T.2.2) Be rfl (BS rfl (Aw rfl (AW (c:=(3:Int)) rfl rfl (by decide)) ?_)))))
  refine Aw rfl (Cg (c:=(0:Int)) rfl rfl (by decide) (by decide)) (Aw (v:=(pP b2 0)) rfl (AX (j:=0) rfl rfl Tryz.underlying53 Tryz.sizeOf3 rfl (by decide) rfl) (Bm 0 (vN T.1) Be rfl (pS' rfl (pS' rfl (OkE.nil ?_)))))
  refine AC.subF (sL [1,4,5,20,21,22,7,26,9,10] rfl) (AC.then_ ?_)
  obtain ⟨vq3,hvq3⟩:∃q,q=(Ac (CV ts (3*t+2)) ((min T.2.2 T.1,max T.2.2 T.1):P2)).getD 0:=⟨_,rfl⟩
  refine YF [(0,true),(1,true),(2,true),(3,true),(4,true),(5,true),(6,true),(7,true),(8,true),(9,true),(10,false),(11,true)] 12 [] (Yb 1 (x:=((min T.2.2 T.1,max T.2.2 T.1):P2)) (v:=vq3) rfl rfl) (List.nil_sublist _) (by kernel_rfl) (λ_ _ d _ _ h=>by cases d<;>exact h) (vM rfl rfl rfl (vM rfl rfl rfl (vM rfl rfl rfl (vE rfl (Ek (c:=((min T.2.2 T.1:Nat):Int)) rfl rfl (by split<;>omega)) rfl (vM rfl rfl rfl ?_)))))
  refine vM rfl rfl rfl (vE rfl (Ds (c:=((max T.2.2 T.1:Nat):Int)) rfl rfl (by split<;>omega)) rfl (vE (v:=(aG ([(vN (min T.2.2 T.1)),(vN (max T.2.2 T.1))]))) rfl (AU (zs:=BY ((0,0):P2)) (vs:=[(vN (min T.2.2 T.1)),(vN (max T.2.2 T.1))]) (pv:=[(0,(vN (min T.2.2 T.1))),(1,(vN (max T.2.2 T.1)))]) (places:=[(0,1),(1,1)]) Tryz.zeroValue215 Tryz.underlying215 (λw=>by simp [Tryz.sizeOf3]) rfl rfl) rfl (vE (v:=(vN vq3)) rfl (Ga Ge 1 (kvs:=CV ts (3*t+2)) (x:=((min T.2.2 T.1,max T.2.2 T.1):P2)) (z0:=0) rfl rfl Tryz.underlying213 Tryz.zeroValue3 rfl (EW hn hN _ (by omega)) (DM (by omega) (by omega)) hvq3) rfl ?_)))
  have hmq:=Lc (ts:=ts) (3*t+2) ((min T.2.2 T.1,max T.2.2 T.1):P2)
  refine vE rfl (AW (c:=((vq3+1:Nat):Int)) rfl rfl (AR (a:=vq3) (b:=1) (by omega))) rfl (DG.imp rfl (AD.mapEntry Ge 1 (kvs:=CV ts (3*t+2)) (x:=((min T.2.2 T.1,max T.2.2 T.1):P2)) (z0:=0) (v:=vq3) rfl rfl Tryz.underlying213 Tryz.zeroValue3 rfl (EW hn hN _ (by omega)) (DM (by omega) (by omega)) hvq3 rfl (DG.backW (Wb 1 rfl rfl) (vE rfl (AS (v:=(vN (Cj (CV ts (3*t+2)) ((min T.2.2 T.1,max T.2.2 T.1):P2)))) rfl rfl) rfl (DG.cut rfl ?_)))))
  refine AD.entryStore 1 (kvs:=CV ts (3*t+2)) (x:=((min T.2.2 T.1,max T.2.2 T.1):P2)) (u:=vq3) (y:=vq3+1) rfl rfl rfl rfl ?_
  rw [show Az (CV ts (3*t+2)) ((min T.2.2 T.1,max T.2.2 T.1):P2) (vq3+1)=CV ts (3*t+3) from by rw [hvq3,hT];exact (Ho (ts:=ts) (t:=t) (i:=2) (by omega)).symm]
  refine OkE.back (List.nil_sublist _) (OkE.nil (AC.subF (sL [1,4,5,20,21,22,7,26] rfl) (AC.in_normal (AC.then_ (AF.region ?_)))))
  refine AH (AW (c:=(3:Int)) rfl rfl (by decide)) rfl (AJ rfl (AD.nil (AC.subF (sL [1,4,5,20,21,22,7,26] rfl) (AC.again (Gd.step ?_)))))
  refine q4 (AH (Ad (c:=false) rfl rfl (by decide)) rfl (AD.nil (q1 (AF.cond_false rfl (AF.exit ?_)))))
  refine AC.then_exit (AC.then_exit (AC.in_exit (AC.in_normal (AC.then_ (AF.region ?_)))))
  refine AH (AW (c:=((t+1:Nat):Int)) rfl rfl (AR (a:=t) (b:=1) (by omega))) rfl (AJ rfl (AD.nil (AC.subF (sL [1,4,5,20,21,22,7,26] rfl) ?_)))
  rw [show 3*t+3=3*(t+1)+0 by omega]
  exact AC.round1 (t+1) (by omega) (by omega) (sF rfl) (sl sr)
 ·replace hc1:=of_decide_eq_false hc1
  have htl:t=ts.length:=by omega
  refine AF.exit (AC.then_exit (AC.round1_exit (AC.in_exit (q2 (asg' rfl ?_)))))
  refine AD.nilRow 55 3 (AD.nil (q1 (q4 (AJ rfl ?_))))
  rw [show CV ts (3*t+0)=(CV ts (3*ts.length)) by rw [htl,Nat.add_zero]]
  refine cX (S:=S) (cs:=rowsL CN (B4 ts)) (k:=(B4 ts).length) (args:=[(Value.slice x.p ts.length x.c)]) Tryz.call93 (λw hw=>MO ts x N hn hN hl w (inS hw 2 rfl lx)) rfl rfl rfl λo lo=>AH (v:=(vN ((B4 ts).length))) (AE rfl Tryz.underlying88) rfl (AJ rfl (AD.nil (AC.subF (sL [1,4,5,20,21,22,11,52,53,54] rfl) (AC.then_ ?_))))
  refine AF.block ?_
  refine AF.lp4 (tg λ(i:Nat) (p1:Option Addr) (c1:Nat) (out:List T3)=>i<=(B4 ts).length/\OwnOk p1 out.length c1/\out=HU ts i) (tg λ(i:Nat) (p1:Option Addr) (c1:Nat) (out:List T3)=>[(4,(Value.slice none 0 0)),(5,(Value.map (some b1))),(52,(Value.slice o.p ((B4 ts).length) o.c)),(53,(vN ((B4 ts).length))),(54,(vN i)),(11,(Value.slice p1 out.length c1))]) (tg λ(i:Nat) (p1:Option Addr) (c1:Nat) (out:List T3)=>[AI o.p (rowsL CN (B4 ts)),rowW p1 55 3 out.length c1 (rowsL Aq out),Bd b1 Dw vN (CV ts (3*ts.length)),AI x.p (rowsL Aq ts)]) (tg λ(i:Nat) (p1:Option Addr) (c1:Nat) (out:List T3)=>(B4 ts).length-i) 0 none 0 ([]:List T3) (⟨Nat.zero_le _,OwnOk.none,rfl⟩) (sF rfl) sr (λi p1 c1 out hJ=>?_)
  obtain ⟨hi,ho,hou⟩:=hJ
  have hol:=MU (ts:=ts) i
  rw [<-hou] at hol
  refine q4 (AH (Ad (c:=(decide (i<((B4 ts).length)))) rfl rfl (CB (a:=i) (b:=(B4 ts).length))) rfl (AD.nil (q1 ?_)))
  refine AF.cond rfl (λhc3=>?_) (λhc3=>?_)
  ·replace hc3:=of_decide_eq_true hc3
   have hel:=IS (ts:=ts) (3*ts.length)
   rw [<-Ie] at hel
   have hmem:((B4 ts).getD i (⟨0,0,0,0⟩:E4))∈B4 ts:=by rw [List.getD,List.getElem?_eq_getElem hc3];exact List.getElem_mem hc3
   obtain ⟨hea,heb⟩:=NM hn hN _ hmem
   refine AF.skip (q1 (AF.block (q4 (AH (v:=(pP (pB o.p) (pO o.p+i*4))) (AL (j:=i) rfl rfl o.ok Tryz.underlying88 Tryz.sizeOf91 rfl (by omega)) rfl (AH (v:=(aG (CN ((B4 ts).getD i (⟨0,0,0,0⟩:E4))))) (Ae (vs:=CN ((B4 ts).getD i (⟨0,0,0,0⟩:E4))) (i:=0) rfl rfl (A6.ne o.ok (by omega)) Th (Ax Eb _ _ _ (by omega)) (Eb _)) rfl ?_)))))
   refine al Sr rfl λb2=>BC rfl Tryz.sizeOf91 rfl (q3 (sL [4,5,52,53,54,11,13] rfl) (AJ rfl (AH (v:=(pP b2 0)) (AA rfl Tryz.underlying91 rfl Tryz.sizeOf3 rfl) rfl (BD 0 (vN (((B4 ts).getD i (⟨0,0,0,0⟩:E4)).a)) Be rfl ?_))))
   refine AH (v:=(pP b2 1)) (AA rfl Tryz.underlying91 rfl Tryz.sizeOf3 rfl) rfl (BD 0 (vN (((B4 ts).getD i (⟨0,0,0,0⟩:E4)).b)) Be rfl (AH (v:=(aG ([(vN (((B4 ts).getD i (⟨0,0,0,0⟩:E4)).a)),(vN (((B4 ts).getD i (⟨0,0,0,0⟩:E4)).b))]))) (AU (zs:=BY ((0,0):P2)) (vs:=[(vN (((B4 ts).getD i (⟨0,0,0,0⟩:E4)).a)),(vN (((B4 ts).getD i (⟨0,0,0,0⟩:E4)).b))]) (pv:=[(0,(vN (((B4 ts).getD i (⟨0,0,0,0⟩:E4)).a))),(1,(vN (((B4 ts).getD i (⟨0,0,0,0⟩:E4)).b)))]) (places:=[(0,1),(1,1)]) Tryz.zeroValue215 Tryz.underlying215 (λw=>by simp [Tryz.sizeOf3]) rfl rfl) rfl (AH (v:=(vN ((Ac (CV ts (3*ts.length)) ((((B4 ts).getD i (⟨0,0,0,0⟩:E4)).a,((B4 ts).getD i (⟨0,0,0,0⟩:E4)).b):P2)).getD 0))) (BZ Ge 3 (eV:=vN) (kvs:=(CV ts (3*ts.length))) (x:=((((B4 ts).getD i (⟨0,0,0,0⟩:E4)).a,((B4 ts).getD i (⟨0,0,0,0⟩:E4)).b):P2)) (z0:=0) (co:=false) rfl rfl Tryz.underlying213 Tryz.zeroValue3 rfl (EW hn hN _ (by omega)) (Fo (by omega) (by omega))) rfl (AH (BJ (c:=(decide (((Ac (CV ts (3*ts.length)) ((((B4 ts).getD i (⟨0,0,0,0⟩:E4)).a,((B4 ts).getD i (⟨0,0,0,0⟩:E4)).b):P2)).getD 0)=1))) rfl rfl (RG (a:=(Ac (CV ts (3*ts.length)) ((((B4 ts).getD i (⟨0,0,0,0⟩:E4)).a,((B4 ts).getD i (⟨0,0,0,0⟩:E4)).b):P2)).getD 0) (b:=1))) rfl (AD.nil ?_)))))
   refine AC.subF (sL [4,5,52,53,54,11,13,65] rfl) (AC.then_ ?_)
   refine AF.cond rfl (λhc4=>?_) (λhc4=>?_)
   ·replace hc4:=of_decide_eq_true hc4
    refine AF.region (AJ rfl (AH (v:=(pP b2 0)) (AA rfl Tryz.underlying91 rfl Tryz.sizeOf3 rfl) rfl (BD 0 (vN (((B4 ts).getD i (⟨0,0,0,0⟩:E4)).a)) Be rfl (AH (v:=(pP b2 1)) (AA rfl Tryz.underlying91 rfl Tryz.sizeOf3 rfl) rfl (BD 0 (vN (((B4 ts).getD i (⟨0,0,0,0⟩:E4)).b)) Be rfl ?_)))))
    refine AH (v:=(aG ([(vN (((B4 ts).getD i (⟨0,0,0,0⟩:E4)).a)),(vN (((B4 ts).getD i (⟨0,0,0,0⟩:E4)).b)),(vI 0)]))) (AU (zs:=Aq ((0,0,0):Nat×Nat×Nat)) (vs:=[(vN (((B4 ts).getD i (⟨0,0,0,0⟩:E4)).a)),(vN (((B4 ts).getD i (⟨0,0,0,0⟩:E4)).b)),(vI 0)]) (pv:=[(0,(vN (((B4 ts).getD i (⟨0,0,0,0⟩:E4)).a))),(1,(vN (((B4 ts).getD i (⟨0,0,0,0⟩:E4)).b)))]) (places:=[(0,1),(1,1),(2,1)]) Tryz.zeroValue55 Tryz.underlying55 (λw=>by simp [Tryz.sizeOf3]) rfl rfl) rfl (AD.openV (V:=λb3=>(Value.slice (some ⟨b3,0,none⟩) 1 1)) (T:=55) (cs:=Aq (((B4 ts).getD i (⟨0,0,0,0⟩:E4)).a,((B4 ts).getD i (⟨0,0,0,0⟩:E4)).b,0)) (AO rfl) (Am (z:=.agg (Aq ((0,0,0):Nat×Nat×Nat)).toArray) (cs:=Aq (((B4 ts).getD i (⟨0,0,0,0⟩:E4)).a,((B4 ts).getD i (⟨0,0,0,0⟩:E4)).b,0)) (pv:=[(0,(aG ([(vN (((B4 ts).getD i (⟨0,0,0,0⟩:E4)).a)),(vN (((B4 ts).getD i (⟨0,0,0,0⟩:E4)).b)),(vI 0)])))]) Tryz.underlying24 Tryz.sizeOf55 Tryz.zeroValue55 (by decide) (by decide) rfl (Jj (((B4 ts).getD i (⟨0,0,0,0⟩:E4)).a,((B4 ts).getD i (⟨0,0,0,0⟩:E4)).b,0))) rfl (AY rfl) λb3=>AD.appendAt 3 (j:=0) (cs2:=rowsL Aq (out++[(((B4 ts).getD i (⟨0,0,0,0⟩:E4)).a,((B4 ts).getD i (⟨0,0,0,0⟩:E4)).b,0)])) Ud rfl ho (Af BR _) rfl rfl rfl rfl rfl (by decide) (GR (by omega)) (by omega) (by rw [Bz];rfl) rfl λp_1 c_1 ho_1 hne_1=>asg' rfl (AD.nil (AC.subF (sL [4,5,52,53,54,11,13] rfl) ?_)))
    refine AC.in_normal (AC.then_ (AF.region (AH (AW (c:=((i+1:Nat):Int)) rfl rfl (AR (a:=i) (b:=1) (by omega))) rfl (AJ rfl (AD.nil ?_)))))
    refine AC.subF (sL [4,5,52,53,54,11,13] rfl) ?_
    rw [show out.length+1=(out++[(((B4 ts).getD i (⟨0,0,0,0⟩:E4)).a,((B4 ts).getD i (⟨0,0,0,0⟩:E4)).b,0)]).length by simp]
    exact AC.round4 (i+1) p_1 c_1 (out++[(((B4 ts).getD i (⟨0,0,0,0⟩:E4)).a,((B4 ts).getD i (⟨0,0,0,0⟩:E4)).b,0)]) (⟨by omega,(by simpa using ho_1),by rw [hou];exact (SC (by omega) hc4).symm⟩) (by omega) (sF rfl) (sl (sl sr))
   ·replace hc4:=of_decide_eq_false hc4
    refine AF.skip (AC.in_normal (AC.then_ (AF.region (AH (AW (c:=((i+1:Nat):Int)) rfl rfl (AR (a:=i) (b:=1) (by omega))) rfl (AJ rfl ?_)))))
    exact AD.nil (AC.subF (sL [4,5,52,53,54,11,13] rfl) (AC.round4 (i+1) p1 c1 out (⟨by omega,ho,by rw [hou];exact (Uo (by omega) hc4).symm⟩) (by omega) (sF rfl) (sl sr)))
  ·replace hc3:=of_decide_eq_false hc3
   refine AF.exit (AC.then_exit (AC.round4_exit (AC.in_exit (q2 (AJ rfl ?_)))))
   exact ck' Tryz.call44 (Jd p1 out.length c1 ho.row.le) rfl (asg' rfl (AD.nil (AC.subF (sL [4,5,52,53,54,11] rfl) (AC.then_ (AF.ret (AN rfl (AQ (v:=(Value.slice p1 out.length out.length)) rfl) (λw hw=>(by rw [show C6 ts=out by rw [hou,show i=(B4 ts).length by omega];rfl];exact Iq hw (OX.mk p1 c1 ho) (sl (sk (sl (sl sr)))) (FQ.own rfl FQ.nil) rfl))))))))
end
section
set_option maxRecDepth 100000
theorem NE:Hm Tryz.prog 159 Dw Kp:=Ph PT (by decide +kernel) (by kernel_rfl) (by kernel_rfl) Tryz.underlying159 Tryz.underlying3 (by kernel_rfl) (by kernel_rfl) (by kernel_rfl)
end
section
set_option maxRecDepth 100000
end
section
theorem V0 (a b:T3):(((a.1:Int) == (b.1:Int))&&(((a.2.1:Int) == (b.2.1:Int))&&(((a.2.2:Int) == (b.2.2:Int))&&true)))=decide (a=b):=by
  obtain ⟨a1,a2,a3⟩:=a
  obtain ⟨b1,b2,b3⟩:=b
  rw [Bool.eq_iff_iff]
  simp
  constructor<;>(rintro ⟨h1,h2,h3⟩;refine ⟨?_,?_,?_⟩<;>omega)
theorem Ki (b n:Nat):A6 (some ⟨b,0,none⟩) n n:=⟨λe=>(by cases e),λa e=>(by injection e with e;subst e;rfl),Nat.le_refl _⟩
section
variable {P:Program} {ops:Array Oper} {rest:List Oper} {Q:Exit->Act->World->Prop} {n:Nat} {F:List (Nat×Value)} {w0:A7} {S:Nat->Prop} {L:List As} {ps:List Pt} {ts ss:List T3}
theorem R8 {w:World} {i b:Nat} {T:TypeId} {cs:List Value} (hw:A_ w0 w L) (hi:L[i]?=some (Ab b T cs)) (hex:w0.ex=none):w0.w.heap.size<=b:=by
  rcases (hw.2.1 _ (List.mem_of_getElem? hi) b rfl).1 with h1|h1|h1
  · cases h1
  · exact h1
  · rw [hex] at h1;cases h1
theorem AD.litM2 {b1 b2 U1 U2:Nat} {cs1 cs2:List Value} (LL:MX ps ts []->List As) (i j:Nat) (hn:i≠j) (h1:L[i]?=some (Ab b1 U1 cs1)) (h2:L[j]?=some (Ab b2 U2 cs2)) (hex:w0.ex=none)
    (e:(cs1,cs2)=(rowsL BE ps,rowsL Aq ts))
    (hL:AI none (rowsL Aq [])::(L.set i (AI (some ⟨b1,0,none⟩) cs1)).set j (AI (some ⟨b2,0,none⟩) cs2)=LL ⟨⟨some ⟨b1,0,none⟩,ps.length,Ki _ _⟩,⟨some ⟨b2,0,none⟩,ts.length,Ki _ _⟩,⟨none,0,OwnOk.none.row⟩⟩)
    (next:∀mm:MX ps ts [],At w0 S mm->AD P ops rest Q n F w0 (LL mm)):AD P ops rest Q n F w0 L:=λa w ha hw=>by
  have n1:=R8 hw h1 hex
  have n2:=R8 hw h2 hex
  have w1:=hw.freeze (x:=Ab b1 U1 cs1) (y:=AI (some ⟨b1,0,none⟩) cs1) h1 rfl (λo hp=>Hh hp) (λe=>by cases e)
  have w2:=w1.freeze (i:=j) (x:=Ab b2 U2 cs2) (y:=AI (some ⟨b2,0,none⟩) cs2) (by rw [List.getElem?_set_ne hn];exact h2) rfl (λo hp=>Hh hp) (λe=>by cases e)
  have w3:=w2.addRo (a:=AI none (rowsL Aq [])) (Dk.refl _ _) rfl (λb e=>by cases e) (λb e=>by cases e)
  rw [hL] at w3
  refine next _ (λy hy b eb=>?_) a w ha w3
  have hy:y∈[AI (some ⟨b1,0,none⟩) (rowsL BE ps),AI (some ⟨b2,0,none⟩) (rowsL Aq ts),AI none (rowsL Aq [])]:=hy
  simp only [List.mem_cons,List.not_mem_nil,or_false] at hy
  rcases hy with rfl|rfl|rfl
  · injection eb with eb;subst eb;exact .inl (by assumption)
  · injection eb with eb;subst eb;exact .inl (by assumption)
  · cases eb
end
theorem WD {α:Type} [Ch α] {w0:A7} {w:World} {S:Nat->Prop} {L:List As} (hw:A_ w0 w L) (is:List Nat) {a:α} (hi:(is.map λi=>L[i]?)=(Ch.rows a).map some) (ha:At w0 S a):Ro (SL w0 S L) w a:=λy hy=>by
  have h1:some y∈(is.map λi=>L[i]?):=by rw [hi];exact List.mem_map.2 ⟨y,hy,rfl⟩
  obtain ⟨i,_,h2⟩:=List.mem_map.1 h1
  have hm:=List.mem_of_getElem? h2
  exact ⟨λb e=>(hw.2.1 y hm b e).2,λb e=>⟨⟨y,hm,Ch.ro a y hy,e⟩,ha y hy b e⟩⟩
end
section
abbrev M3:=List Pt×List T3×List T3
def YX (M:M3):Prop:=M.1.length+(B4 M.2.1).length<=4096/\4*M.2.1.length<=8192
instance (M:M3):Decidable (YX M):=inferInstanceAs (Decidable (_/\_))
theorem OE (ts:List T3):(B4 ts).length<=3*ts.length:=by rw [Ie];exact IS _
structure Zl (ps:List Pt) (ts ss:List T3) (e:Nat) where
  m:MX ps ts ss
instance {ps:List Pt} {ts ss:List T3} {e:Nat}:Ch (Zl ps ts ss e):=⟨λx=>.tuple #[aG (CC x.m),vN e],λx=>Ch.rows x.m,λx y hy=>Ch.ro x.m y hy⟩
section
variable {P:Program} {ops:Array Oper} {rest:List Oper} {Q:Exit->Act->World->Prop} {n d:Nat} {F:List (Nat×Value)} {w0:A7} {S:Nat->Prop} {L:List As} {t:TypeId} {p:String} {af:Array Edge} {y:Operand} {f:FuncId} {xs:List Operand} {args:List Value} {tys:Array TypeId} {ps:List Pt} {ts ss:List T3} {e:Nat}
end
def Yk (ts:List T3):List Value:=vI (-1)::vN 0::vN 1::rowsL Aq ts
structure MB (ps:List Pt) (ts ss:List T3) where
  a:RX (rowsL BE ps) ps.length
  b:RX (Yk ts) (1+ts.length)
  c:RX (rowsL Aq ss) ss.length
def Ze {ps:List Pt} {ts ss:List T3} (x:MB ps ts ss):List Value:=[x.a.val,x.b.val,x.c.val]
theorem Xi {ps:List Pt} {ts ss:List T3} {x:MB ps ts ss} {y:As} (hy:y∈[x.a.row,x.b.row,x.c.row]):y.ro=true:=by
  simp only [List.mem_cons,List.not_mem_nil,or_false] at hy
  rcases hy with rfl|rfl|rfl<;>rfl
instance {ps:List Pt} {ts ss:List T3}:Ch (MB ps ts ss):=⟨λx=>aG (Ze x),λx=>[x.a.row,x.b.row,x.c.row],λx y hy=>Xi hy⟩
end
section
def zL (l:List Int):List Value:=l.map λ(d:Int)=>.int .i64 d
theorem Ce (l:List Int):(zL l).length=l.length:=by simp [zL]
theorem K4 {l:List Int} {j:Nat} (h:j<l.length):(zL l)[j*1]?=some (.int .i64 (l.getD j 0)):=by simp [zL,h]
def G1 {α β:Type} (b:Nat) (enc:α->Value) (eV:β->Value) (kvs:List (α×β)):As:=⟨some b,λo=>o=.map (entsM enc eV kvs 0).toArray kvs.length,true⟩
section
variable {α β:Type} [DecidableEq α] {enc:α->Value} {eV:β->Value} {ok:α->Prop} {P:Program} {kt:TypeId} {n:Nat} {F:List (Nat×Value)} {w0:A7} {L:List As} {d:Option Tmp} {tx et t b:Nat} {pp:String} {af:Array Edge} {g:Option (Nat×Bool)} {mp kp:Operand}
theorem FJ (K:Hm P kt enc ok) (i:Nat) {kvs:List (α×β)} {x:α} {z0:β} {co:Bool} (hx:evF F mp=some (.map (some b))) (hk:evF F kp=some (enc x)) (ht:P.underlying tx=some (.map kt et)) (hz:∀w,(zeroValue et).run P w=.ok (eV z0) w) (hi:L[i]?=some (G1 b enc eV kvs)) (hm:F_ ok kvs) (hok:ok x) :
    Ex P n F w0 L ⟨d,.lookup tx mp kp co,t,pp,af,g⟩ (if co then .tuple #[eV ((Ac kvs x).getD z0),.bool (Ac kvs x).isSome] else eV ((Ac kvs x).getD z0)):=λA w ha hw=>by
  obtain ⟨_,o,ho,hp⟩:=hw.2.1 _ (List.mem_of_getElem? hi) b rfl
  have ho:w.heap[b]?=some (.map (entsM enc eV kvs 0).toArray kvs.length):=by rw [ho,hp]
  obtain ⟨lx,hlx⟩:=K.key x hok
  have hc:=λem=>K.law.check w em hlx
  rcases E2 (eV:=eV) K hm hok w with ⟨h1,_,h2⟩|⟨j,v,_,h1,h2⟩
  · simp only [execOp,ha.ev hx,ha.ev hk,Instr.lookup,Sem.run_bind,run_underlying ht,Bo ho,Result.andThen_ok,Sem.run_pure,hc,List.toList_toArray,h2,hz,h1,Option.getD_none,Option.isSome_none]
  · simp only [execOp,ha.ev hx,ha.ev hk,Instr.lookup,Sem.run_bind,run_underlying ht,Bo ho,Result.andThen_ok,Sem.run_pure,hc,List.toList_toArray,h2,h1,Option.getD_some,Option.isSome_some]
end
def ND (t:T3):P2:=C2 t.2.1 t.2.2
def VJ (ts:List T3) (ms:List Int) (k:P2):Prop:=∃z∈ms,0<=z/\z<(ts.length:Int)/\k=ND (ts.getD z.toNat (0,0,0))
inductive Lq (ts:List T3) (S:P2->Prop):P2->Prop
  | start {k:P2}:S k->Lq ts S k
  | up {t:T3} {k:P2}:t∈ts->Lq ts S k->(k=C2 t.1 t.2.1\/k=C2 t.2.2 t.1)->Lq ts S (ND t)
theorem Lq.mono {ts:List T3} {S S':P2->Prop} (h:∀k,S k->S' k) {k:P2} (c:Lq ts S k):Lq ts S' k:=by
  induction c with
  | start hs=>exact .start (h _ hs)
  | up ht _ he ih=>exact .up ht ih he
theorem Lq.or {ts:List T3} {S S':P2->Prop} {k:P2} (c:Lq ts (λk=>S k\/S' k) k):Lq ts S k\/Lq ts S' k:=by
  induction c with
  | start hs=>exact hs.elim (λh=>.inl (.start h)) (λh=>.inr (.start h))
  | up ht _ he ih=>exact ih.elim (λh=>.inl (.up ht h he)) (λh=>.inr (.up ht h he))
structure IQ (ts:List T3) (ms:List Int) (i:Nat) (kvs:List (P2×Nat)):Prop where
  ok:F_ Kp kvs
  one:∀k,Ac kvs k=none\/Ac kvs k=some 1
  sub:∀k,Ac kvs k=some 1->Lq ts (VJ ts ms) k
  mrk:∀k,VJ ts (ms.take i) k->Ac kvs k=some 1
section
variable {ts:List T3} {ms:List Int} {i:Nat} {kvs:List (P2×Nat)}
theorem IQ.zero (ts:List T3) (ms:List Int):IQ ts ms 0 []:=⟨⟨λp hp=>(by cases hp),List.Pairwise.nil⟩,λk=>.inl rfl,λk h=>(by cases h),λk ⟨z,hz,_⟩=>by rw [List.take_zero] at hz;cases hz⟩
theorem IQ.put (h:IQ ts ms i kvs) {k:P2} (hk:Kp k) (hc:Lq ts (VJ ts ms) k):IQ ts ms i (Az kvs k 1):=⟨h.ok.put hk,λx=>by
    rw [CR];split
    · exact .inr rfl
    · exact h.one x,λx hx=>by
    rw [CR] at hx;split at hx
    · rename_i e;rw [e];exact hc
    · exact h.sub x hx,λx hx=>by
    rw [CR];split
    · rfl
    · exact h.mrk x hx⟩
theorem Oc {l:List Int} {j:Nat} (h:j<l.length):l.take (j+1)=l.take j++[l.getD j 0]:=by
  rw [List.take_add_one,List.getD,List.getElem?_eq_getElem h];rfl
theorem IQ.skip (h:IQ ts ms i kvs) (hi:i<ms.length) (hn:¬(0<=ms.getD i 0/\ms.getD i 0<(ts.length:Int))):IQ ts ms (i+1) kvs:=by
  refine ⟨h.ok,h.one,h.sub,λx hx=>?_⟩
  rw [Oc hi] at hx
  obtain ⟨z,hz,a,b,rfl⟩:=hx
  rcases List.mem_append.1 hz with hz|hz
  · exact h.mrk _ ⟨z,hz,a,b,rfl⟩
  · exact absurd (by rw [<-List.mem_singleton.1 hz];exact ⟨a,b⟩) hn
def Yd (ts:List T3) (kvs:List (P2×Nat)) (j:Nat):Prop:=∀q,q<j->Ac kvs (ND (ts.getD q (0,0,0)))=none->Ac kvs (C2 (ts.getD q (0,0,0)).1 (ts.getD q (0,0,0)).2.1)=none/\Ac kvs (C2 (ts.getD q (0,0,0)).2.2 (ts.getD q (0,0,0)).1)=none
theorem IQ.no (h:IQ ts ms i kvs) {k:P2} (e:(Ac kvs k).getD 0=0):Ac kvs k=none:=(h.one k).elim id λh1=>by rw [h1] at e;cases e
theorem IQ.all (h:IQ ts ms ms.length kvs) (hc:Yd ts kvs ts.length) (k:P2):Ac kvs k=some 1↔Lq ts (VJ ts ms) k:=by
  refine ⟨h.sub k,λc=>?_⟩
  induction c with
  | start hs=>exact h.mrk _ (by rw [List.take_length];exact hs)
  | up ht _ he ih =>
    rename_i t k' _
    obtain ⟨q,hq,rfl⟩:=List.getElem_of_mem ht
    rcases h.one (ND ts[q]) with h1|h1
    · have h2:=hc q hq (by rw [List.getD,List.getElem?_eq_getElem hq];exact h1)
      rw [List.getD,List.getElem?_eq_getElem hq] at h2
      rcases he with e|e
      · rw [e] at ih;rw [show Ac kvs (C2 ts[q].1 ts[q].2.1)=none from h2.1] at ih;cases ih
      · rw [e] at ih;rw [show Ac kvs (C2 ts[q].2.2 ts[q].1)=none from h2.2] at ih;cases ih
    · exact h1
end
structure HC (ts:List T3) (ms:List Int) where
  b:Nat
  kvs:List (P2×Nat)
  ok:F_ Kp kvs
  one:∀k,Ac kvs k=none\/Ac kvs k=some 1
  all:∀k,Ac kvs k=some 1↔Lq ts (VJ ts ms) k
instance {ts:List T3} {ms:List Int}:Ch (HC ts ms):=⟨λx=>.map (some x.b),λx=>[G1 x.b Dw vN x.kvs],λx y hy=>by rcases List.mem_singleton.1 hy with rfl;rfl⟩
structure DX (ts:List T3) (ms:List Int) where
  l:List E4
  r:RX (rowsL CN l) l.length
  p:E4->Bool
  el:l=(B4 ts).filter p
  all:∀e,p e=true↔Lq ts (VJ ts ms) (e.a,e.b)
instance {ts:List T3} {ms:List Int}:Ch (DX ts ms):=⟨λx=>x.r.val,λx=>[x.r.row],λx y hy=>by rcases List.mem_singleton.1 hy with rfl;rfl⟩
end
section
def CL (ts:List T3):Nat->List (P2×Nat)
  | 0=>[]
  | s+1=>Az (CL ts s) (BV ts s) (s/3)
def Cl (ts:List T3):Nat->Bool
  | 0=>true
  | s+1=>Cl ts s&&(Ac (CL ts s) (BV ts s)).isNone
section
variable {ts:List T3} {N t r s:Nat}
theorem HS (hr:r<3):Az (CL ts (3*t+r)) (CU (ts.getD t (0,0,0)) r,CU (ts.getD t (0,0,0)) ((r+1)%3)) t=CL ts (3*t+r+1):=by
  show _=Az (CL ts (3*t+r)) (BV ts (3*t+r)) ((3*t+r)/3)
  rw [FC hr,show (3*t+r)/3=t by omega]
theorem Hv (hr:r<3) (h:Cl ts (3*t+r)=true) (hn:(Ac (CL ts (3*t+r)) (CU (ts.getD t (0,0,0)) r,CU (ts.getD t (0,0,0)) ((r+1)%3))).isSome=false):Cl ts (3*t+r+1)=true:=by
  show (Cl ts (3*t+r)&&_)=true
  rw [h,FC hr,<-Option.not_isSome,hn];rfl
theorem Lh:∀n,s<=n->Cl ts n=true->Cl ts s=true
  | 0,h,k=>by rw [show s=0 by omega];rfl
  | n+1,h,k=>by
    have k:(Cl ts n&&_)=true:=k
    rcases Nat.lt_or_ge s (n+1) with h1|h1
    · exact Lh n (by omega) (Bool.and_eq_true _ _▸k).1
    · rw [show s=n+1 by omega];exact k
theorem K0 (hr:r<3) (ht:t<ts.length) (hn:(Ac (CL ts (3*t+r)) (CU (ts.getD t (0,0,0)) r,CU (ts.getD t (0,0,0)) ((r+1)%3))).isSome=true):Cl ts (3*ts.length)=false:=by
  cases h:Cl ts (3*ts.length) with
  | false=>rfl
  | true =>
    have h1:=Lh (s:=3*t+r+1) _ (by omega) h
    have h1:(Cl ts (3*t+r)&&_)=true:=h1
    rw [FC hr,<-Option.not_isSome,hn,Bool.and_eq_true] at h1
    exact absurd h1.2 (by decide)
theorem DY (hn:By N ts=true) (hN:N<=4611686018427387904):∀s,s<=3*ts.length->F_ Kp (CL ts s)
  | 0,_=>⟨λp hp=>(by cases hp),List.Pairwise.nil⟩
  | s+1,h=>(DY hn hN s (by omega)).put (by have:=Gy hn (u:=s) (by omega);exact ⟨by omega,by omega⟩)
end
structure SX (ts:List T3) (o:Bool) where
  b:Nat
  kvs:List (P2×Nat)
  ok:F_ Kp kvs
  fin:o=true->kvs=CL ts (3*ts.length)
instance {ts:List T3} {o:Bool}:Ch (SX ts o):=⟨λx=>.tuple #[.map (some x.b),.bool o],λx=>[G1 x.b Dw vN x.kvs],λx y hy=>by rcases List.mem_singleton.1 hy with rfl;rfl⟩
theorem NH {S:Nat->Prop} {W w:World} {L:List As} {ts:List T3} {o:Bool} (hw:A_ ⟨W,none⟩ w L) (i:Nat) {b:Nat} {kvs:List (P2×Nat)} (hi:L[i]?=some (Bd b Dw vN kvs)) (h:F_ Kp kvs) (hf:o=true->kvs=CL ts (3*ts.length)) {v:Value} (hv:v=.tuple #[.map (some b),.bool o]):Av (SX ts o) S W (.returned v) w:=by
  refine ⟨⟨b,kvs,h,hf⟩,by rw [hv];rfl,hw.out,λy hy=>?_⟩
  rcases List.mem_singleton.1 hy with rfl
  have h1:=hw.2.1 _ (List.mem_of_getElem? hi) b rfl
  refine ⟨λc e=>?_,λc e=>?_⟩
  · injection e with e;subst e;exact h1.2
  · injection e with e;subst e
    rcases h1.1 with h2|h2|h2
    · cases h2
    · exact .inl h2
    · cases h2
def Hi (kvs:List (P2×Nat)) (s:T3):T3:=match Ac kvs (s.1,s.2.1) with
  | some t=>(s.1,s.2.1,t)
  | none=>(s.2.1,s.1,(Ac kvs (s.2.1,s.1)).getD 0)
def MM (kvs:List (P2×Nat)) (rs:List T3) (i:Nat):List T3:=(rs.take i).map (Hi kvs)
def B3 (ts:List T3):List T3:=(C6 ts).map (Hi (CL ts (3*ts.length)))
theorem Kw {kvs:List (P2×Nat)} {rs:List T3} {i:Nat} (h:i<rs.length):MM kvs rs (i+1)=MM kvs rs i++[Hi kvs (rs.getD i (0,0,0))]:=by
  unfold MM
  rw [Ps h,List.map_append];rfl
theorem M1 {kvs:List (P2×Nat)} {s:T3} (h:(Ac kvs (s.1,s.2.1)).isSome=true):Hi kvs s=(s.1,s.2.1,(Ac kvs (s.1,s.2.1)).getD 0):=by
  obtain ⟨t,e⟩:=Option.isSome_iff_exists.1 h
  unfold Hi;rw [e];rfl
theorem PH {kvs:List (P2×Nat)} {s:T3} (h:(Ac kvs (s.1,s.2.1)).isSome=false):Hi kvs s=(s.2.1,s.1,(Ac kvs (s.2.1,s.1)).getD 0):=by
  have e:Ac kvs (s.1,s.2.1)=none:=by rw [<-Option.isNone_iff_eq_none,<-Option.not_isSome,h];rfl
  unfold Hi;rw [e]
theorem Ri {kvs:List (P2×Nat)} {rs:List T3} (i:Nat):(MM kvs rs i).length<=i:=by unfold MM;rw [List.length_map];exact List.length_take_le _ _
theorem Tt {ts:List T3} {kvs:List (P2×Nat)} (h:kvs=CL ts (3*ts.length)):MM kvs (C6 ts) (C6 ts).length=B3 ts:=by unfold MM B3;rw [h,List.take_length]
theorem O0 {ts:List T3}:(C6 ts).length<=3*ts.length:=by
  have h1:=MU (ts:=ts) (B4 ts).length
  have h2:=OE ts
  show (HU ts (B4 ts).length).length<=_
  omega
end
end Go.Proofs.YtpgncndhhhllfaaGreatDoor
