import Derived.Test.YtfbomiejpbchdaaGreatPart06
import Derived.Test.YtfbomiejpbchdaaGreatPart34
namespace Go.Proofs.YtfbomiejpbchdaaGreat
open Go Go.RowKit
set_option linter.unusedVariables false
set_option linter.unusedSimpArgs false
section
set_option maxRecDepth 100000
theorem G4 {ps:List Pt} {ts ss:List T3} (x:MX ps ts ss) (p:Nat) (w:World) {S:Nat->Prop} (hx:Ro S w x):Calls Tryz.prog 117 #[(aG (CG x)),(vN p)] w (Am w (Value.bool (decide (p<ps.length)))):=by
 have lx:=FS (W:=w) hx
 refine BH (args:=[(aG (CG x)),(vN p)]) (L:=[Ag x.a.p (rowsL Ae ps),Ag x.b.p (rowsL Al ts),Ag x.c.p (rowsL Al ss)]) Tryz.func117 rfl rfl (Ad rfl) (FP hx BY) (AG.subF (sL [0,1] rfl) (q4 (Bl (cs:=CG x) rfl λb1=>AK rfl (q3 (sL [1,2,4] rfl) ?_))))
 refine AO rfl (AJ (DT (c:=true) rfl rfl (by simp)) rfl (AO rfl (AF.step (v:=(vN p)) (AB rfl) (A9 rfl) rfl (Ad rfl) (AF.step (v:=(pP b1 0)) (AB rfl) (AA rfl Tryz.underlying31 rfl Tryz.sizeOf27 rfl) rfl (Ad rfl) (AF.step (v:=(Value.slice x.a.p ps.length x.a.c)) (AB rfl) (AM (i:=0) (v:=(Value.slice x.a.p ps.length x.a.c)) rfl rfl C2.a rfl) rfl (Ad rfl) ?_)))))
 refine AF.step (v:=(vN ps.length)) (AB rfl) (AI rfl Tryz.underlying27) rfl (Ad rfl) (AF.step (v:=(Value.bool (decide (p<ps.length)))) (AB rfl) (Af (c:=(decide (p<ps.length))) rfl rfl (DL (a:=p) (b:=ps.length))) rfl (Ad rfl) (AJ (v:=(Value.bool (decide (p<ps.length)))) (Aj rfl rfl) rfl (AK rfl (AF.nil (AC.subF (sL [4] rfl) ?_)))))
 exact AC.then_ (AG.ret (AR rfl (Ai (v:=(Value.bool (decide (p<ps.length)))) rfl) (λw hw=>⟨rfl,hw.out⟩)))
theorem Hl:NH Tryz.prog 251 Gv NR where
 law:=.of_law (deep_law_laid TM (m:=2) (by decide) (by decide +kernel) (by kernel_rfl) (by kernel_rfl))
 key:=λa h=>Lw Tryz.underlying251 ⟨rfl,rfl⟩ ⟨rfl,rfl⟩ (by decide +kernel) Tryz.underlying3 (by kernel_rfl) (by kernel_rfl) (by kernel_rfl) (by decide +kernel) (Iy h.1) (Iy h.2)
 inj:=λa b h=>KG h
theorem KJ (x0:Nat×Nat×Nat):Instr.fill (λi=>some (i*3,3)) ((Array.range (1*3)).map ((Value.agg (Al ((0,0,0):Nat×Nat×Nat)).toArray).cells[·%(Value.agg (Al ((0,0,0):Nat×Nat×Nat)).toArray).cells.size]!)) [(0,.agg (Al x0).toArray)]=some (Al x0).toArray:=by kernel_rfl
set_option maxHeartbeats 4000000 in
theorem So (ts:List T3) (x:RX (rowsL Al ts) ts.length) (pp:Option Addr) (N pc:Nat) (hn:B5 N ts=true) (hN:N<=4611686018427387904) (hl:ts.length<=1000000000) (w:World) {S:Nat->Prop} (hx:Ro S w x):Calls Tryz.prog 123 #[(Value.slice pp N pc),(Value.slice x.p ts.length x.c)] w (J3 Zy (XQ (T:=44) (z:=3) (cs:=rowsL Al (Bt ts)) (n:=(Bt ts).length)) S w):=by
 have lx:=FS (W:=w) hx
 refine BH (args:=[(Value.slice pp N pc),(Value.slice x.p ts.length x.c)]) (L:=[Ag x.p (rowsL Al ts)]) Tryz.func123 rfl rfl (Ad rfl) (FP hx BY) (AG.subF (sL [0,1] rfl) (q4 (AK rfl (AF.nil (q1 ?_)))))
 refine q4 (AO rfl (AO rfl (AJ (v:=(vN N)) (AI rfl Tryz.underlying27) rfl (Ey (args:=[(Value.slice x.p ts.length x.c),(vN N)]) (v:=(Value.bool true)) Tryz.call116 (λw hw=>(by have h9:=P9 N ts x (by omega) w (Dn hw 0 rfl lx);rw [hn] at h9;exact h9)) rfl (AJ (Bi (c:=false) rfl rfl) rfl ?_)))))
 refine AF.nil (AC.subF (sL [1,4,18] rfl) (AC.then_ (AG.cond_false rfl (AG.skip (q2 ?_)))))
 refine AF.makeMap Gv vN (AN rfl) rfl λb1=>AK rfl (q6 (sL [1,4,5] rfl) (q4 (AO rfl (AJ (v:=(vN ts.length)) (AI rfl Tryz.underlying28) rfl ?_))))
 refine AO rfl (AF.nil (AC.then_ (AG.block ?_)))
 refine AG.lp1 (tg λ(t:Nat)=>t<=ts.length) (tg λ(t:Nat)=>[(1,(Value.slice x.p ts.length x.c)),(4,(Value.slice none 0 0)),(5,(Value.map (some b1))),(20,(Value.slice x.p ts.length x.c)),(21,(vN ts.length)),(22,(vN t))]) (tg λ(t:Nat)=>[C0 b1 Gv vN (Cp ts (3*t+0)),Ag x.p (rowsL Al ts)]) (tg λ(t:Nat)=>ts.length-t) 0 (Nat.zero_le _) (sF rfl) sr (λt hJ=>?_)
 have ht:=hJ
 refine q4 (AJ (Af (c:=(decide (t<ts.length))) rfl rfl (DL (a:=t) (b:=ts.length))) rfl (AF.nil (q1 ?_)))
 refine AG.cond rfl (λhc1=>?_) (λhc1=>?_)
 ·replace hc1:=of_decide_eq_true hc1
  obtain ⟨T,hT⟩:∃q,q=ts.getD t (0,0,0):=⟨_,rfl⟩
  obtain ⟨g1,g2,g3⟩:=DH (Cv hn hc1)
  rw [<-hT] at g1 g2 g3
  refine AG.skip (q1 (AG.block (q4 (AJ (v:=(pP (pB x.p) (pO x.p+t*3))) (AW (j:=t) rfl rfl x.ok Tryz.underlying28 Tryz.sizeOf76 rfl (by omega)) rfl (AJ (v:=(aG (Al (ts.getD t ((0,0,0):Nat×Nat×Nat))))) (AU (vs:=Al (ts.getD t ((0,0,0):Nat×Nat×Nat))) (i:=1) rfl rfl (BQ.ne x.ok (by omega)) Ip (Au A6 _ _ _ (by omega)) (A6 _)) rfl ?_)))))
  refine AF.retell (k:=25) (u:=(aG (Al T))) rfl (by rw [hT]) (al ON rfl λb2=>Ap rfl Tryz.sizeOf76 rfl (q3 (sL [1,4,5,20,21,22,7] rfl) (AO rfl (AF.nil ?_))))
  refine AC.then_ (AG.block (AG.unroll 4 (Dr.step (q4 (AJ (Af (c:=true) rfl rfl (by decide)) rfl ?_)))))
  refine AF.nil (q1 (AG.cond_true rfl (AG.skip (q1 (AG.block ?_)))))
  refine q4 (AO rfl (AK rfl (q6 (sL [1,4,5,20,21,22,7,26,8] rfl) (Cq [(0,true),(1,true),(2,true),(3,true),(4,true),(5,true),(6,true),(7,true),(8,true),(9,true)] sr (Bc rfl ?_)))))
  refine Av (v:=(pP b2 0)) rfl (AE (j:=0) rfl rfl Tryz.underlying76 Tryz.sizeOf3 rfl (by decide) rfl) (Bg 0 (vN T.1) B4 rfl (Bc rfl (Av rfl (AX (c:=(1:Int)) rfl rfl (by decide)) (Av rfl (CF (c:=(1:Int)) rfl rfl (by decide) (by decide)) (Av (v:=(pP b2 1)) rfl (AE (j:=1) rfl rfl Tryz.underlying76 Tryz.sizeOf3 rfl (by decide) rfl) ?_)))))
  refine Bg 0 (vN T.2.1) B4 rfl (FO rfl (FO rfl (AS.nil (AC.subF (sL [1,4,5,20,21,22,7,26,9,10] rfl) (AC.then_ ?_)))))
  obtain ⟨vq1,hvq1⟩:∃q,q=(Ar (Cp ts (3*t+0)) ((min T.1 T.2.1,max T.1 T.2.1):P2)).getD 0:=⟨_,rfl⟩
  refine ZN [(0,true),(1,true),(2,true),(3,true),(4,true),(5,true),(6,true),(7,true),(8,true),(9,true),(10,false),(11,true)] 12 [] (Zp 1 (x:=((min T.1 T.2.1,max T.1 T.2.1):P2)) (v:=vq1) rfl rfl) (List.nil_sublist _) (by kernel_rfl) (λ_ _ d _ _ h=>by cases d<;>exact h) (vM rfl rfl rfl (vM rfl rfl rfl (vM rfl rfl rfl (vE rfl (Gq (c:=((min T.1 T.2.1:Nat):Int)) rfl rfl (by split<;>omega)) rfl (vM rfl rfl rfl ?_)))))
  refine vM rfl rfl rfl (vE rfl (GO (c:=((max T.1 T.2.1:Nat):Int)) rfl rfl (by split<;>omega)) rfl (vE (v:=(aG ([(vN (min T.1 T.2.1)),(vN (max T.1 T.2.1))]))) rfl (AY (zs:=A_ ((0,0):P2)) (vs:=[(vN (min T.1 T.2.1)),(vN (max T.1 T.2.1))]) (pv:=[(0,(vN (min T.1 T.2.1))),(1,(vN (max T.1 T.2.1)))]) (places:=[(0,1),(1,1)]) Tryz.zeroValue251 Tryz.underlying251 (λw=>by simp [Tryz.sizeOf3]) rfl rfl) rfl (vE (v:=(vN vq1)) rfl (HW Hl 1 (kvs:=Cp ts (3*t+0)) (x:=((min T.1 T.2.1,max T.1 T.2.1):P2)) (z0:=0) rfl rfl Tryz.underlying250 Tryz.zeroValue3 rfl (FW hn hN _ (by omega)) (B0 (by omega) (by omega)) hvq1) rfl ?_)))
  have hmq:=Mi (ts:=ts) (3*t+0) ((min T.1 T.2.1,max T.1 T.2.1):P2)
  refine vE rfl (AX (c:=((vq1+1:Nat):Int)) rfl rfl (Ab (a:=vq1) (b:=1) (by omega))) rfl (Cc.imp rfl (AF.mapEntry Hl 1 (kvs:=Cp ts (3*t+0)) (x:=((min T.1 T.2.1,max T.1 T.2.1):P2)) (z0:=0) (v:=vq1) rfl rfl Tryz.underlying250 Tryz.zeroValue3 rfl (FW hn hN _ (by omega)) (B0 (by omega) (by omega)) hvq1 rfl (Cc.backW (YI 1 rfl rfl) (vE rfl (AT (v:=(vN (Cz (Cp ts (3*t+0)) ((min T.1 T.2.1,max T.1 T.2.1):P2)))) rfl rfl) rfl (Cc.cut rfl ?_)))))
  refine AF.entryStore 1 (kvs:=Cp ts (3*t+0)) (x:=((min T.1 T.2.1,max T.1 T.2.1):P2)) (u:=vq1) (y:=vq1+1) rfl rfl rfl rfl ?_
  rw [show BZ (Cp ts (3*t+0)) ((min T.1 T.2.1,max T.1 T.2.1):P2) (vq1+1)=Cp ts (3*t+1) from by rw [hvq1,hT];exact (Ia (ts:=ts) (t:=t) (i:=0) (by omega)).symm]
  refine AS.back (List.nil_sublist _) (AS.nil (AC.subF (sL [1,4,5,20,21,22,7,26] rfl) (AC.in_normal (AC.then_ (AG.region ?_)))))
  refine AJ (AX (c:=(1:Int)) rfl rfl (by decide)) rfl (AO rfl (AF.nil (AC.subF (sL [1,4,5,20,21,22,7,26] rfl) (AC.again (Dr.step ?_)))))
  refine q4 (AJ (Af (c:=true) rfl rfl (by decide)) rfl (AF.nil (q1 (AG.cond_true rfl (AG.skip ?_)))))
  refine q1 (AG.block (q4 (AO rfl (AK rfl (q6 (sL [1,4,5,20,21,22,7,26,8] rfl) ?_)))))
  refine Cq [(0,true),(1,true),(2,true),(3,true),(4,true),(5,true),(6,true),(7,true),(8,true),(9,true)] sr (Bc rfl (Av (v:=(pP b2 1)) rfl (AE (j:=1) rfl rfl Tryz.underlying76 Tryz.sizeOf3 rfl (by decide) rfl) (Bg 0 (vN T.2.1) B4 rfl (Bc rfl (Av rfl (AX (c:=(2:Int)) rfl rfl (by decide)) ?_)))))
  refine Av rfl (CF (c:=(2:Int)) rfl rfl (by decide) (by decide)) (Av (v:=(pP b2 2)) rfl (AE (j:=2) rfl rfl Tryz.underlying76 Tryz.sizeOf3 rfl (by decide) rfl) (Bg 0 (vN T.2.2) B4 rfl (FO rfl (FO rfl (AS.nil ?_)))))
  refine AC.subF (sL [1,4,5,20,21,22,7,26,9,10] rfl) (AC.then_ ?_)
  obtain ⟨vq2,hvq2⟩:∃q,q=(Ar (Cp ts (3*t+1)) ((min T.2.1 T.2.2,max T.2.1 T.2.2):P2)).getD 0:=⟨_,rfl⟩
  refine ZN [(0,true),(1,true),(2,true),(3,true),(4,true),(5,true),(6,true),(7,true),(8,true),(9,true),(10,false),(11,true)] 12 [] (Zp 1 (x:=((min T.2.1 T.2.2,max T.2.1 T.2.2):P2)) (v:=vq2) rfl rfl) (List.nil_sublist _) (by kernel_rfl) (λ_ _ d _ _ h=>by cases d<;>exact h) (vM rfl rfl rfl (vM rfl rfl rfl (vM rfl rfl rfl (vE rfl (Gq (c:=((min T.2.1 T.2.2:Nat):Int)) rfl rfl (by split<;>omega)) rfl (vM rfl rfl rfl ?_)))))
  refine vM rfl rfl rfl (vE rfl (GO (c:=((max T.2.1 T.2.2:Nat):Int)) rfl rfl (by split<;>omega)) rfl (vE (v:=(aG ([(vN (min T.2.1 T.2.2)),(vN (max T.2.1 T.2.2))]))) rfl (AY (zs:=A_ ((0,0):P2)) (vs:=[(vN (min T.2.1 T.2.2)),(vN (max T.2.1 T.2.2))]) (pv:=[(0,(vN (min T.2.1 T.2.2))),(1,(vN (max T.2.1 T.2.2)))]) (places:=[(0,1),(1,1)]) Tryz.zeroValue251 Tryz.underlying251 (λw=>by simp [Tryz.sizeOf3]) rfl rfl) rfl (vE (v:=(vN vq2)) rfl (HW Hl 1 (kvs:=Cp ts (3*t+1)) (x:=((min T.2.1 T.2.2,max T.2.1 T.2.2):P2)) (z0:=0) rfl rfl Tryz.underlying250 Tryz.zeroValue3 rfl (FW hn hN _ (by omega)) (B0 (by omega) (by omega)) hvq2) rfl ?_)))
  have hmq:=Mi (ts:=ts) (3*t+1) ((min T.2.1 T.2.2,max T.2.1 T.2.2):P2)
  refine vE rfl (AX (c:=((vq2+1:Nat):Int)) rfl rfl (Ab (a:=vq2) (b:=1) (by omega))) rfl (Cc.imp rfl (AF.mapEntry Hl 1 (kvs:=Cp ts (3*t+1)) (x:=((min T.2.1 T.2.2,max T.2.1 T.2.2):P2)) (z0:=0) (v:=vq2) rfl rfl Tryz.underlying250 Tryz.zeroValue3 rfl (FW hn hN _ (by omega)) (B0 (by omega) (by omega)) hvq2 rfl (Cc.backW (YI 1 rfl rfl) (vE rfl (AT (v:=(vN (Cz (Cp ts (3*t+1)) ((min T.2.1 T.2.2,max T.2.1 T.2.2):P2)))) rfl rfl) rfl (Cc.cut rfl ?_)))))
  refine AF.entryStore 1 (kvs:=Cp ts (3*t+1)) (x:=((min T.2.1 T.2.2,max T.2.1 T.2.2):P2)) (u:=vq2) (y:=vq2+1) rfl rfl rfl rfl ?_
  rw [show BZ (Cp ts (3*t+1)) ((min T.2.1 T.2.2,max T.2.1 T.2.2):P2) (vq2+1)=Cp ts (3*t+2) from by rw [hvq2,hT];exact (Ia (ts:=ts) (t:=t) (i:=1) (by omega)).symm]
  refine AS.back (List.nil_sublist _) (AS.nil (AC.subF (sL [1,4,5,20,21,22,7,26] rfl) (AC.in_normal (AC.then_ (AG.region ?_)))))
  refine AJ (AX (c:=(2:Int)) rfl rfl (by decide)) rfl (AO rfl (AF.nil (AC.subF (sL [1,4,5,20,21,22,7,26] rfl) (AC.again (Dr.step ?_)))))
  refine q4 (AJ (Af (c:=true) rfl rfl (by decide)) rfl (AF.nil (q1 (AG.cond_true rfl (AG.skip ?_)))))
  refine q1 (AG.block (q4 (AO rfl (AK rfl (q6 (sL [1,4,5,20,21,22,7,26,8] rfl) ?_)))))
  refine Cq [(0,true),(1,true),(2,true),(3,true),(4,true),(5,true),(6,true),(7,true),(8,true),(9,true)] sr (Bc rfl (Av (v:=(pP b2 2)) rfl (AE (j:=2) rfl rfl Tryz.underlying76 Tryz.sizeOf3 rfl (by decide) rfl) (Bg 0 (vN T.2.2) B4 rfl (Bc rfl (Av rfl (AX (c:=(3:Int)) rfl rfl (by decide)) ?_)))))
  refine Av rfl (CF (c:=(0:Int)) rfl rfl (by decide) (by decide)) (Av (v:=(pP b2 0)) rfl (AE (j:=0) rfl rfl Tryz.underlying76 Tryz.sizeOf3 rfl (by decide) rfl) (Bg 0 (vN T.1) B4 rfl (FO rfl (FO rfl (AS.nil ?_)))))
  refine AC.subF (sL [1,4,5,20,21,22,7,26,9,10] rfl) (AC.then_ ?_)
  obtain ⟨vq3,hvq3⟩:∃q,q=(Ar (Cp ts (3*t+2)) ((min T.2.2 T.1,max T.2.2 T.1):P2)).getD 0:=⟨_,rfl⟩
  refine ZN [(0,true),(1,true),(2,true),(3,true),(4,true),(5,true),(6,true),(7,true),(8,true),(9,true),(10,false),(11,true)] 12 [] (Zp 1 (x:=((min T.2.2 T.1,max T.2.2 T.1):P2)) (v:=vq3) rfl rfl) (List.nil_sublist _) (by kernel_rfl) (λ_ _ d _ _ h=>by cases d<;>exact h) (vM rfl rfl rfl (vM rfl rfl rfl (vM rfl rfl rfl (vE rfl (Gq (c:=((min T.2.2 T.1:Nat):Int)) rfl rfl (by split<;>omega)) rfl (vM rfl rfl rfl ?_)))))
  refine vM rfl rfl rfl (vE rfl (GO (c:=((max T.2.2 T.1:Nat):Int)) rfl rfl (by split<;>omega)) rfl (vE (v:=(aG ([(vN (min T.2.2 T.1)),(vN (max T.2.2 T.1))]))) rfl (AY (zs:=A_ ((0,0):P2)) (vs:=[(vN (min T.2.2 T.1)),(vN (max T.2.2 T.1))]) (pv:=[(0,(vN (min T.2.2 T.1))),(1,(vN (max T.2.2 T.1)))]) (places:=[(0,1),(1,1)]) Tryz.zeroValue251 Tryz.underlying251 (λw=>by simp [Tryz.sizeOf3]) rfl rfl) rfl (vE (v:=(vN vq3)) rfl (HW Hl 1 (kvs:=Cp ts (3*t+2)) (x:=((min T.2.2 T.1,max T.2.2 T.1):P2)) (z0:=0) rfl rfl Tryz.underlying250 Tryz.zeroValue3 rfl (FW hn hN _ (by omega)) (B0 (by omega) (by omega)) hvq3) rfl ?_)))
  have hmq:=Mi (ts:=ts) (3*t+2) ((min T.2.2 T.1,max T.2.2 T.1):P2)
  refine vE rfl (AX (c:=((vq3+1:Nat):Int)) rfl rfl (Ab (a:=vq3) (b:=1) (by omega))) rfl (Cc.imp rfl (AF.mapEntry Hl 1 (kvs:=Cp ts (3*t+2)) (x:=((min T.2.2 T.1,max T.2.2 T.1):P2)) (z0:=0) (v:=vq3) rfl rfl Tryz.underlying250 Tryz.zeroValue3 rfl (FW hn hN _ (by omega)) (B0 (by omega) (by omega)) hvq3 rfl (Cc.backW (YI 1 rfl rfl) (vE rfl (AT (v:=(vN (Cz (Cp ts (3*t+2)) ((min T.2.2 T.1,max T.2.2 T.1):P2)))) rfl rfl) rfl (Cc.cut rfl ?_)))))
  refine AF.entryStore 1 (kvs:=Cp ts (3*t+2)) (x:=((min T.2.2 T.1,max T.2.2 T.1):P2)) (u:=vq3) (y:=vq3+1) rfl rfl rfl rfl ?_
  rw [show BZ (Cp ts (3*t+2)) ((min T.2.2 T.1,max T.2.2 T.1):P2) (vq3+1)=Cp ts (3*t+3) from by rw [hvq3,hT];exact (Ia (ts:=ts) (t:=t) (i:=2) (by omega)).symm]
  refine AS.back (List.nil_sublist _) (AS.nil (AC.subF (sL [1,4,5,20,21,22,7,26] rfl) (AC.in_normal (AC.then_ (AG.region ?_)))))
  refine AJ (AX (c:=(3:Int)) rfl rfl (by decide)) rfl (AO rfl (AF.nil (AC.subF (sL [1,4,5,20,21,22,7,26] rfl) (AC.again (Dr.step ?_)))))
  refine q4 (AJ (Af (c:=false) rfl rfl (by decide)) rfl (AF.nil (q1 (AG.cond_false rfl (AG.exit ?_)))))
  refine AC.then_exit (AC.then_exit (AC.in_exit (AC.in_normal (AC.then_ (AG.region ?_)))))
  refine AJ (AX (c:=((t+1:Nat):Int)) rfl rfl (Ab (a:=t) (b:=1) (by omega))) rfl (AO rfl (AF.nil (AC.subF (sL [1,4,5,20,21,22,7,26] rfl) ?_)))
  rw [show 3*t+3=3*(t+1)+0 by omega]
  exact AC.round1 (t+1) (by omega) (by omega) (sF rfl) (sl sr)
 ·replace hc1:=of_decide_eq_false hc1
  have htl:t=ts.length:=by omega
  refine AG.exit (AC.then_exit (AC.round1_exit (AC.in_exit (q2 (AK rfl ?_)))))
  refine AF.nilRow 44 3 (AF.nil (q1 (q4 (AO rfl ?_))))
  rw [show Cp ts (3*t+0)=(Cp ts (3*ts.length)) by rw [htl,Nat.add_zero]]
  refine cX (S:=S) (cs:=rowsL CL (BT ts)) (k:=(BT ts).length) (args:=[(Value.slice x.p ts.length x.c)]) Tryz.call49 (λw hw=>OS ts x N hn hN hl w (Dn hw 2 rfl lx)) rfl rfl rfl λo lo=>AJ (v:=(vN ((BT ts).length))) (AI rfl Tryz.underlying37) rfl (AO rfl (AF.nil (AC.subF (sL [1,4,5,20,21,22,11,52,53,54] rfl) (AC.then_ ?_))))
  refine AG.block ?_
  refine AG.lp4 (tg λ(i:Nat) (p1:Option Addr) (c1:Nat) (out:List T3)=>i<=(BT ts).length/\OwnOk p1 out.length c1/\out=IU ts i) (tg λ(i:Nat) (p1:Option Addr) (c1:Nat) (out:List T3)=>[(4,(Value.slice none 0 0)),(5,(Value.map (some b1))),(52,(Value.slice o.p ((BT ts).length) o.c)),(53,(vN ((BT ts).length))),(54,(vN i)),(11,(Value.slice p1 out.length c1))]) (tg λ(i:Nat) (p1:Option Addr) (c1:Nat) (out:List T3)=>[Ag o.p (rowsL CL (BT ts)),rowW p1 44 3 out.length c1 (rowsL Al out),C0 b1 Gv vN (Cp ts (3*ts.length)),Ag x.p (rowsL Al ts)]) (tg λ(i:Nat) (p1:Option Addr) (c1:Nat) (out:List T3)=>(BT ts).length-i) 0 none 0 ([]:List T3) (⟨Nat.zero_le _,OwnOk.none,rfl⟩) (sF rfl) sr (λi p1 c1 out hJ=>?_)
  obtain ⟨hi,ho,hou⟩:=hJ
  have hol:=J8 (ts:=ts) i
  rw [<-hou] at hol
  refine q4 (AJ (Af (c:=(decide (i<((BT ts).length)))) rfl rfl (DL (a:=i) (b:=(BT ts).length))) rfl (AF.nil (q1 ?_)))
  refine AG.cond rfl (λhc3=>?_) (λhc3=>?_)
  ·replace hc3:=of_decide_eq_true hc3
   have hel:=H3 (ts:=ts) (3*ts.length)
   rw [<-IE] at hel
   have hmem:((BT ts).getD i (⟨0,0,0,0⟩:E4))∈BT ts:=by rw [List.getD,List.getElem?_eq_getElem hc3];exact List.getElem_mem hc3
   obtain ⟨hea,heb⟩:=Eb hn hN _ hmem
   refine AG.skip (q1 (AG.block (q4 (AJ (v:=(pP (pB o.p) (pO o.p+i*4))) (AW (j:=i) rfl rfl o.ok Tryz.underlying37 Tryz.sizeOf110 rfl (by omega)) rfl (AJ (v:=(aG (CL ((BT ts).getD i (⟨0,0,0,0⟩:E4))))) (AU (vs:=CL ((BT ts).getD i (⟨0,0,0,0⟩:E4))) (i:=0) rfl rfl (BQ.ne o.ok (by omega)) Ko (Au Dg _ _ _ (by omega)) (Dg _)) rfl ?_)))))
   refine al KF rfl λb2=>Ap rfl Tryz.sizeOf110 rfl (q3 (sL [4,5,52,53,54,11,13] rfl) (AO rfl (AJ (v:=(pP b2 0)) (AA rfl Tryz.underlying110 rfl Tryz.sizeOf3 rfl) rfl (BL 0 (vN (((BT ts).getD i (⟨0,0,0,0⟩:E4)).a)) B4 rfl ?_))))
   refine AJ (v:=(pP b2 1)) (AA rfl Tryz.underlying110 rfl Tryz.sizeOf3 rfl) rfl (BL 0 (vN (((BT ts).getD i (⟨0,0,0,0⟩:E4)).b)) B4 rfl (AJ (v:=(aG ([(vN (((BT ts).getD i (⟨0,0,0,0⟩:E4)).a)),(vN (((BT ts).getD i (⟨0,0,0,0⟩:E4)).b))]))) (AY (zs:=A_ ((0,0):P2)) (vs:=[(vN (((BT ts).getD i (⟨0,0,0,0⟩:E4)).a)),(vN (((BT ts).getD i (⟨0,0,0,0⟩:E4)).b))]) (pv:=[(0,(vN (((BT ts).getD i (⟨0,0,0,0⟩:E4)).a))),(1,(vN (((BT ts).getD i (⟨0,0,0,0⟩:E4)).b)))]) (places:=[(0,1),(1,1)]) Tryz.zeroValue251 Tryz.underlying251 (λw=>by simp [Tryz.sizeOf3]) rfl rfl) rfl (AJ (v:=(vN ((Ar (Cp ts (3*ts.length)) ((((BT ts).getD i (⟨0,0,0,0⟩:E4)).a,((BT ts).getD i (⟨0,0,0,0⟩:E4)).b):P2)).getD 0))) (DO Hl 3 (eV:=vN) (kvs:=(Cp ts (3*ts.length))) (x:=((((BT ts).getD i (⟨0,0,0,0⟩:E4)).a,((BT ts).getD i (⟨0,0,0,0⟩:E4)).b):P2)) (z0:=0) (co:=false) rfl rfl Tryz.underlying250 Tryz.zeroValue3 rfl (FW hn hN _ (by omega)) (Xy (by omega) (by omega))) rfl (AJ (Be (c:=(decide (((Ar (Cp ts (3*ts.length)) ((((BT ts).getD i (⟨0,0,0,0⟩:E4)).a,((BT ts).getD i (⟨0,0,0,0⟩:E4)).b):P2)).getD 0)=1))) rfl rfl (Og (a:=(Ar (Cp ts (3*ts.length)) ((((BT ts).getD i (⟨0,0,0,0⟩:E4)).a,((BT ts).getD i (⟨0,0,0,0⟩:E4)).b):P2)).getD 0) (b:=1))) rfl (AF.nil ?_)))))
   refine AC.subF (sL [4,5,52,53,54,11,13,65] rfl) (AC.then_ ?_)
   refine AG.cond rfl (λhc4=>?_) (λhc4=>?_)
   ·replace hc4:=of_decide_eq_true hc4
    refine AG.region (AO rfl (AJ (v:=(pP b2 0)) (AA rfl Tryz.underlying110 rfl Tryz.sizeOf3 rfl) rfl (BL 0 (vN (((BT ts).getD i (⟨0,0,0,0⟩:E4)).a)) B4 rfl (AJ (v:=(pP b2 1)) (AA rfl Tryz.underlying110 rfl Tryz.sizeOf3 rfl) rfl (BL 0 (vN (((BT ts).getD i (⟨0,0,0,0⟩:E4)).b)) B4 rfl ?_)))))
    refine AJ (v:=(aG ([(vN (((BT ts).getD i (⟨0,0,0,0⟩:E4)).a)),(vN (((BT ts).getD i (⟨0,0,0,0⟩:E4)).b)),(vI 0)]))) (AY (zs:=Al ((0,0,0):Nat×Nat×Nat)) (vs:=[(vN (((BT ts).getD i (⟨0,0,0,0⟩:E4)).a)),(vN (((BT ts).getD i (⟨0,0,0,0⟩:E4)).b)),(vI 0)]) (pv:=[(0,(vN (((BT ts).getD i (⟨0,0,0,0⟩:E4)).a))),(1,(vN (((BT ts).getD i (⟨0,0,0,0⟩:E4)).b)))]) (places:=[(0,1),(1,1),(2,1)]) Tryz.zeroValue44 Tryz.underlying44 (λw=>by simp [Tryz.sizeOf3]) rfl rfl) rfl (AF.openV (V:=λb3=>(Value.slice (some ⟨b3,0,none⟩) 1 1)) (T:=44) (cs:=Al (((BT ts).getD i (⟨0,0,0,0⟩:E4)).a,((BT ts).getD i (⟨0,0,0,0⟩:E4)).b,0)) (AN rfl) (BE (z:=.agg (Al ((0,0,0):Nat×Nat×Nat)).toArray) (cs:=Al (((BT ts).getD i (⟨0,0,0,0⟩:E4)).a,((BT ts).getD i (⟨0,0,0,0⟩:E4)).b,0)) (pv:=[(0,(aG ([(vN (((BT ts).getD i (⟨0,0,0,0⟩:E4)).a)),(vN (((BT ts).getD i (⟨0,0,0,0⟩:E4)).b)),(vI 0)])))]) Tryz.underlying29 Tryz.sizeOf44 Tryz.zeroValue44 (by decide) (by decide) rfl (KJ (((BT ts).getD i (⟨0,0,0,0⟩:E4)).a,((BT ts).getD i (⟨0,0,0,0⟩:E4)).b,0))) rfl (Ad rfl) λb3=>AF.appendAt 3 (j:=0) (cs2:=rowsL Al (out++[(((BT ts).getD i (⟨0,0,0,0⟩:E4)).a,((BT ts).getD i (⟨0,0,0,0⟩:E4)).b,0)])) Yu rfl ho (Ak A6 _) rfl rfl rfl rfl rfl (by decide) (Kq (by omega)) (by omega) (by rw [BW];rfl) rfl λp_1 c_1 ho_1 hne_1=>AK rfl (AF.nil (AC.subF (sL [4,5,52,53,54,11,13] rfl) ?_)))
    refine AC.in_normal (AC.then_ (AG.region (AJ (AX (c:=((i+1:Nat):Int)) rfl rfl (Ab (a:=i) (b:=1) (by omega))) rfl (AO rfl (AF.nil ?_)))))
    refine AC.subF (sL [4,5,52,53,54,11,13] rfl) ?_
    rw [show out.length+1=(out++[(((BT ts).getD i (⟨0,0,0,0⟩:E4)).a,((BT ts).getD i (⟨0,0,0,0⟩:E4)).b,0)]).length by simp]
    exact AC.round4 (i+1) p_1 c_1 (out++[(((BT ts).getD i (⟨0,0,0,0⟩:E4)).a,((BT ts).getD i (⟨0,0,0,0⟩:E4)).b,0)]) (⟨by omega,(by simpa using ho_1),by rw [hou];exact (TG (by omega) hc4).symm⟩) (by omega) (sF rfl) (sl (sl sr))
   ·replace hc4:=of_decide_eq_false hc4
    refine AG.skip (AC.in_normal (AC.then_ (AG.region (AJ (AX (c:=((i+1:Nat):Int)) rfl rfl (Ab (a:=i) (b:=1) (by omega))) rfl (AO rfl ?_)))))
    exact AF.nil (AC.subF (sL [4,5,52,53,54,11,13] rfl) (AC.round4 (i+1) p1 c1 out (⟨by omega,ho,by rw [hou];exact (V3 (by omega) hc4).symm⟩) (by omega) (sF rfl) (sl sr)))
  ·replace hc3:=of_decide_eq_false hc3
   refine AG.exit (AC.then_exit (AC.round4_exit (AC.in_exit (q2 (AO rfl ?_)))))
   exact BU Tryz.call51 (S4 p1 out.length c1 ho.row.le) rfl (AK rfl (AF.nil (AC.subF (sL [4,5,52,53,54,11] rfl) (AC.then_ (AG.ret (AR rfl (Ai (v:=(Value.slice p1 out.length out.length)) rfl) (λw hw=>(by rw [show Bt ts=out by rw [hou,show i=(BT ts).length by omega];rfl];exact Ss hw (OX.mk p1 c1 ho) (sl (sk (sl (sl sr)))) (J1.own rfl J1.nil) rfl))))))))
end
end Go.Proofs.YtfbomiejpbchdaaGreat
