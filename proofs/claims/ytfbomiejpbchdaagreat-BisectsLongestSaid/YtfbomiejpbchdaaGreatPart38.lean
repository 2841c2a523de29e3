import Derived.Test.YtfbomiejpbchdaaGreatPart06
import Derived.Test.YtfbomiejpbchdaaGreatPart31
import Derived.Test.YtfbomiejpbchdaaGreatPart37
namespace Go.Proofs.YtfbomiejpbchdaaGreat
open Go Go.RowKit Go.Proofs.Tryz
set_option linter.unusedVariables false
set_option linter.unusedSimpArgs false
section
set_option maxRecDepth 100000
theorem G0 {ps:List Pt} {ts ss:List T3} (x:MX ps ts ss) (p:Nat) (w:World) {S:Nat->Prop} (hx:Ro S w x):Calls prog 117 #[(aG (Bk x)),(vN p)] w (Aq w (Value.bool (decide (p<ps.length)))):=by
 have lx:=DU (W:=w) hx
 refine A6 (args:=[(aG (Bk x)),(vN p)]) (L:=[AY x.a.p (rowsL Am ps),AY x.b.p (rowsL Af ts),AY x.c.p (rowsL Af ss)]) func117 O O (Ac O) (DV hx BN) (AF.subF (sL [0,1] O) (q4 (Bg (cs:=Bk x) O λb1=>AL O (q3 (sL [1,2,4] O) ?_))))
 refine AS O (AH (DY (c:=true) O O (by simp)) O (AS O (AE.step (v:=(vN p)) (AB O) (BK O) O (Ac O) (AE.step (v:=(pP b1 0)) (AB O) (AA O underlying31 O sizeOf27 O) O (Ac O) (AE.step (v:=(Value.slice x.a.p ps.length x.a.c)) (AB O) (AI (i:=0) (v:=(Value.slice x.a.p ps.length x.a.c)) O O DG.a O) O (Ac O) ?_)))))
 refine AE.step (v:=(vN ps.length)) (AB O) (AG O underlying27) O (Ac O) (AE.step (v:=(Value.bool (decide (p<ps.length)))) (AB O) (Ak (c:=(decide (p<ps.length))) O O (C1 (a:=p) (b:=ps.length))) O (Ac O) (AH (v:=(Value.bool (decide (p<ps.length)))) (Aj O O) O (AL O (AE.nil (AD.subF (sL [4] O) ?_)))))
 exact AD.then_ (AF.ret (AR O (Ai (v:=(Value.bool (decide (p<ps.length)))) O) (λw hw=>⟨rfl,hw.out⟩)))
theorem Hk:Kg prog 251 Dr JJ where
 law:=.of_law (deep_law_laid QZ (m:=2) (by decide) (by decide +kernel) (by kernel_rfl) (by kernel_rfl))
 key:=λa h=>MH underlying251 ⟨rfl,rfl⟩ ⟨rfl,rfl⟩ (by decide +kernel) underlying3 (by kernel_rfl) (by kernel_rfl) (by kernel_rfl) (by decide +kernel) (Id h.1) (Id h.2)
 inj:=λa b h=>J2 h
theorem Jv (x0:Nat×Nat×Nat):Instr.fill (λi=>some (i*3,3)) ((Array.range (1*3)).map ((Value.agg (Af ((0,0,0):Nat×Nat×Nat)).toArray).cells[·%(Value.agg (Af ((0,0,0):Nat×Nat×Nat)).toArray).cells.size]!)) [(0,.agg (Af x0).toArray)]=some (Af x0).toArray:=by kernel_rfl
set_option maxHeartbeats 4000000 in
theorem Uo (ts:List T3) (x:RX (rowsL Af ts) ts.length) (pp:Option Addr) (N pc:Nat) (hn:CD N ts=true) (hN:N<=4611686018427387904) (hl:ts.length<=1000000000) (w:World) {S:Nat->Prop} (hx:Ro S w x):Calls prog 123 #[(Value.slice pp N pc),(Value.slice x.p ts.length x.c)] w (Ho Yj (SB (T:=44) (z:=3) (cs:=rowsL Af (Bx ts)) (n:=(Bx ts).length)) S w):=by
 have lx:=DU (W:=w) hx
 refine A6 (args:=[(Value.slice pp N pc),(Value.slice x.p ts.length x.c)]) (L:=[AY x.p (rowsL Af ts)]) func123 O O (Ac O) (DV hx BN) (AF.subF (sL [0,1] O) (q4 (AL O (AE.nil (q1 ?_)))))
 refine q4 (AS O (AS O (AH (v:=(vN N)) (AG O underlying27) O (Ee (args:=[(Value.slice x.p ts.length x.c),(vN N)]) (v:=(Value.bool true)) call116 (λw hw=>(by have h9:=QP N ts x Z w (Cq hw 0 O lx);rw [hn] at h9;exact h9)) O (AH (BZ (c:=false) O O) O ?_)))))
 refine AE.nil (AD.subF (sL [1,4,18] O) (AD.then_ (AF.cond_false O (AF.skip (q2 ?_)))))
 refine AE.makeMap Dr vN (AK O) O λb1=>AL O (q6 (sL [1,4,5] O) (q4 (AS O (AH (v:=(vN ts.length)) (AG O underlying28) O ?_))))
 refine AS O (AE.nil (AD.then_ (AF.block ?_)))
 refine AF.lp1 (tg λ(t:Nat)=>t<=ts.length) (tg λ(t:Nat)=>[(1,(Value.slice x.p ts.length x.c)),(4,(Value.slice none 0 0)),(5,(Value.map (some b1))),(20,(Value.slice x.p ts.length x.c)),(21,(vN ts.length)),(22,(vN t))]) (tg λ(t:Nat)=>[CE b1 Dr vN (Ct ts (3*t+0)),AY x.p (rowsL Af ts)]) (tg λ(t:Nat)=>ts.length-t) 0 (Nat.zero_le _) (sF O) sr (λt hJ=>?_)
 have ht:=hJ
 refine q4 (AH (Ak (c:=(decide (t<ts.length))) O O (C1 (a:=t) (b:=ts.length))) O (AE.nil (q1 ?_)))
 refine AF.cond O (λhc1=>?_) (λhc1=>?_)
 ·replace hc1:=of_decide_eq_true hc1
  obtain ⟨T,hT⟩:∃q,q=ts.getD t (0,0,0):=⟨_,rfl⟩
  obtain ⟨g1,g2,g3⟩:=Cd (Cf hn hc1)
  rw [<-hT] at g1 g2 g3
  refine AF.skip (q1 (AF.block (q4 (AH (v:=(pP (pB x.p) (pO x.p+t*3))) (AQ (j:=t) O O x.ok underlying28 sizeOf76 O Z) O (AH (v:=(aG (Af (ts.getD t ((0,0,0):Nat×Nat×Nat))))) (AO (vs:=Af (ts.getD t ((0,0,0):Nat×Nat×Nat))) (i:=1) O O (BI.ne x.ok Z) Cr (An Ah _ _ _ Z) (Ah _)) O ?_)))))
  refine AE.retell (k:=25) (u:=(aG (Af T))) O (by rw [hT]) (al J3 O λb2=>Aw O sizeOf76 O (q3 (sL [1,4,5,20,21,22,7] O) (AS O (AE.nil ?_))))
  refine AD.then_ (AF.block (AF.unroll 4 (FO.step (q4 (AH (Ak (c:=true) O O (by decide)) O ?_)))))
  refine AE.nil (q1 (AF.cond_true O (AF.skip (q1 (AF.block ?_)))))
  refine q4 (AS O (AL O (q6 (sL [1,4,5,20,21,22,7,26,8] O) (Cm [(0,true),(1,true),(2,true),(3,true),(4,true),(5,true),(6,true),(7,true),(8,true),(9,true)] sr (Bc O ?_)))))
  refine Au (v:=(pP b2 0)) O (AC (j:=0) O O underlying76 sizeOf3 O (by decide) O) (Be 0 (vN T.1) Bn O (Bc O (Au O (AW (c:=(1:Int)) O O (by decide)) (Au O (By (c:=(1:Int)) O O (by decide) (by decide)) (Au (v:=(pP b2 1)) O (AC (j:=1) O O underlying76 sizeOf3 O (by decide) O) ?_)))))
  refine Be 0 (vN T.2.1) Bn O (Eg O (Eg O (AT.nil (AD.subF (sL [1,4,5,20,21,22,7,26,9,10] O) (AD.then_ ?_)))))
  obtain ⟨vq1,hvq1⟩:∃q,q=(Ao (Ct ts (3*t+0)) ((min T.1 T.2.1,max T.1 T.2.1):P2)).getD 0:=⟨_,rfl⟩
  refine Zb [(0,true),(1,true),(2,true),(3,true),(4,true),(5,true),(6,true),(7,true),(8,true),(9,true),(10,false),(11,true)] 12 [] (Zw 1 (x:=((min T.1 T.2.1,max T.1 T.2.1):P2)) (v:=vq1) O O) (List.nil_sublist _) (by kernel_rfl) (λ_ _ d _ _ h=>by cases d<;>exact h) (vM O O O (vM O O O (vM O O O (vE O (Fw (c:=((min T.1 T.2.1:Nat):Int)) O O (by split<;>omega)) O (vM O O O ?_)))))
  refine vM O O O (vE O (FT (c:=((max T.1 T.2.1:Nat):Int)) O O (by split<;>omega)) O (vE (v:=(aG ([(vN (min T.1 T.2.1)),(vN (max T.1 T.2.1))]))) O (Ad (zs:=Ay ((0,0):P2)) (vs:=[(vN (min T.1 T.2.1)),(vN (max T.1 T.2.1))]) (pv:=[(0,(vN (min T.1 T.2.1))),(1,(vN (max T.1 T.2.1)))]) (places:=[(0,1),(1,1)]) zeroValue251 underlying251 (λw=>by simp [sizeOf3]) O O) O (vE (v:=(vN vq1)) O (Hj Hk 1 (kvs:=Ct ts (3*t+0)) (x:=((min T.1 T.2.1,max T.1 T.2.1):P2)) (z0:=0) O O underlying250 zeroValue3 O (FF hn hN _ Z) (Bl Z Z) hvq1) O ?_)))
  have hmq:=MZ (ts:=ts) (3*t+0) ((min T.1 T.2.1,max T.1 T.2.1):P2)
  refine vE O (AW (c:=((vq1+1:Nat):Int)) O O (AX (a:=vq1) (b:=1) Z)) O (Bu.imp O (AE.mapEntry Hk 1 (kvs:=Ct ts (3*t+0)) (x:=((min T.1 T.2.1,max T.1 T.2.1):P2)) (z0:=0) (v:=vq1) O O underlying250 zeroValue3 O (FF hn hN _ Z) (Bl Z Z) hvq1 O (Bu.backW (X6 1 O O) (vE O (AZ (v:=(vN (C3 (Ct ts (3*t+0)) ((min T.1 T.2.1,max T.1 T.2.1):P2)))) O O) O (Bu.cut O ?_)))))
  refine AE.entryStore 1 (kvs:=Ct ts (3*t+0)) (x:=((min T.1 T.2.1,max T.1 T.2.1):P2)) (u:=vq1) (y:=vq1+1) O O O O ?_
  rw [show BT (Ct ts (3*t+0)) ((min T.1 T.2.1,max T.1 T.2.1):P2) (vq1+1)=Ct ts (3*t+1) from by rw [hvq1,hT];exact (IT (ts:=ts) (t:=t) (i:=0) Z).symm]
  refine AT.back (List.nil_sublist _) (AT.nil (AD.subF (sL [1,4,5,20,21,22,7,26] O) (AD.in_normal (AD.then_ (AF.region ?_)))))
  refine AH (AW (c:=(1:Int)) O O (by decide)) O (AS O (AE.nil (AD.subF (sL [1,4,5,20,21,22,7,26] O) (AD.again (FO.step ?_)))))
  refine q4 (AH (Ak (c:=true) O O (by decide)) O (AE.nil (q1 (AF.cond_true O (AF.skip ?_)))))
  refine q1 (AF.block (q4 (AS O (AL O (q6 (sL [1,4,5,20,21,22,7,26,8] O) ?_)))))
  refine Cm [(0,true),(1,true),(2,true),(3,true),(4,true),(5,true),(6,true),(7,true),(8,true),(9,true)] sr (Bc O (Au (v:=(pP b2 1)) O (AC (j:=1) O O underlying76 sizeOf3 O (by decide) O) (Be 0 (vN T.2.1) Bn O (Bc O (Au O (AW (c:=(2:Int)) O O (by decide)) ?_)))))
  refine Au O (By (c:=(2:Int)) O O (by decide) (by decide)) (Au (v:=(pP b2 2)) O (AC (j:=2) O O underlying76 sizeOf3 O (by decide) O) (Be 0 (vN T.2.2) Bn O (Eg O (Eg O (AT.nil ?_)))))
  refine AD.subF (sL [1,4,5,20,21,22,7,26,9,10] O) (AD.then_ ?_)
  obtain ⟨vq2,hvq2⟩:∃q,q=(Ao (Ct ts (3*t+1)) ((min T.2.1 T.2.2,max T.2.1 T.2.2):P2)).getD 0:=⟨_,rfl⟩
  refine Zb [(0,true),(1,true),(2,true),(3,true),(4,true),(5,true),(6,true),(7,true),(8,true),(9,true),(10,false),(11,true)] 12 [] (Zw 1 (x:=((min T.2.1 T.2.2,max T.2.1 T.2.2):P2)) (v:=vq2) O O) (List.nil_sublist _) (by kernel_rfl) (λ_ _ d _ _ h=>by cases d<;>exact h) (vM O O O (vM O O O (vM O O O (vE O (Fw (c:=((min T.2.1 T.2.2:Nat):Int)) O O (by split<;>omega)) O (vM O O O ?_)))))
  refine vM O O O (vE O (FT (c:=((max T.2.1 T.2.2:Nat):Int)) O O (by split<;>omega)) O (vE (v:=(aG ([(vN (min T.2.1 T.2.2)),(vN (max T.2.1 T.2.2))]))) O (Ad (zs:=Ay ((0,0):P2)) (vs:=[(vN (min T.2.1 T.2.2)),(vN (max T.2.1 T.2.2))]) (pv:=[(0,(vN (min T.2.1 T.2.2))),(1,(vN (max T.2.1 T.2.2)))]) (places:=[(0,1),(1,1)]) zeroValue251 underlying251 (λw=>by simp [sizeOf3]) O O) O (vE (v:=(vN vq2)) O (Hj Hk 1 (kvs:=Ct ts (3*t+1)) (x:=((min T.2.1 T.2.2,max T.2.1 T.2.2):P2)) (z0:=0) O O underlying250 zeroValue3 O (FF hn hN _ Z) (Bl Z Z) hvq2) O ?_)))
  have hmq:=MZ (ts:=ts) (3*t+1) ((min T.2.1 T.2.2,max T.2.1 T.2.2):P2)
  refine vE O (AW (c:=((vq2+1:Nat):Int)) O O (AX (a:=vq2) (b:=1) Z)) O (Bu.imp O (AE.mapEntry Hk 1 (kvs:=Ct ts (3*t+1)) (x:=((min T.2.1 T.2.2,max T.2.1 T.2.2):P2)) (z0:=0) (v:=vq2) O O underlying250 zeroValue3 O (FF hn hN _ Z) (Bl Z Z) hvq2 O (Bu.backW (X6 1 O O) (vE O (AZ (v:=(vN (C3 (Ct ts (3*t+1)) ((min T.2.1 T.2.2,max T.2.1 T.2.2):P2)))) O O) O (Bu.cut O ?_)))))
  refine AE.entryStore 1 (kvs:=Ct ts (3*t+1)) (x:=((min T.2.1 T.2.2,max T.2.1 T.2.2):P2)) (u:=vq2) (y:=vq2+1) O O O O ?_
  rw [show BT (Ct ts (3*t+1)) ((min T.2.1 T.2.2,max T.2.1 T.2.2):P2) (vq2+1)=Ct ts (3*t+2) from by rw [hvq2,hT];exact (IT (ts:=ts) (t:=t) (i:=1) Z).symm]
  refine AT.back (List.nil_sublist _) (AT.nil (AD.subF (sL [1,4,5,20,21,22,7,26] O) (AD.in_normal (AD.then_ (AF.region ?_)))))
  refine AH (AW (c:=(2:Int)) O O (by decide)) O (AS O (AE.nil (AD.subF (sL [1,4,5,20,21,22,7,26] O) (AD.again (FO.step ?_)))))
  refine q4 (AH (Ak (c:=true) O O (by decide)) O (AE.nil (q1 (AF.cond_true O (AF.skip ?_)))))
  refine q1 (AF.block (q4 (AS O (AL O (q6 (sL [1,4,5,20,21,22,7,26,8] O) ?_)))))
  refine Cm [(0,true),(1,true),(2,true),(3,true),(4,true),(5,true),(6,true),(7,true),(8,true),(9,true)] sr (Bc O (Au (v:=(pP b2 2)) O (AC (j:=2) O O underlying76 sizeOf3 O (by decide) O) (Be 0 (vN T.2.2) Bn O (Bc O (Au O (AW (c:=(3:Int)) O O (by decide)) ?_)))))
  refine Au O (By (c:=(0:Int)) O O (by decide) (by decide)) (Au (v:=(pP b2 0)) O (AC (j:=0) O O underlying76 sizeOf3 O (by decide) O) (Be 0 (vN T.1) Bn O (Eg O (Eg O (AT.nil ?_)))))
  refine AD.subF (sL [1,4,5,20,21,22,7,26,9,10] O) (AD.then_ ?_)
  obtain ⟨vq3,hvq3⟩:∃q,q=(Ao (Ct ts (3*t+2)) ((min T.2.2 T.1,max T.2.2 T.1):P2)).getD 0:=⟨_,rfl⟩
  refine Zb [(0,true),(1,true),(2,true),(3,true),(4,true),(5,true),(6,true),(7,true),(8,true),(9,true),(10,false),(11,true)] 12 [] (Zw 1 (x:=((min T.2.2 T.1,max T.2.2 T.1):P2)) (v:=vq3) O O) (List.nil_sublist _) (by kernel_rfl) (λ_ _ d _ _ h=>by cases d<;>exact h) (vM O O O (vM O O O (vM O O O (vE O (Fw (c:=((min T.2.2 T.1:Nat):Int)) O O (by split<;>omega)) O (vM O O O ?_)))))
  refine vM O O O (vE O (FT (c:=((max T.2.2 T.1:Nat):Int)) O O (by split<;>omega)) O (vE (v:=(aG ([(vN (min T.2.2 T.1)),(vN (max T.2.2 T.1))]))) O (Ad (zs:=Ay ((0,0):P2)) (vs:=[(vN (min T.2.2 T.1)),(vN (max T.2.2 T.1))]) (pv:=[(0,(vN (min T.2.2 T.1))),(1,(vN (max T.2.2 T.1)))]) (places:=[(0,1),(1,1)]) zeroValue251 underlying251 (λw=>by simp [sizeOf3]) O O) O (vE (v:=(vN vq3)) O (Hj Hk 1 (kvs:=Ct ts (3*t+2)) (x:=((min T.2.2 T.1,max T.2.2 T.1):P2)) (z0:=0) O O underlying250 zeroValue3 O (FF hn hN _ Z) (Bl Z Z) hvq3) O ?_)))
  have hmq:=MZ (ts:=ts) (3*t+2) ((min T.2.2 T.1,max T.2.2 T.1):P2)
  refine vE O (AW (c:=((vq3+1:Nat):Int)) O O (AX (a:=vq3) (b:=1) Z)) O (Bu.imp O (AE.mapEntry Hk 1 (kvs:=Ct ts (3*t+2)) (x:=((min T.2.2 T.1,max T.2.2 T.1):P2)) (z0:=0) (v:=vq3) O O underlying250 zeroValue3 O (FF hn hN _ Z) (Bl Z Z) hvq3 O (Bu.backW (X6 1 O O) (vE O (AZ (v:=(vN (C3 (Ct ts (3*t+2)) ((min T.2.2 T.1,max T.2.2 T.1):P2)))) O O) O (Bu.cut O ?_)))))
  refine AE.entryStore 1 (kvs:=Ct ts (3*t+2)) (x:=((min T.2.2 T.1,max T.2.2 T.1):P2)) (u:=vq3) (y:=vq3+1) O O O O ?_
  rw [show BT (Ct ts (3*t+2)) ((min T.2.2 T.1,max T.2.2 T.1):P2) (vq3+1)=Ct ts (3*t+3) from by rw [hvq3,hT];exact (IT (ts:=ts) (t:=t) (i:=2) Z).symm]
  refine AT.back (List.nil_sublist _) (AT.nil (AD.subF (sL [1,4,5,20,21,22,7,26] O) (AD.in_normal (AD.then_ (AF.region ?_)))))
  refine AH (AW (c:=(3:Int)) O O (by decide)) O (AS O (AE.nil (AD.subF (sL [1,4,5,20,21,22,7,26] O) (AD.again (FO.step ?_)))))
  refine q4 (AH (Ak (c:=false) O O (by decide)) O (AE.nil (q1 (AF.cond_false O (AF.exit ?_)))))
  refine AD.then_exit (AD.then_exit (AD.in_exit (AD.in_normal (AD.then_ (AF.region ?_)))))
  refine AH (AW (c:=((t+1:Nat):Int)) O O (AX (a:=t) (b:=1) Z)) O (AS O (AE.nil (AD.subF (sL [1,4,5,20,21,22,7,26] O) ?_)))
  rw [show 3*t+3=3*(t+1)+0 by omega]
  exact AD.round1 (t+1) Z Z (sF O) (sl sr)
 ·replace hc1:=of_decide_eq_false hc1
  have htl:t=ts.length:=by omega
  refine AF.exit (AD.then_exit (AD.round1_exit (AD.in_exit (q2 (AL O ?_)))))
  refine AE.nilRow 44 3 (AE.nil (q1 (q4 (AS O ?_))))
  rw [show Ct ts (3*t+0)=(Ct ts (3*ts.length)) by rw [htl,Nat.add_zero]]
  refine cX (S:=S) (cs:=rowsL B6 (Br ts)) (k:=(Br ts).length) (args:=[(Value.slice x.p ts.length x.c)]) call49 (λw hw=>OA ts x N hn hN hl w (Cq hw 2 O lx)) O O O λo lo=>AH (v:=(vN ((Br ts).length))) (AG O underlying37) O (AS O (AE.nil (AD.subF (sL [1,4,5,20,21,22,11,52,53,54] O) (AD.then_ ?_))))
  refine AF.block ?_
  refine AF.lp4 (tg λ(i:Nat) (p1:Option Addr) (c1:Nat) (out:List T3)=>i<=(Br ts).length/\OwnOk p1 out.length c1/\out=IU ts i) (tg λ(i:Nat) (p1:Option Addr) (c1:Nat) (out:List T3)=>[(4,(Value.slice none 0 0)),(5,(Value.map (some b1))),(52,(Value.slice o.p ((Br ts).length) o.c)),(53,(vN ((Br ts).length))),(54,(vN i)),(11,(Value.slice p1 out.length c1))]) (tg λ(i:Nat) (p1:Option Addr) (c1:Nat) (out:List T3)=>[AY o.p (rowsL B6 (Br ts)),rowW p1 44 3 out.length c1 (rowsL Af out),CE b1 Dr vN (Ct ts (3*ts.length)),AY x.p (rowsL Af ts)]) (tg λ(i:Nat) (p1:Option Addr) (c1:Nat) (out:List T3)=>(Br ts).length-i) 0 none 0 ([]:List T3) (⟨Nat.zero_le _,OwnOk.none,rfl⟩) (sF O) sr (λi p1 c1 out hJ=>?_)
  obtain ⟨hi,ho,hou⟩:=hJ
  have hol:=OU (ts:=ts) i
  rw [<-hou] at hol
  refine q4 (AH (Ak (c:=(decide (i<((Br ts).length)))) O O (C1 (a:=i) (b:=(Br ts).length))) O (AE.nil (q1 ?_)))
  refine AF.cond O (λhc3=>?_) (λhc3=>?_)
  ·replace hc3:=of_decide_eq_true hc3
   have hel:=H7 (ts:=ts) (3*ts.length)
   rw [<-H2] at hel
   have hmem:((Br ts).getD i (⟨0,0,0,0⟩:E4))∈Br ts:=by rw [List.getD,List.getElem?_eq_getElem hc3];exact List.getElem_mem hc3
   obtain ⟨hea,heb⟩:=Hx hn hN _ hmem
   refine AF.skip (q1 (AF.block (q4 (AH (v:=(pP (pB o.p) (pO o.p+i*4))) (AQ (j:=i) O O o.ok underlying37 sizeOf110 O Z) O (AH (v:=(aG (B6 ((Br ts).getD i (⟨0,0,0,0⟩:E4))))) (AO (vs:=B6 ((Br ts).getD i (⟨0,0,0,0⟩:E4))) (i:=0) O O (BI.ne o.ok Z) II (An Ck _ _ _ Z) (Ck _)) O ?_)))))
   refine al JD O λb2=>Aw O sizeOf110 O (q3 (sL [4,5,52,53,54,11,13] O) (AS O (AH (v:=(pP b2 0)) (AA O underlying110 O sizeOf3 O) O (BJ 0 (vN (((Br ts).getD i (⟨0,0,0,0⟩:E4)).a)) Bn O ?_))))
   refine AH (v:=(pP b2 1)) (AA O underlying110 O sizeOf3 O) O (BJ 0 (vN (((Br ts).getD i (⟨0,0,0,0⟩:E4)).b)) Bn O (AH (v:=(aG ([(vN (((Br ts).getD i (⟨0,0,0,0⟩:E4)).a)),(vN (((Br ts).getD i (⟨0,0,0,0⟩:E4)).b))]))) (Ad (zs:=Ay ((0,0):P2)) (vs:=[(vN (((Br ts).getD i (⟨0,0,0,0⟩:E4)).a)),(vN (((Br ts).getD i (⟨0,0,0,0⟩:E4)).b))]) (pv:=[(0,(vN (((Br ts).getD i (⟨0,0,0,0⟩:E4)).a))),(1,(vN (((Br ts).getD i (⟨0,0,0,0⟩:E4)).b)))]) (places:=[(0,1),(1,1)]) zeroValue251 underlying251 (λw=>by simp [sizeOf3]) O O) O (AH (v:=(vN ((Ao (Ct ts (3*ts.length)) ((((Br ts).getD i (⟨0,0,0,0⟩:E4)).a,((Br ts).getD i (⟨0,0,0,0⟩:E4)).b):P2)).getD 0))) (Cb Hk 3 (eV:=vN) (kvs:=(Ct ts (3*ts.length))) (x:=((((Br ts).getD i (⟨0,0,0,0⟩:E4)).a,((Br ts).getD i (⟨0,0,0,0⟩:E4)).b):P2)) (z0:=0) (co:=false) O O underlying250 zeroValue3 O (FF hn hN _ Z) (XT Z Z)) O (AH (BY (c:=(decide (((Ao (Ct ts (3*ts.length)) ((((Br ts).getD i (⟨0,0,0,0⟩:E4)).a,((Br ts).getD i (⟨0,0,0,0⟩:E4)).b):P2)).getD 0)=1))) O O (Oa (a:=(Ao (Ct ts (3*ts.length)) ((((Br ts).getD i (⟨0,0,0,0⟩:E4)).a,((Br ts).getD i (⟨0,0,0,0⟩:E4)).b):P2)).getD 0) (b:=1))) O (AE.nil ?_)))))
   refine AD.subF (sL [4,5,52,53,54,11,13,65] O) (AD.then_ ?_)
   refine AF.cond O (λhc4=>?_) (λhc4=>?_)
   ·replace hc4:=of_decide_eq_true hc4
    refine AF.region (AS O (AH (v:=(pP b2 0)) (AA O underlying110 O sizeOf3 O) O (BJ 0 (vN (((Br ts).getD i (⟨0,0,0,0⟩:E4)).a)) Bn O (AH (v:=(pP b2 1)) (AA O underlying110 O sizeOf3 O) O (BJ 0 (vN (((Br ts).getD i (⟨0,0,0,0⟩:E4)).b)) Bn O ?_)))))
    refine AH (v:=(aG ([(vN (((Br ts).getD i (⟨0,0,0,0⟩:E4)).a)),(vN (((Br ts).getD i (⟨0,0,0,0⟩:E4)).b)),(vI 0)]))) (Ad (zs:=Af ((0,0,0):Nat×Nat×Nat)) (vs:=[(vN (((Br ts).getD i (⟨0,0,0,0⟩:E4)).a)),(vN (((Br ts).getD i (⟨0,0,0,0⟩:E4)).b)),(vI 0)]) (pv:=[(0,(vN (((Br ts).getD i (⟨0,0,0,0⟩:E4)).a))),(1,(vN (((Br ts).getD i (⟨0,0,0,0⟩:E4)).b)))]) (places:=[(0,1),(1,1),(2,1)]) zeroValue44 underlying44 (λw=>by simp [sizeOf3]) O O) O (AE.openV (V:=λb3=>(Value.slice (some ⟨b3,0,none⟩) 1 1)) (T:=44) (cs:=Af (((Br ts).getD i (⟨0,0,0,0⟩:E4)).a,((Br ts).getD i (⟨0,0,0,0⟩:E4)).b,0)) (AK O) (Ar (z:=.agg (Af ((0,0,0):Nat×Nat×Nat)).toArray) (cs:=Af (((Br ts).getD i (⟨0,0,0,0⟩:E4)).a,((Br ts).getD i (⟨0,0,0,0⟩:E4)).b,0)) (pv:=[(0,(aG ([(vN (((Br ts).getD i (⟨0,0,0,0⟩:E4)).a)),(vN (((Br ts).getD i (⟨0,0,0,0⟩:E4)).b)),(vI 0)])))]) underlying29 sizeOf44 zeroValue44 (by decide) (by decide) O (Jv (((Br ts).getD i (⟨0,0,0,0⟩:E4)).a,((Br ts).getD i (⟨0,0,0,0⟩:E4)).b,0))) O (Ac O) λb3=>AE.appendAt 3 (j:=0) (cs2:=rowsL Af (out++[(((Br ts).getD i (⟨0,0,0,0⟩:E4)).a,((Br ts).getD i (⟨0,0,0,0⟩:E4)).b,0)])) YD O ho (Aa Ah _) O O O O O (by decide) (Ga Z) Z (by rw [BO];rfl) O λp_1 c_1 ho_1 hne_1=>AL O (AE.nil (AD.subF (sL [4,5,52,53,54,11,13] O) ?_)))
    refine AD.in_normal (AD.then_ (AF.region (AH (AW (c:=((i+1:Nat):Int)) O O (AX (a:=i) (b:=1) Z)) O (AS O (AE.nil ?_)))))
    refine AD.subF (sL [4,5,52,53,54,11,13] O) ?_
    rw [show out.length+1=(out++[(((Br ts).getD i (⟨0,0,0,0⟩:E4)).a,((Br ts).getD i (⟨0,0,0,0⟩:E4)).b,0)]).length by simp]
    exact AD.round4 (i+1) p_1 c_1 (out++[(((Br ts).getD i (⟨0,0,0,0⟩:E4)).a,((Br ts).getD i (⟨0,0,0,0⟩:E4)).b,0)]) (⟨Z,(by simpa using ho_1),by rw [hou];exact (S3 Z hc4).symm⟩) Z (sF O) (sl (sl sr))
   ·replace hc4:=of_decide_eq_false hc4
    refine AF.skip (AD.in_normal (AD.then_ (AF.region (AH (AW (c:=((i+1:Nat):Int)) O O (AX (a:=i) (b:=1) Z)) O (AS O ?_)))))
    exact AE.nil (AD.subF (sL [4,5,52,53,54,11,13] O) (AD.round4 (i+1) p1 c1 out (⟨Z,ho,by rw [hou];exact (Wx Z hc4).symm⟩) Z (sF O) (sl sr)))
  ·replace hc3:=of_decide_eq_false hc3
   refine AF.exit (AD.then_exit (AD.round4_exit (AD.in_exit (q2 (AS O ?_)))))
   exact BR call51 (No p1 out.length c1 ho.row.le) O (AL O (AE.nil (AD.subF (sL [4,5,52,53,54,11] O) (AD.then_ (AF.ret (AR O (Ai (v:=(Value.slice p1 out.length out.length)) O) (λw hw=>(by rw [show Bx ts=out by rw [hou,show i=(Br ts).length by omega];rfl];exact N3 hw (OX.mk p1 c1 ho) (sl (sk (sl (sl sr)))) (He.own O He.nil) O))))))))
end
section
set_option maxRecDepth 100000
theorem X2 (us:List Bool) (n:Nat) (x:RX (bL us) n) (hn:us.length=n) (hl:n<=1000000) (hu:∀j,j<n->us.getD j false=true) (w:World) {S:Nat->Prop} (hx:Ro S w x):Calls prog 177 #[(Value.slice x.p n x.c),(Value.bool false)] w (Aq w (vI (-1:Int))):=by
 have lx:=DU (W:=w) hx
 refine A6 (args:=[(Value.slice x.p n x.c),(Value.bool false)]) (L:=[AY x.p (bL us)]) func177 O O (Ac O) (DV hx BN) (AF.subF (sL [0,1] O) (q4 (AL O (AE.nil (q1 ?_)))))
 refine q4 (AS O (AH (v:=(vN n)) (AG O underlying208) O (AS O (AE.nil (AD.subF (sL [0,1,4,7,8] O) ?_)))))
 refine AD.then_ (AF.block ?_)
 refine AF.lp1 (tg λ(j:Nat)=>j<=n) (tg λ(j:Nat)=>[(0,(Value.slice x.p n x.c)),(1,(Value.bool false)),(7,(vN n)),(8,(vN j))]) (tg λ(j:Nat)=>[AY x.p (bL us)]) (tg λ(j:Nat)=>n-j) 0 (Nat.zero_le _) (sF O) sr (λj hJ=>?_)
 have hj:=hJ
 refine q4 (AH (Ak (c:=(decide (j<n))) O O (C1 (a:=j) (b:=n))) O (AE.nil (q1 ?_)))
 refine AF.cond O (λhc0=>?_) (λhc0=>?_)
 ·replace hc0:=of_decide_eq_true hc0
  refine AF.skip (q1 (AF.block (q4 (AS O (AL O ?_)))))
  refine q3 (sL [0,1,7,8,5] O) (AS O (AS O (AS O (AH (v:=(pP (pB x.p) (pO x.p+j*1))) (AQ (j:=j) O O x.ok underlying208 sizeOf4 O Z) O (AH (Ap (v:=(Value.bool (us.getD j false))) (i:=0) O O (x.ok.ne Z) VA (Xq (us:=us) (j:=j) Z)) O ?_)))))
  refine AH (I1 (c:=false) O O underlying4 (by rw [hu j Z];rfl)) O (AE.nil (AD.subF (sL [0,1,7,8,5,16] O) (AD.then_ (AF.cond_false O (AF.skip ?_)))))
  refine AD.in_normal (AD.then_ (AF.region (AH (AW (c:=((j+1:Nat):Int)) O O (AX (a:=j) (b:=1) Z)) O (AS O (AE.nil ?_)))))
  exact AD.subF (sL [0,1,7,8,5] O) (AD.round1 (j+1) Z Z (sF O) sr)
 ·replace hc0:=of_decide_eq_false hc0
  refine AF.exit (AD.then_exit (AD.round1_exit (AD.in_exit (q2 (AL O ?_)))))
  exact AE.nil (AD.then_ (AF.ret (AR O (Ai (v:=(vI (-1:Int))) O) (λw hw=>⟨rfl,hw.out⟩))))
theorem Uc (us:List Bool) (n:Nat) (x:RX (bL us) n) (hn:us.length=n) (hl:n<=1000000) (hu:∀j,j<n->us.getD j false=true) (w:World) {S:Nat->Prop} (hx:Ro S w x):Calls prog 129 #[(Value.slice x.p n x.c),(Value.bool false)] w (Aq w (Value.bool false)):=by
 have lx:=DU (W:=w) hx
 refine A6 (args:=[(Value.slice x.p n x.c),(Value.bool false)]) (L:=[AY x.p (bL us)]) func129 O O (Ac O) (DV hx BN) (AF.subF (sL [0,1] O) (q4 (AL O (AE.nil (q2 ?_)))))
 refine AS O (AS O (Ee call177 (λw hw=>X2 us n x hn hl hu w (Cq hw 0 O lx)) O (AH (DY (c:=false) O O (by decide)) O (AL O (AE.nil ?_)))))
 exact AD.subF (sL [4] O) (AD.then_ (AF.ret (AR O (Ai (v:=(Value.bool false)) O) (λw hw=>⟨rfl,hw.out⟩))))
theorem O8 (ys:List Pt) (n:Nat) (x:RX (rowsL Am ys) n) (hn:ys.length=n) (hl:n<=1000000) (hy:ys.Nodup) (w:World) {S:Nat->Prop} (hx:Ro S w x):Calls prog 132 #[(Value.slice x.p n x.c)] w (Aq w (Value.slice x.p n x.c)):=by
 have lx:=DU (W:=w) hx
 refine A6 (args:=[(Value.slice x.p n x.c)]) (L:=[AY x.p (rowsL Am ys)]) func132 O O (Ac O) (DV hx BN) (AF.subF (sL [0] O) (q4 (AL O (AE.nil (q1 ?_)))))
 refine q4 (AS O (AH (v:=(vN n)) (AG O underlying27) O (AH (Ak (c:=(decide (n<2))) O O (C1 (a:=n) (b:=2))) O (AE.nil (AD.subF (sL [0,2,8] O) ?_)))))
 refine AD.then_ ?_
 refine AF.cond O (λhc0=>?_) (λhc0=>?_)
 ·replace hc0:=of_decide_eq_true hc0
  refine q4 (AS O (AL O (AE.nil (AD.subF (sL [0,2] O) (AD.then_ ?_)))))
  exact AF.ret (AD.then_ret (AR O (Ai (v:=(Value.slice x.p n x.c)) O) (λw hw=>⟨rfl,hw.out⟩)))
 ·replace hc0:=of_decide_eq_false hc0
  refine AF.skip (q1 (q4 (AL O (AE.nil (AD.then_ ?_)))))
  refine AF.block ?_
  refine AF.lp1 (tg λ(k:Nat)=>1<=k/\k<=n) (tg λ(k:Nat)=>[(0,(Value.slice x.p n x.c)),(3,(vN k))]) (tg λ(k:Nat)=>[AY x.p (rowsL Am ys)]) (tg λ(k:Nat)=>n-k) 1 (⟨Nat.le_refl _,Z⟩) (sF O) sr (λk hJ=>?_)
  obtain ⟨hk1,hk⟩:=hJ
  refine AF.seq (q4 (AS O (AS O (AH (v:=(vN n)) (AG O underlying27) O (AH (Ak (c:=(decide (k<n))) O O (C1 (a:=k) (b:=n))) O ?_)))))
  refine AE.nil (AD.subF (sL [0,3,13] O) (AD.then_ ?_))
  refine AF.cond O (λhc1=>?_) (λhc1=>?_)
  ·replace hc1:=of_decide_eq_true hc1
   refine AF.skip (q1 (AF.block (AF.seq (Cm [(0,true),(1,true),(2,true),(3,true),(4,true),(5,true),(6,true),(7,true),(8,true),(9,true)] sr (Bc O ?_)))))
   refine Bc O (Au (v:=(pP (pB x.p) (pO x.p+k*10))) O (AQ (j:=k) O O x.ok underlying27 sizeOf55 O Z) (Au (v:=(aG (Am (ys.getD k (⟨0,0⟩:Pt))))) O (AO (vs:=Am (ys.getD k (⟨0,0⟩:Pt))) (i:=0) O O (BI.ne x.ok Z) BQ (An BG _ _ _ Z) (BG _)) (Bc O (Bc O (Au O (Bq (c:=((k-1:Nat):Int)) O O (Co (a:=k) (b:=1) Z Z)) ?_)))))
   refine Au (v:=(pP (pB x.p) (pO x.p+(k-1)*10))) O (AQ (j:=k-1) O O x.ok underlying27 sizeOf55 O Z) (Au (v:=(aG (Am (ys.getD (k-1) (⟨0,0⟩:Pt))))) O (AO (vs:=Am (ys.getD (k-1) (⟨0,0⟩:Pt))) (i:=0) O O (BI.ne x.ok Z) BQ (An BG _ _ _ Z) (BG _)) (Au O (Bd (c:=decide (ys.getD k (⟨0,0⟩:Pt)=ys.getD (k-1) (⟨0,0⟩:Pt))) O O eqGuardType55 (UR 9994 (ys.getD k (⟨0,0⟩:Pt)) (ys.getD (k-1) (⟨0,0⟩:Pt)))) (AT.nil (AD.subF (sL [0,3,25] O) (AD.then_ ?_)))))
   refine AF.cond O (λhc2=>?_) (λhc2=>?_)
   ·replace hc2:=of_decide_eq_true hc2
    exact (RK hy Z Z hc2).elim
   ·replace hc2:=of_decide_eq_false hc2
    refine AF.skip (AD.in_normal (AD.then_ (AF.region (AS O (AH (AW (c:=((k+1:Nat):Int)) O O (AX (a:=k) (b:=1) Z)) O ?_)))))
    exact AL O (AE.nil (AD.subF (sL [0,3] O) (AD.round1 (k+1) (⟨Z,Z⟩) Z (sF O) sr)))
  ·replace hc1:=of_decide_eq_false hc1
   refine AF.exit (AD.then_exit (AD.round1_exit (AD.in_exit (q2 (AS O ?_)))))
   exact AL O (AE.nil (AD.subF (sL [0,3,2] O) (AD.then_ (AF.ret (AR O (Ai (v:=(Value.slice x.p n x.c)) O) (λw hw=>⟨rfl,hw.out⟩))))))
theorem ZI:UG prog 208 4 (.bool false) 1:=⟨underlying208,_,_,rfl,rfl,rfl,rfl,rfl⟩
set_option maxHeartbeats 1000000 in
theorem Vz {ps:List Pt} {ts ss:List T3} (x:MX ps ts ss) (hv:J1 ps ts ss) (w:World) {S:Nat->Prop} (hx:Ro S w x):Calls prog 58 #[(aG (Bk x))] w (Aq w (Value.bool true)):=by
 have hp:=hv.pl
 have htl:=hv.tl
 have hsl:=hv.sl
 have h0:=hv.t0
 have hbp:∀p∈ps,B5 p<=1000:=λp hp=>by obtain ⟨j,hj,rfl⟩:=List.getElem_of_mem hp;have h9:=hv.sz j;rwa [cor,List.getD,List.getElem?_eq_getElem hj] at h9
 have hps0:0<ps.length:=by have h9:=(Cd (Cf hv.num hv.t0)).1;omega
 have lx:=DU (W:=w) hx
 refine A6 (args:=[(aG (Bk x))]) (L:=[AY x.a.p (rowsL Am ps),AY x.b.p (rowsL Af ts),AY x.c.p (rowsL Af ss)]) func58 O O (Ac O) (DV hx BN) (AF.subF (sL [0] O) (q4 (Bg (cs:=Bk x) O λb1=>AL O (q3 (sL [1,2] O) ?_))))
 refine AH (v:=(pP b1 0)) (AA O underlying31 O sizeOf27 O) O (BJ 0 (Value.slice x.a.p ps.length x.a.c) DG O (AH (v:=(vN ps.length)) (AG O underlying27) O ?_))
 refine AE.makeBool (m:=ps.length) ZI O O Z O O ?_;intro bm hbm;rw [Rw ts ps.length]
 refine AL O (q6 (sL [1,2,3] O) (q4 (AH (v:=(pP b1 1)) (AA O underlying31 O sizeOf28 O) O (BJ 1 (Value.slice x.b.p ts.length x.b.c) B4 O (AH (v:=(vN ts.length)) (AG O underlying28) O ?_)))))
 refine AS O (AE.nil (AD.subF (sL [1,2,3,12,13,14] O) (AD.then_ (AF.block ?_))))
 refine AF.lp1 (tg λ(t:Nat)=>t<=ts.length) (tg λ(t:Nat)=>[(1,(pP b1 0)),(2,(Value.bool false)),(3,(Value.slice (some ⟨bm,0,none⟩) ps.length ps.length)),(12,(Value.slice x.b.p ts.length x.b.c)),(13,(vN ts.length)),(14,(vN t))]) (tg λ(t:Nat)=>[rowW (some ⟨bm,0,none⟩) 4 1 ps.length ps.length (bL (Ki ts ps.length t)),Ag b1 31 (Bk x),AY x.a.p (rowsL Am ps),AY x.b.p (rowsL Af ts),AY x.c.p (rowsL Af ss)]) (tg λ(t:Nat)=>ts.length-t) 0 (Nat.zero_le _) (sF O) sr (λt hJ=>?_)
 have ht:=hJ
 refine q4 (AH (Ak (c:=(decide (t<ts.length))) O O (C1 (a:=t) (b:=ts.length))) O (AE.nil (q1 ?_)))
 refine AF.cond O (λhc0=>?_) (λhc0=>?_)
 ·replace hc0:=of_decide_eq_true hc0
  obtain ⟨T,hT⟩:∃q,q=ts.getD t (0,0,0):=⟨_,rfl⟩
  obtain ⟨g1,g2,g3⟩:=Cd (Cf hv.num hc0)
  rw [<-hT] at g1 g2 g3
  refine AF.skip (q1 (AF.block (q4 (AH (v:=(pP (pB x.b.p) (pO x.b.p+t*3))) (AQ (j:=t) O O x.b.ok underlying28 sizeOf76 O Z) O (AH (v:=(aG (Af (ts.getD t ((0,0,0):Nat×Nat×Nat))))) (AO (vs:=Af (ts.getD t ((0,0,0):Nat×Nat×Nat))) (i:=3) O O (BI.ne x.b.ok Z) Cr (An Ah _ _ _ Z) (Ah _)) O ?_)))))
  refine AE.retell (k:=17) (u:=(aG (Af T))) O (by rw [hT]) (al J3 O λb2=>Aw O sizeOf76 O (AE.nil (AD.subF (sL [1,2,3,12,13,14,5] O) (AD.then_ ?_))))
  refine Cm [(0,true),(1,true),(2,true),(3,true),(4,true),(5,true),(6,true),(7,true),(8,true),(9,true),(10,false),(11,true),(12,false),(13,true),(14,false)] (sk (sl sr)) (Bc O (Au (v:=(pP b2 0)) O (AC (j:=0) O O underlying76 sizeOf3 O (by decide) O) (Be 0 (vN T.1) Bn O (Bc O (Au (v:=(pP b2 1)) O (AC (j:=1) O O underlying76 sizeOf3 O (by decide) O) ?_)))))
  refine Be 0 (vN T.2.1) Bn O (Bc O (Au (v:=(pP b2 2)) O (AC (j:=2) O O underlying76 sizeOf3 O (by decide) O) (Be 0 (vN T.2.2) Bn O (Au (v:=(pP (pB (some ⟨bm,0,none⟩)) (pO (some ⟨bm,0,none⟩)+T.1*1))) O (AQ (j:=T.1) O O hbm.row underlying208 sizeOf4 O Z) (AT.imp O ?_)))))
  refine AE.storeRow1 (j:=T.1) (v:=(Value.bool true)) O O hbm (by rw [M5,Nat.mul_one];simp [Ge]) Z O sizeOf4 O (Pk _ _ _) (AT.back (sk (sl sr)) (Au (v:=(pP (pB (some ⟨bm,0,none⟩)) (pO (some ⟨bm,0,none⟩)+T.2.1*1))) O (AQ (j:=T.2.1) O O hbm.row underlying208 sizeOf4 O Z) (AT.imp O (AE.storeRow1 (j:=T.2.1) (v:=(Value.bool true)) O O hbm (by rw [M5,Nat.mul_one];simp [Ge]) Z O sizeOf4 O (Pk _ _ _) (AT.back (sk (sl sr)) ?_)))))
  refine Au (v:=(pP (pB (some ⟨bm,0,none⟩)) (pO (some ⟨bm,0,none⟩)+T.2.2*1))) O (AQ (j:=T.2.2) O O hbm.row underlying208 sizeOf4 O Z) (AT.imp O (AE.storeRow1 (j:=T.2.2) (v:=(Value.bool true)) O O hbm (by rw [M5,Nat.mul_one];simp [Ge]) Z O sizeOf4 O (Pk _ _ _) (AT.back (sk (sl sr)) (AT.nil (AD.subF (sL [1,2,3,12,13,14,5] O) ?_)))))
  refine AD.in_normal (AD.then_ (AF.region (AH (AW (c:=((t+1:Nat):Int)) O O (AX (a:=t) (b:=1) Z)) O (AS O (AE.nil ?_)))))
  refine AD.subF (sL [1,2,3,12,13,14,5] O) ?_
  rw [hT,Ra Z]
  exact AD.round1 (t+1) Z Z (sF O) (sl sr)
 ·replace hc0:=of_decide_eq_false hc0
  have htt:t=ts.length:=by omega
  refine AF.exit (AD.then_exit (AD.round1_exit (AD.in_exit (q1 (q4 ?_)))))
  refine AS O (AE.frzRow 0 O hbm (by rw [M5,Nat.mul_one];simp [Ge]) O O λhn_US=>Ee call129 (λw hw=>Uc (Ki ts ps.length t) ps.length ⟨(some ⟨bm,0,none⟩),ps.length,hbm.row⟩ (Ge _ _ _) Z (λj hj=>by rw [htt];exact SR hj (hv.use j hj)) w (Cq (S:=S) hw 0 O (At.new hn_US))) O (AE.nil (AD.subF (sL [1,2,3,12,13,14,32] O) (AD.then_ ?_))))
  refine AF.cond_false O (AF.skip (q2 (AH (v:=(pP b1 0)) (AA O underlying31 O sizeOf27 O) O (BJ 1 (Value.slice x.a.p ps.length x.a.c) DG O (AE.callL (S:=S) (V:=V0) (LW:=SB (T:=55) (z:=10) (cs:=rowsL Am ps) (n:=ps.length)) (args:=[(Value.slice x.a.p ps.length x.a.c)]) call118 (λw hw=>IN ps x.a Z w (Tb (Cq hw 2 O lx))) O λcl1 hcl1=>?_)))))
  refine AL O (q3 (sL [1,2,3,12,13,14,6] O) (AS O ?_))
  have hpn:cl1.p≠none:=λe=>by have:=(cl1.ok.nil e).1;omega
  refine AE.callWX 0 (α:=List Pt) (K:=λys=>ys.Perm ps) (cs':=λys=>rowsL Am ys) (v:=(Value.tuple #[])) (AK O) (A_ (args:=[(Value.slice cl1.p ps.length cl1.c),(Value.func (.func 131) #[] #[])]) O O call130) O (λw hw=>Sd ps _ _ _ 55 cl1.ok hpn O Z hbp w (hw.holds (i:=0) O)) (λd hd=>by cases hd<;>exact (Ac O)) λys hys=>?_
  have hyl:=hys.length_eq
  refine AE.frzRow 0 O cl1.ok (by rw [Aa BG,hyl]) O O λhn_cl1=>q6 (sL [1,2,3,12,13,14,6] O) (Cm [(0,true),(3,true),(4,true),(5,true),(1,false),(2,true),(6,true),(7,true)] sr (Bc O (Au (v:=(pP b1 0)) O (AA O underlying31 O sizeOf27 O) (Be 2 (Value.slice x.a.p ps.length x.a.c) DG O ?_))))
  refine Au (v:=(vN ps.length)) O (AG O underlying27) (AT.imp O (Ee call132 (λw hw=>O8 ys ps.length ⟨cl1.p,cl1.c,cl1.ok.row⟩ hyl Z (hys.nodup_iff.2 hv.dst) w (Cq (S:=S) hw 0 O (At.new hn_cl1))) O (AT.back sr (Au (v:=(vN ps.length)) O (AG O underlying27) (Au O (BY (c:=true) O O (decide_eq_true O)) ?_)))))
  exact Eg O (AT.nil (AD.subF (sL [1,2,3,12,13,14,6] O) (AD.then_ (AF.ret (AR O (Ai (v:=(Value.bool true)) O) (λw hw=>⟨rfl,hw.out⟩))))))
theorem WU (s r:T3) (h:s.1=r.1/\s.2.1=r.2.1) (w:World)  :Calls prog 136 #[(aG (Af s)),(aG (Af r))] w (Aq w (Value.bool true)):=by
 refine Ae (args:=[(aG (Af s)),(aG (Af r))]) func136 O O (Ac O) (AF.subF (sL [0,1] O) (q4 (Bg (cs:=Af s) O λb1=>Bg (cs:=Af r) O λb2=>AL O ?_)))
 refine q3 (sL [2,3,4] O) (AH (v:=(pP b1 0)) (AA O underlying44 O sizeOf3 O) O (BJ 1 (vN s.1) Bn O (AH (v:=(pP b2 0)) (AA O underlying44 O sizeOf3 O) O (BJ 0 (vN r.1) Bn O (AH (BY (c:=true) O O (decide_eq_true Z)) O ?_)))))
 refine AS O (AE.step (v:=(pP b1 1)) (AB O) (AA O underlying44 O sizeOf3 O) O (Ac O) (AE.step (v:=(vN s.2.1)) (AB O) (AI (i:=1) (v:=(vN s.2.1)) O O Bn.a O) O (Ac O) (AE.step (v:=(pP b2 1)) (AB O) (AA O underlying44 O sizeOf3 O) O (Ac O) (AE.step (v:=(vN r.2.1)) (AB O) (AI (i:=0) (v:=(vN r.2.1)) O O Bn.a O) O (Ac O) (AE.step (v:=(Value.bool true)) (AB O) (BY (c:=true) O O (decide_eq_true Z)) O (Ac O) ?_)))))
 exact AH (v:=(Value.bool true)) (Aj O O) O (AL O (AE.nil (AD.subF (sL [4] O) (AD.then_ (AF.ret (AR O (Ai (v:=(Value.bool true)) O) (λw hw=>⟨rfl,hw.out⟩)))))))
theorem UZ (xs ys:List T3) (x:RX (rowsL Af xs) xs.length) (y:RX (rowsL Af ys) ys.length) (hn:xs.length=ys.length) (hl:xs.length<=1000000) (hk:∀j,j<xs.length->(xs.getD j (0,0,0)).1=(ys.getD j (0,0,0)).1/\(xs.getD j (0,0,0)).2.1=(ys.getD j (0,0,0)).2.1) (w:World) {S:Nat->Prop} (hx:Ro S w x) (hy:Ro S w y):Calls prog 90 #[(Value.slice x.p xs.length x.c),(Value.slice y.p ys.length y.c),(Value.func (.func 136) #[] #[])] w (Aq w (Value.bool true)):=by
 have lx:=DU (W:=w) hx
 have ly:=DU (W:=w) hy
 refine A6 (args:=[(Value.slice x.p xs.length x.c),(Value.slice y.p ys.length y.c),(Value.func (.func 136) #[] #[])]) (L:=[AY x.p (rowsL Af xs),AY y.p (rowsL Af ys)]) func90 O O (Ac O) (DV hx (DV hy BN)) (AF.subF (sL [0,1,2] O) (q4 (AL O (AE.nil (q1 ?_)))))
 refine q4 (AS O (AH (v:=(vN xs.length)) (AG O underlying29) O (AS O (AH (v:=(vN ys.length)) (AG O underlying29) O (AH (CB (c:=false) O O (decide_eq_false Z)) O ?_)))))
 refine AE.nil (AD.subF (sL [0,1,2,6,12] O) (AD.then_ (AF.cond_false O (AF.skip (q1 ?_)))))
 refine q4 (AS O (AH (v:=(vN xs.length)) (AG O underlying29) O (AS O (AE.nil (AD.subF (sL [0,1,2,6,14,15] O) ?_)))))
 refine AD.then_ (AF.block ?_)
 refine AF.lp1 (tg λ(j:Nat)=>j<=xs.length) (tg λ(j:Nat)=>[(0,(Value.slice x.p xs.length x.c)),(1,(Value.slice y.p ys.length y.c)),(2,(Value.func (.func 136) #[] #[])),(14,(vN xs.length)),(15,(vN j))]) (tg λ(j:Nat)=>[AY x.p (rowsL Af xs),AY y.p (rowsL Af ys)]) (tg λ(j:Nat)=>xs.length-j) 0 (Nat.zero_le _) (sF O) sr (λj hJ=>?_)
 have hj:=hJ
 refine q4 (AH (Ak (c:=(decide (j<xs.length))) O O (C1 (a:=j) (b:=xs.length))) O (AE.nil (q1 ?_)))
 refine AF.cond O (λhc1=>?_) (λhc1=>?_)
 ·replace hc1:=of_decide_eq_true hc1
  refine AF.skip (q1 (AF.block (q4 (AS O (AL O ?_)))))
  refine q6 (sL [0,1,2,14,15,7] O) (Cm [(0,true),(1,true),(2,true),(3,true),(4,true),(5,true),(6,true),(7,true),(8,true),(9,false),(10,true)] sr (Bc O (Bc O (Bc O (Au (v:=(pP (pB x.p) (pO x.p+j*3))) O (AQ (j:=j) O O x.ok underlying29 sizeOf44 O Z) ?_)))))
  refine Au (v:=(aG (Af (xs.getD j ((0,0,0):Nat×Nat×Nat))))) O (AO (vs:=Af (xs.getD j ((0,0,0):Nat×Nat×Nat))) (i:=0) O O (BI.ne x.ok Z) NG (An Ah _ _ _ Z) (Ah _)) (Bc O (Bc O (Au (v:=(pP (pB y.p) (pO y.p+j*3))) O (AQ (j:=j) O O y.ok underlying29 sizeOf44 O Z) (Au (v:=(aG (Af (ys.getD j ((0,0,0):Nat×Nat×Nat))))) O (AO (vs:=Af (ys.getD j ((0,0,0):Nat×Nat×Nat))) (i:=1) O O (BI.ne y.ok Z) NG (An Ah _ _ _ Z) (Ah _)) (AT.imp O ?_)))))
  refine BR call136 (WU _ _ (hk j Z)) O (AT.back sr (Au O (BZ (c:=false) O O) (AT.nil (AD.subF (sL [0,1,2,14,15,28] O) (AD.then_ ?_)))))
  refine AF.cond_false O (AF.skip (AD.in_normal (AD.then_ (AF.region (AH (AW (c:=((j+1:Nat):Int)) O O (AX (a:=j) (b:=1) Z)) O ?_)))))
  exact AS O (AE.nil (AD.subF (sL [0,1,2,14,15] O) (AD.round1 (j+1) Z Z (sF O) sr)))
 ·replace hc1:=of_decide_eq_false hc1
  refine AF.exit (AD.then_exit (AD.round1_exit (AD.in_exit (q2 (AL O ?_)))))
  exact AE.nil (AD.then_ (AF.ret (AR O (Ai (v:=(Value.bool true)) O) (λw hw=>⟨rfl,hw.out⟩))))
theorem Q2 {ps:List Pt} {ts ss:List T3} (x:MX ps ts ss) (hv:J1 ps ts ss) (w:World) {S:Nat->Prop} (hx:Ro S w x):Calls prog 60 #[(aG (Bk x))] w (Aq w (Value.bool true)):=by
 have hp:=hv.pl
 have htl:=hv.tl
 have hsl:=hv.sl
 have h0:=hv.t0
 have lx:=DU (W:=w) hx
 refine A6 (args:=[(aG (Bk x))]) (L:=[AY x.a.p (rowsL Am ps),AY x.b.p (rowsL Af ts),AY x.c.p (rowsL Af ss)]) func60 O O (Ac O) (DV hx BN) (AF.subF (sL [0] O) (q4 (Bg (cs:=Bk x) O λb1=>AL O (q6 (sL [1,2] O) ?_))))
 refine Cm [(0,true),(1,true),(2,true),(3,true),(4,true),(5,true),(6,false),(7,false),(8,true)] sr (Au (v:=(pP b1 2)) O (AA O underlying31 O sizeOf29 O) (Be 0 (Value.slice x.c.p ss.length x.c.c) KN O (Au (v:=(pP b1 0)) O (AA O underlying31 O sizeOf27 O) (Be 0 (Value.slice x.a.p ps.length x.a.c) DG O (Au (v:=(pP b1 1)) O (AA O underlying31 O sizeOf28 O) ?_)))))
 refine Be 0 (Value.slice x.b.p ts.length x.b.c) B4 O (AT.imp O (AE.callL (S:=S) (V:=Yj) (LW:=SB (T:=44) (z:=3) (cs:=rowsL Af (Bx ts)) (n:=(Bx ts).length)) (args:=[(Value.slice x.a.p ps.length x.a.c),(Value.slice x.b.p ts.length x.b.c)]) call123 (λw hw=>Uo ts x.b x.a.p ps.length x.a.c hv.num Z Z w (Ot (Cq hw 1 O lx))) O λrm hrm=>AE.frzRow 0 O rm.ok (Aa Ah _) O O λhn_rm=>AT.back (sl sr) (AT.imp O ?_)))
 refine Ee call90 (λw hw=>UZ ss (Bx ts) x.c ⟨rm.p,(Bx ts).length,rm.ok.clip⟩ hv.rl Z hv.rim w (WE (Cq hw 2 O lx)) (Cq (S:=S) hw 0 O (At.new hn_rm))) O (AT.back (sl sr) (Eg O (AT.nil (AD.subF (sL [2] O) (AD.then_ ?_)))))
 exact AF.ret (AR O (Ai (v:=(Value.bool true)) O) (λw hw=>⟨rfl,hw.out⟩))
theorem Up {ps:List Pt} {ts ss:List T3} (x:MX ps ts ss) (hv:J1 ps ts ss) (w:World) {S:Nat->Prop} (hx:Ro S w x):Calls prog 19 #[(aG (Bk x))] w (Aq w (vI 0)):=by
 have hp:=hv.pl
 have htl:=hv.tl
 have hsl:=hv.sl
 have h0:=hv.t0
 have lx:=DU (W:=w) hx
 refine A6 (args:=[(aG (Bk x))]) (L:=[AY x.a.p (rowsL Am ps),AY x.b.p (rowsL Af ts),AY x.c.p (rowsL Af ss)]) func19 O O (Ac O) (DV hx BN) (AF.subF (sL [0] O) (q4 (Bg (cs:=Bk x) O λb1=>AL O (q6 (sL [1,2] O) ?_))))
 refine AF.block (q4 (AH (v:=(pP b1 0)) (AA O underlying31 O sizeOf27 O) O (BJ 0 (Value.slice x.a.p ps.length x.a.c) DG O (AH (v:=(vN ps.length)) (AG O underlying27) O (AH (CW (c:=false) O O (decide_eq_false Z)) O ?_)))))
 refine AS O (AE.step (v:=(pP b1 1)) (AB O) (AA O underlying31 O sizeOf28 O) O (Ac O) (AE.step (v:=(Value.slice x.b.p ts.length x.b.c)) (AB O) (AI (i:=0) (v:=(Value.slice x.b.p ts.length x.b.c)) O O B4.a O) O (Ac O) (AE.step (v:=(vN ts.length)) (AB O) (AG O underlying28) O (Ac O) (AE.step (v:=(Value.bool false)) (AB O) (CW (c:=false) O O (decide_eq_false Z)) O (Ac O) (AH (v:=(Value.bool false)) (AV O O) O ?_)))))
 refine AS O (AE.step (v:=(pP b1 2)) (AB O) (AA O underlying31 O sizeOf29 O) O (Ac O) (AE.step (v:=(Value.slice x.c.p ss.length x.c.c)) (AB O) (AI (i:=0) (v:=(Value.slice x.c.p ss.length x.c.c)) O O KN.a O) O (Ac O) (AE.step (v:=(vN ss.length)) (AB O) (AG O underlying29) O (Ac O) (AE.step (v:=(Value.bool false)) (AB O) (CW (c:=false) O O (decide_eq_false Z)) O (Ac O) (AH (v:=(Value.bool false)) (AV O O) O ?_)))))
 refine AL O (AE.nil (AD.subF (sL [1,2,3] O) (AD.then_ (AF.cond_false O (q4 ?_)))))
 refine BA 0 C_ O (Ee call57 (λw hw=>W8 x hv w (Cq hw 1 O lx)) O (AH (BZ (c:=false) O O) O (AL O (AE.nil (AD.subF (sL [1,2,20] O) ?_)))))
 refine AD.then_ (AF.cond_false O (q4 (BA 0 C_ O (Ee call58 (λw hw=>Vz x hv w (Cq hw 1 O lx)) O (AH (BZ (c:=false) O O) O ?_)))))
 refine AS O (AE.step (v:=(aG (Bk x))) (AB O) (A7 (i:=0) (vs:=Bk x) O O C_.a C_.s O O) O (Ac O) (AE.call (v:=(Value.bool true)) (AB O) (A_ (args:=[(aG (Bk x))]) O O call59) (λw hw=>Sw x hv w (Cq hw 1 O lx)) O (Ac O) (AE.step (v:=(Value.bool false)) (AB O) (BZ (c:=false) O O) O (Ac O) (AH (v:=(Value.bool false)) (AV O O) O (AS O ?_)))))
 refine AE.step (v:=(aG (Bk x))) (AB O) (A7 (i:=0) (vs:=Bk x) O O C_.a C_.s O O) O (Ac O) (AE.call (v:=(Value.bool true)) (AB O) (A_ (args:=[(aG (Bk x))]) O O call60) (λw hw=>Q2 x hv w (Cq hw 1 O lx)) O (Ac O) (AE.step (v:=(Value.bool false)) (AB O) (BZ (c:=false) O O) O (Ac O) (AH (v:=(Value.bool false)) (AV O O) O (AL O (AE.nil ?_)))))
 refine AD.subF (sL [1,2,24] O) (AD.then_ (AF.cond_false O (AF.skip (AD.in_normal (q2 ?_)))))
 exact AL O (AE.nil (AD.subF (sL [1,2] O) (AD.then_ (AF.ret (AR O (Ai (v:=(vI 0)) O) (λw hw=>⟨rfl,hw.out⟩))))))
end
end Go.Proofs.YtfbomiejpbchdaaGreat
