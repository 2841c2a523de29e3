import Derived.Test.YtfbomiejpbchdaaGreatDoorPart06
import Derived.Test.YtfbomiejpbchdaaGreatDoorPart31
import Derived.Test.YtfbomiejpbchdaaGreatDoorPart32
namespace Go.Proofs.YtfbomiejpbchdaaGreatDoor
open Go Go.RowKit Go.Proofs.Tryz
set_option linter.unusedVariables false
set_option linter.unusedSimpArgs false
section
set_option maxRecDepth 100000
theorem GH:MD prog 239 Hz NP where
 law:=.of_law (deep_law_laid TR (m:=2) (by decide) (by decide +kernel) (by kernel_rfl) (by kernel_rfl))
 key:=λa h=>Jq underlying239 ⟨rfl,rfl⟩ ⟨rfl,rfl⟩ (by decide +kernel) underlying3 (by kernel_rfl) (by kernel_rfl) (by kernel_rfl) (by decide +kernel) (KX h.1) (KX h.2)
 inj:=λa b h=>LH h
theorem Ij (x0:Nat×Nat×Nat):Instr.fill (λi=>some (i*3,3)) ((Array.range (1*3)).map ((Value.agg (An ((0,0,0):Nat×Nat×Nat)).toArray).cells[·%(Value.agg (An ((0,0,0):Nat×Nat×Nat)).toArray).cells.size]!)) [(0,.agg (An x0).toArray)]=some (An x0).toArray:=by kernel_rfl
set_option maxHeartbeats 4000000 in
theorem Tq (ts:List T3) (x:RX (rowsL An ts) ts.length) (pp:Option Addr) (N pc:Nat) (hn:CU N ts=true) (hN:N<=4611686018427387904) (hl:ts.length<=1000000000) (w:World) {S:Nat->Prop} (hx:Ro S w x):Calls prog 125 #[(Value.slice pp N pc),(Value.slice x.p ts.length x.c)] w (Kt WB (VO (T:=43) (z:=3) (cs:=rowsL An (JF ts)) (n:=(JF ts).length)) S w):=by
 have lx:=En (W:=w) hx
 refine BC (args:=[(Value.slice pp N pc),(Value.slice x.p ts.length x.c)]) (L:=[Ag x.p (rowsL An ts)]) func125 O O (Ad O) (Eo hx BR) (AF.subF (sL [0,1] O) (q4 (AK O (AE.nil (q1 ?_)))))
 refine q4 (AO O (AO O (AH (v:=(vN N)) (AG O underlying28) O (D1 (args:=[(Value.slice x.p ts.length x.c),(vN N)]) (v:=(Value.bool true)) call90 (λw hw=>(by have h9:=NN N ts x Z w (Dz hw 0 O lx);rw [hn] at h9;exact h9)) O (AH (BV (c:=false) O O) O ?_)))))
 refine AE.nil (AC.subF (sL [1,4,18] O) (AC.then_ (AF.cond_false O (AF.skip (q2 ?_)))))
 refine AE.makeMap Hz vN (AP O) O λb1=>AK O (q6 (sL [1,4,5] O) (q4 (AO O (AH (v:=(vN ts.length)) (AG O underlying23) O ?_))))
 refine AO O (AE.nil (AC.then_ (AF.block ?_)))
 refine AF.lp1 (tg λ(t:Nat)=>t<=ts.length) (tg λ(t:Nat)=>[(1,(Value.slice x.p ts.length x.c)),(4,(Value.slice none 0 0)),(5,(Value.map (some b1))),(20,(Value.slice x.p ts.length x.c)),(21,(vN ts.length)),(22,(vN t))]) (tg λ(t:Nat)=>[C8 b1 Hz vN (CT ts (3*t+0)),Ag x.p (rowsL An ts)]) (tg λ(t:Nat)=>ts.length-t) 0 (Nat.zero_le _) (sF O) sr (λt hJ=>?_)
 have ht:=hJ
 refine q4 (AH (Af (c:=(decide (t<ts.length))) O O (C1 (a:=t) (b:=ts.length))) O (AE.nil (q1 ?_)))
 refine AF.cond O (λhc1=>?_) (λhc1=>?_)
 ·replace hc1:=of_decide_eq_true hc1
  obtain ⟨T,hT⟩:∃q,q=ts.getD t (0,0,0):=⟨_,rfl⟩
  obtain ⟨g1,g2,g3⟩:=C3 (CO hn hc1)
  rw [<-hT] at g1 g2 g3
  refine AF.skip (q1 (AF.block (q4 (AH (v:=(pP (pB x.p) (pO x.p+t*3))) (AR (j:=t) O O x.ok underlying23 sizeOf79 O Z) O (AH (v:=(aG (An (ts.getD t ((0,0,0):Nat×Nat×Nat))))) (AU (vs:=An (ts.getD t ((0,0,0):Nat×Nat×Nat))) (i:=1) O O (BO.ne x.ok Z) H0 (Ar BI _ _ _ Z) (BI _)) O ?_)))))
  refine AE.retell (k:=25) (u:=(aG (An T))) O (by rw [hT]) (al KN O λb2=>Av O sizeOf79 O (q3 (sL [1,4,5,20,21,22,7] O) (AO O (AE.nil ?_))))
  refine AC.then_ (AF.block (AF.unroll 4 (Eb.step (q4 (AH (Af (c:=true) O O (by decide)) O ?_)))))
  refine AE.nil (q1 (AF.cond_true O (AF.skip (q1 (AF.block ?_)))))
  refine q4 (AO O (AK O (q6 (sL [1,4,5,20,21,22,7,26,8] O) (C2 [(0,true),(1,true),(2,true),(3,true),(4,true),(5,true),(6,true),(7,true),(8,true),(9,true)] sr (Bm O ?_)))))
  refine Ay (v:=(pP b2 0)) O (AD (j:=0) O O underlying79 sizeOf3 O (by decide) O) (Bl 0 (vN T.1) Bx O (Bm O (Ay O (AW (c:=(1:Int)) O O (by decide)) (Ay O (Bz (c:=(1:Int)) O O (by decide) (by decide)) (Ay (v:=(pP b2 1)) O (AD (j:=1) O O underlying79 sizeOf3 O (by decide) O) ?_)))))
  refine Bl 0 (vN T.2.1) Bx O (EW O (EW O (AS.nil (AC.subF (sL [1,4,5,20,21,22,7,26,9,10] O) (AC.then_ ?_)))))
  obtain ⟨vq1,hvq1⟩:∃q,q=(BF (CT ts (3*t+0)) ((min T.1 T.2.1,max T.1 T.2.1):P2)).getD 0:=⟨_,rfl⟩
  refine VN [(0,true),(1,true),(2,true),(3,true),(4,true),(5,true),(6,true),(7,true),(8,true),(9,true),(10,false),(11,true)] 12 [] (Vn 1 (x:=((min T.1 T.2.1,max T.1 T.2.1):P2)) (v:=vq1) O O) (List.nil_sublist _) (by kernel_rfl) (λ_ _ d _ _ h=>by cases d<;>exact h) (vM O O O (vM O O O (vM O O O (vE O (GW (c:=((min T.1 T.2.1:Nat):Int)) O O (by split<;>omega)) O (vM O O O ?_)))))
  refine vM O O O (vE O (Ff (c:=((max T.1 T.2.1:Nat):Int)) O O (by split<;>omega)) O (vE (v:=(aG ([(vN (min T.1 T.2.1)),(vN (max T.1 T.2.1))]))) O (AV (zs:=A6 ((0,0):P2)) (vs:=[(vN (min T.1 T.2.1)),(vN (max T.1 T.2.1))]) (pv:=[(0,(vN (min T.1 T.2.1))),(1,(vN (max T.1 T.2.1)))]) (places:=[(0,1),(1,1)]) zeroValue239 underlying239 (λw=>by simp [sizeOf3]) O O) O (vE (v:=(vN vq1)) O (GN GH 1 (kvs:=CT ts (3*t+0)) (x:=((min T.1 T.2.1,max T.1 T.2.1):P2)) (z0:=0) O O underlying238 zeroValue3 O (Ed hn hN _ Z) (DJ Z Z) hvq1) O ?_)))
  have hmq:=Ku (ts:=ts) (3*t+0) ((min T.1 T.2.1,max T.1 T.2.1):P2)
  refine vE O (AW (c:=((vq1+1:Nat):Int)) O O (AZ (a:=vq1) (b:=1) Z)) O (CG.imp O (AE.mapEntry GH 1 (kvs:=CT ts (3*t+0)) (x:=((min T.1 T.2.1,max T.1 T.2.1):P2)) (z0:=0) (v:=vq1) O O underlying238 zeroValue3 O (Ed hn hN _ Z) (DJ Z Z) hvq1 O (CG.backW (UC 1 O O) (vE O (AX (v:=(vN (Ck (CT ts (3*t+0)) ((min T.1 T.2.1,max T.1 T.2.1):P2)))) O O) O (CG.cut O ?_)))))
  refine AE.entryStore 1 (kvs:=CT ts (3*t+0)) (x:=((min T.1 T.2.1,max T.1 T.2.1):P2)) (u:=vq1) (y:=vq1+1) O O O O ?_
  rw [show Ba (CT ts (3*t+0)) ((min T.1 T.2.1,max T.1 T.2.1):P2) (vq1+1)=CT ts (3*t+1) from by rw [hvq1,hT];exact (HO (ts:=ts) (t:=t) (i:=0) Z).symm]
  refine AS.back (List.nil_sublist _) (AS.nil (AC.subF (sL [1,4,5,20,21,22,7,26] O) (AC.in_normal (AC.then_ (AF.region ?_)))))
  refine AH (AW (c:=(1:Int)) O O (by decide)) O (AO O (AE.nil (AC.subF (sL [1,4,5,20,21,22,7,26] O) (AC.again (Eb.step ?_)))))
  refine q4 (AH (Af (c:=true) O O (by decide)) O (AE.nil (q1 (AF.cond_true O (AF.skip ?_)))))
  refine q1 (AF.block (q4 (AO O (AK O (q6 (sL [1,4,5,20,21,22,7,26,8] O) ?_)))))
  refine C2 [(0,true),(1,true),(2,true),(3,true),(4,true),(5,true),(6,true),(7,true),(8,true),(9,true)] sr (Bm O (Ay (v:=(pP b2 1)) O (AD (j:=1) O O underlying79 sizeOf3 O (by decide) O) (Bl 0 (vN T.2.1) Bx O (Bm O (Ay O (AW (c:=(2:Int)) O O (by decide)) ?_)))))
  refine Ay O (Bz (c:=(2:Int)) O O (by decide) (by decide)) (Ay (v:=(pP b2 2)) O (AD (j:=2) O O underlying79 sizeOf3 O (by decide) O) (Bl 0 (vN T.2.2) Bx O (EW O (EW O (AS.nil ?_)))))
  refine AC.subF (sL [1,4,5,20,21,22,7,26,9,10] O) (AC.then_ ?_)
  obtain ⟨vq2,hvq2⟩:∃q,q=(BF (CT ts (3*t+1)) ((min T.2.1 T.2.2,max T.2.1 T.2.2):P2)).getD 0:=⟨_,rfl⟩
  refine VN [(0,true),(1,true),(2,true),(3,true),(4,true),(5,true),(6,true),(7,true),(8,true),(9,true),(10,false),(11,true)] 12 [] (Vn 1 (x:=((min T.2.1 T.2.2,max T.2.1 T.2.2):P2)) (v:=vq2) O O) (List.nil_sublist _) (by kernel_rfl) (λ_ _ d _ _ h=>by cases d<;>exact h) (vM O O O (vM O O O (vM O O O (vE O (GW (c:=((min T.2.1 T.2.2:Nat):Int)) O O (by split<;>omega)) O (vM O O O ?_)))))
  refine vM O O O (vE O (Ff (c:=((max T.2.1 T.2.2:Nat):Int)) O O (by split<;>omega)) O (vE (v:=(aG ([(vN (min T.2.1 T.2.2)),(vN (max T.2.1 T.2.2))]))) O (AV (zs:=A6 ((0,0):P2)) (vs:=[(vN (min T.2.1 T.2.2)),(vN (max T.2.1 T.2.2))]) (pv:=[(0,(vN (min T.2.1 T.2.2))),(1,(vN (max T.2.1 T.2.2)))]) (places:=[(0,1),(1,1)]) zeroValue239 underlying239 (λw=>by simp [sizeOf3]) O O) O (vE (v:=(vN vq2)) O (GN GH 1 (kvs:=CT ts (3*t+1)) (x:=((min T.2.1 T.2.2,max T.2.1 T.2.2):P2)) (z0:=0) O O underlying238 zeroValue3 O (Ed hn hN _ Z) (DJ Z Z) hvq2) O ?_)))
  have hmq:=Ku (ts:=ts) (3*t+1) ((min T.2.1 T.2.2,max T.2.1 T.2.2):P2)
  refine vE O (AW (c:=((vq2+1:Nat):Int)) O O (AZ (a:=vq2) (b:=1) Z)) O (CG.imp O (AE.mapEntry GH 1 (kvs:=CT ts (3*t+1)) (x:=((min T.2.1 T.2.2,max T.2.1 T.2.2):P2)) (z0:=0) (v:=vq2) O O underlying238 zeroValue3 O (Ed hn hN _ Z) (DJ Z Z) hvq2 O (CG.backW (UC 1 O O) (vE O (AX (v:=(vN (Ck (CT ts (3*t+1)) ((min T.2.1 T.2.2,max T.2.1 T.2.2):P2)))) O O) O (CG.cut O ?_)))))
  refine AE.entryStore 1 (kvs:=CT ts (3*t+1)) (x:=((min T.2.1 T.2.2,max T.2.1 T.2.2):P2)) (u:=vq2) (y:=vq2+1) O O O O ?_
  rw [show Ba (CT ts (3*t+1)) ((min T.2.1 T.2.2,max T.2.1 T.2.2):P2) (vq2+1)=CT ts (3*t+2) from by rw [hvq2,hT];exact (HO (ts:=ts) (t:=t) (i:=1) Z).symm]
  refine AS.back (List.nil_sublist _) (AS.nil (AC.subF (sL [1,4,5,20,21,22,7,26] O) (AC.in_normal (AC.then_ (AF.region ?_)))))
  refine AH (AW (c:=(2:Int)) O O (by decide)) O (AO O (AE.nil (AC.subF (sL [1,4,5,20,21,22,7,26] O) (AC.again (Eb.step ?_)))))
  refine q4 (AH (Af (c:=true) O O (by decide)) O (AE.nil (q1 (AF.cond_true O (AF.skip ?_)))))
  refine q1 (AF.block (q4 (AO O (AK O (q6 (sL [1,4,5,20,21,22,7,26,8] O) ?_)))))
  refine C2 [(0,true),(1,true),(2,true),(3,true),(4,true),(5,true),(6,true),(7,true),(8,true),(9,true)] sr (Bm O (Ay (v:=(pP b2 2)) O (AD (j:=2) O O underlying79 sizeOf3 O (by decide) O) (Bl 0 (vN T.2.2) Bx O (Bm O (Ay O (AW (c:=(3:Int)) O O (by decide)) ?_)))))
  refine Ay O (Bz (c:=(0:Int)) O O (by decide) (by decide)) (Ay (v:=(pP b2 0)) O (AD (j:=0) O O underlying79 sizeOf3 O (by decide) O) (Bl 0 (vN T.1) Bx O (EW O (EW O (AS.nil ?_)))))
  refine AC.subF (sL [1,4,5,20,21,22,7,26,9,10] O) (AC.then_ ?_)
  obtain ⟨vq3,hvq3⟩:∃q,q=(BF (CT ts (3*t+2)) ((min T.2.2 T.1,max T.2.2 T.1):P2)).getD 0:=⟨_,rfl⟩
  refine VN [(0,true),(1,true),(2,true),(3,true),(4,true),(5,true),(6,true),(7,true),(8,true),(9,true),(10,false),(11,true)] 12 [] (Vn 1 (x:=((min T.2.2 T.1,max T.2.2 T.1):P2)) (v:=vq3) O O) (List.nil_sublist _) (by kernel_rfl) (λ_ _ d _ _ h=>by cases d<;>exact h) (vM O O O (vM O O O (vM O O O (vE O (GW (c:=((min T.2.2 T.1:Nat):Int)) O O (by split<;>omega)) O (vM O O O ?_)))))
  refine vM O O O (vE O (Ff (c:=((max T.2.2 T.1:Nat):Int)) O O (by split<;>omega)) O (vE (v:=(aG ([(vN (min T.2.2 T.1)),(vN (max T.2.2 T.1))]))) O (AV (zs:=A6 ((0,0):P2)) (vs:=[(vN (min T.2.2 T.1)),(vN (max T.2.2 T.1))]) (pv:=[(0,(vN (min T.2.2 T.1))),(1,(vN (max T.2.2 T.1)))]) (places:=[(0,1),(1,1)]) zeroValue239 underlying239 (λw=>by simp [sizeOf3]) O O) O (vE (v:=(vN vq3)) O (GN GH 1 (kvs:=CT ts (3*t+2)) (x:=((min T.2.2 T.1,max T.2.2 T.1):P2)) (z0:=0) O O underlying238 zeroValue3 O (Ed hn hN _ Z) (DJ Z Z) hvq3) O ?_)))
  have hmq:=Ku (ts:=ts) (3*t+2) ((min T.2.2 T.1,max T.2.2 T.1):P2)
  refine vE O (AW (c:=((vq3+1:Nat):Int)) O O (AZ (a:=vq3) (b:=1) Z)) O (CG.imp O (AE.mapEntry GH 1 (kvs:=CT ts (3*t+2)) (x:=((min T.2.2 T.1,max T.2.2 T.1):P2)) (z0:=0) (v:=vq3) O O underlying238 zeroValue3 O (Ed hn hN _ Z) (DJ Z Z) hvq3 O (CG.backW (UC 1 O O) (vE O (AX (v:=(vN (Ck (CT ts (3*t+2)) ((min T.2.2 T.1,max T.2.2 T.1):P2)))) O O) O (CG.cut O ?_)))))
  refine AE.entryStore 1 (kvs:=CT ts (3*t+2)) (x:=((min T.2.2 T.1,max T.2.2 T.1):P2)) (u:=vq3) (y:=vq3+1) O O O O ?_
  rw [show Ba (CT ts (3*t+2)) ((min T.2.2 T.1,max T.2.2 T.1):P2) (vq3+1)=CT ts (3*t+3) from by rw [hvq3,hT];exact (HO (ts:=ts) (t:=t) (i:=2) Z).symm]
  refine AS.back (List.nil_sublist _) (AS.nil (AC.subF (sL [1,4,5,20,21,22,7,26] O) (AC.in_normal (AC.then_ (AF.region ?_)))))
  refine AH (AW (c:=(3:Int)) O O (by decide)) O (AO O (AE.nil (AC.subF (sL [1,4,5,20,21,22,7,26] O) (AC.again (Eb.step ?_)))))
  refine q4 (AH (Af (c:=false) O O (by decide)) O (AE.nil (q1 (AF.cond_false O (AF.exit ?_)))))
  refine AC.then_exit (AC.then_exit (AC.in_exit (AC.in_normal (AC.then_ (AF.region ?_)))))
  refine AH (AW (c:=((t+1:Nat):Int)) O O (AZ (a:=t) (b:=1) Z)) O (AO O (AE.nil (AC.subF (sL [1,4,5,20,21,22,7,26] O) ?_)))
  rw [show 3*t+3=3*(t+1)+0 by omega]
  exact AC.round1 (t+1) Z Z (sF O) (sl sr)
 ·replace hc1:=of_decide_eq_false hc1
  have htl:t=ts.length:=by omega
  refine AF.exit (AC.then_exit (AC.round1_exit (AC.in_exit (q2 (AK O ?_)))))
  refine AE.nilRow 43 3 (AE.nil (q1 (q4 (AO O ?_))))
  rw [show CT ts (3*t+0)=(CT ts (3*ts.length)) by rw [htl,Nat.add_zero]]
  refine cX (S:=S) (cs:=rowsL B8 (B0 ts)) (k:=(B0 ts).length) (args:=[(Value.slice x.p ts.length x.c)]) call49 (λw hw=>L1 ts x N hn hN hl w (Dz hw 2 O lx)) O O O λo lo=>AH (v:=(vN ((B0 ts).length))) (AG O underlying51) O (AO O (AE.nil (AC.subF (sL [1,4,5,20,21,22,11,52,53,54] O) (AC.then_ ?_))))
  refine AF.block ?_
  refine AF.lp4 (tg λ(i:Nat) (p1:Option Addr) (c1:Nat) (out:List T3)=>i<=(B0 ts).length/\OwnOk p1 out.length c1/\out=JJ ts i) (tg λ(i:Nat) (p1:Option Addr) (c1:Nat) (out:List T3)=>[(4,(Value.slice none 0 0)),(5,(Value.map (some b1))),(52,(Value.slice o.p ((B0 ts).length) o.c)),(53,(vN ((B0 ts).length))),(54,(vN i)),(11,(Value.slice p1 out.length c1))]) (tg λ(i:Nat) (p1:Option Addr) (c1:Nat) (out:List T3)=>[Ag o.p (rowsL B8 (B0 ts)),rowW p1 43 3 out.length c1 (rowsL An out),C8 b1 Hz vN (CT ts (3*ts.length)),Ag x.p (rowsL An ts)]) (tg λ(i:Nat) (p1:Option Addr) (c1:Nat) (out:List T3)=>(B0 ts).length-i) 0 none 0 ([]:List T3) (⟨Nat.zero_le _,OwnOk.none,rfl⟩) (sF O) sr (λi p1 c1 out hJ=>?_)
  obtain ⟨hi,ho,hou⟩:=hJ
  have hol:=Pg (ts:=ts) i
  rw [<-hou] at hol
  refine q4 (AH (Af (c:=(decide (i<((B0 ts).length)))) O O (C1 (a:=i) (b:=(B0 ts).length))) O (AE.nil (q1 ?_)))
  refine AF.cond O (λhc3=>?_) (λhc3=>?_)
  ·replace hc3:=of_decide_eq_true hc3
   have hel:=KQ (ts:=ts) (3*ts.length)
   rw [<-Ki] at hel
   have hmem:((B0 ts).getD i (⟨0,0,0,0⟩:E4))∈B0 ts:=by rw [List.getD,List.getElem?_eq_getElem hc3];exact List.getElem_mem hc3
   obtain ⟨hea,heb⟩:=QR hn hN _ hmem
   refine AF.skip (q1 (AF.block (q4 (AH (v:=(pP (pB o.p) (pO o.p+i*4))) (AR (j:=i) O O o.ok underlying51 sizeOf65 O Z) O (AH (v:=(aG (B8 ((B0 ts).getD i (⟨0,0,0,0⟩:E4))))) (AU (vs:=B8 ((B0 ts).getD i (⟨0,0,0,0⟩:E4))) (i:=0) O O (BO.ne o.ok Z) L6 (Ar Cj _ _ _ Z) (Cj _)) O ?_)))))
   refine al Qo O λb2=>Av O sizeOf65 O (q3 (sL [4,5,52,53,54,11,13] O) (AO O (AH (v:=(pP b2 0)) (AA O underlying65 O sizeOf3 O) O (BJ 0 (vN (((B0 ts).getD i (⟨0,0,0,0⟩:E4)).a)) Bx O ?_))))
   refine AH (v:=(pP b2 1)) (AA O underlying65 O sizeOf3 O) O (BJ 0 (vN (((B0 ts).getD i (⟨0,0,0,0⟩:E4)).b)) Bx O (AH (v:=(aG ([(vN (((B0 ts).getD i (⟨0,0,0,0⟩:E4)).a)),(vN (((B0 ts).getD i (⟨0,0,0,0⟩:E4)).b))]))) (AV (zs:=A6 ((0,0):P2)) (vs:=[(vN (((B0 ts).getD i (⟨0,0,0,0⟩:E4)).a)),(vN (((B0 ts).getD i (⟨0,0,0,0⟩:E4)).b))]) (pv:=[(0,(vN (((B0 ts).getD i (⟨0,0,0,0⟩:E4)).a))),(1,(vN (((B0 ts).getD i (⟨0,0,0,0⟩:E4)).b)))]) (places:=[(0,1),(1,1)]) zeroValue239 underlying239 (λw=>by simp [sizeOf3]) O O) O (AH (v:=(vN ((BF (CT ts (3*ts.length)) ((((B0 ts).getD i (⟨0,0,0,0⟩:E4)).a,((B0 ts).getD i (⟨0,0,0,0⟩:E4)).b):P2)).getD 0))) (Fu GH 3 (eV:=vN) (kvs:=(CT ts (3*ts.length))) (x:=((((B0 ts).getD i (⟨0,0,0,0⟩:E4)).a,((B0 ts).getD i (⟨0,0,0,0⟩:E4)).b):P2)) (z0:=0) (co:=false) O O underlying238 zeroValue3 O (Ed hn hN _ Z) (Th Z Z)) O (AH (BQ (c:=(decide (((BF (CT ts (3*ts.length)) ((((B0 ts).getD i (⟨0,0,0,0⟩:E4)).a,((B0 ts).getD i (⟨0,0,0,0⟩:E4)).b):P2)).getD 0)=1))) O O (L9 (a:=(BF (CT ts (3*ts.length)) ((((B0 ts).getD i (⟨0,0,0,0⟩:E4)).a,((B0 ts).getD i (⟨0,0,0,0⟩:E4)).b):P2)).getD 0) (b:=1))) O (AE.nil ?_)))))
   refine AC.subF (sL [4,5,52,53,54,11,13,65] O) (AC.then_ ?_)
   refine AF.cond O (λhc4=>?_) (λhc4=>?_)
   ·replace hc4:=of_decide_eq_true hc4
    refine AF.region (AO O (AH (v:=(pP b2 0)) (AA O underlying65 O sizeOf3 O) O (BJ 0 (vN (((B0 ts).getD i (⟨0,0,0,0⟩:E4)).a)) Bx O (AH (v:=(pP b2 1)) (AA O underlying65 O sizeOf3 O) O (BJ 0 (vN (((B0 ts).getD i (⟨0,0,0,0⟩:E4)).b)) Bx O ?_)))))
    refine AH (v:=(aG ([(vN (((B0 ts).getD i (⟨0,0,0,0⟩:E4)).a)),(vN (((B0 ts).getD i (⟨0,0,0,0⟩:E4)).b)),(vI 0)]))) (AV (zs:=An ((0,0,0):Nat×Nat×Nat)) (vs:=[(vN (((B0 ts).getD i (⟨0,0,0,0⟩:E4)).a)),(vN (((B0 ts).getD i (⟨0,0,0,0⟩:E4)).b)),(vI 0)]) (pv:=[(0,(vN (((B0 ts).getD i (⟨0,0,0,0⟩:E4)).a))),(1,(vN (((B0 ts).getD i (⟨0,0,0,0⟩:E4)).b)))]) (places:=[(0,1),(1,1),(2,1)]) zeroValue43 underlying43 (λw=>by simp [sizeOf3]) O O) O (AE.openV (V:=λb3=>(Value.slice (some ⟨b3,0,none⟩) 1 1)) (T:=43) (cs:=An (((B0 ts).getD i (⟨0,0,0,0⟩:E4)).a,((B0 ts).getD i (⟨0,0,0,0⟩:E4)).b,0)) (AP O) (A_ (z:=.agg (An ((0,0,0):Nat×Nat×Nat)).toArray) (cs:=An (((B0 ts).getD i (⟨0,0,0,0⟩:E4)).a,((B0 ts).getD i (⟨0,0,0,0⟩:E4)).b,0)) (pv:=[(0,(aG ([(vN (((B0 ts).getD i (⟨0,0,0,0⟩:E4)).a)),(vN (((B0 ts).getD i (⟨0,0,0,0⟩:E4)).b)),(vI 0)])))]) underlying24 sizeOf43 zeroValue43 (by decide) (by decide) O (Ij (((B0 ts).getD i (⟨0,0,0,0⟩:E4)).a,((B0 ts).getD i (⟨0,0,0,0⟩:E4)).b,0))) O (Ad O) λb3=>AE.appendAt 3 (j:=0) (cs2:=rowsL An (out++[(((B0 ts).getD i (⟨0,0,0,0⟩:E4)).a,((B0 ts).getD i (⟨0,0,0,0⟩:E4)).b,0)])) U_ O ho (Am BI _) O O O O O (by decide) (Jc Z) Z (by rw [BW];rfl) O λp_1 c_1 ho_1 hne_1=>AK O (AE.nil (AC.subF (sL [4,5,52,53,54,11,13] O) ?_)))
    refine AC.in_normal (AC.then_ (AF.region (AH (AW (c:=((i+1:Nat):Int)) O O (AZ (a:=i) (b:=1) Z)) O (AO O (AE.nil ?_)))))
    refine AC.subF (sL [4,5,52,53,54,11,13] O) ?_
    rw [show out.length+1=(out++[(((B0 ts).getD i (⟨0,0,0,0⟩:E4)).a,((B0 ts).getD i (⟨0,0,0,0⟩:E4)).b,0)]).length by simp]
    exact AC.round4 (i+1) p_1 c_1 (out++[(((B0 ts).getD i (⟨0,0,0,0⟩:E4)).a,((B0 ts).getD i (⟨0,0,0,0⟩:E4)).b,0)]) (⟨Z,(by simpa using ho_1),by rw [hou];exact (Pl Z hc4).symm⟩) Z (sF O) (sl (sl sr))
   ·replace hc4:=of_decide_eq_false hc4
    refine AF.skip (AC.in_normal (AC.then_ (AF.region (AH (AW (c:=((i+1:Nat):Int)) O O (AZ (a:=i) (b:=1) Z)) O (AO O ?_)))))
    exact AE.nil (AC.subF (sL [4,5,52,53,54,11,13] O) (AC.round4 (i+1) p1 c1 out (⟨Z,ho,by rw [hou];exact (Sm Z hc4).symm⟩) Z (sF O) (sl sr)))
  ·replace hc3:=of_decide_eq_false hc3
   refine AF.exit (AC.then_exit (AC.round4_exit (AC.in_exit (q2 (AO O ?_)))))
   exact BS call38 (Qv p1 out.length c1 ho.row.le) O (AK O (AE.nil (AC.subF (sL [4,5,52,53,54,11] O) (AC.then_ (AF.ret (AN O (Ab (v:=(Value.slice p1 out.length out.length)) O) (λw hw=>(by rw [show JF ts=out by rw [hou,show i=(B0 ts).length by omega];rfl];exact UB hw (OX.mk p1 c1 ho) (sl (sk (sl (sl sr)))) (KS.own O KS.nil) O))))))))
end
section
set_option maxRecDepth 100000
theorem Td (us:List Bool) (n:Nat) (x:RX (bL us) n) (hn:us.length=n) (hl:n<=1000000) (hu:∀j,j<n->us.getD j false=true) (w:World) {S:Nat->Prop} (hx:Ro S w x):Calls prog 153 #[(Value.slice x.p n x.c),(Value.bool false)] w (Al w (vI (-1:Int))):=by
 have lx:=En (W:=w) hx
 refine BC (args:=[(Value.slice x.p n x.c),(Value.bool false)]) (L:=[Ag x.p (bL us)]) func153 O O (Ad O) (Eo hx BR) (AF.subF (sL [0,1] O) (q4 (AK O (AE.nil (q1 ?_)))))
 refine q4 (AO O (AH (v:=(vN n)) (AG O underlying197) O (AO O (AE.nil (AC.subF (sL [0,1,4,7,8] O) ?_)))))
 refine AC.then_ (AF.block ?_)
 refine AF.lp1 (tg λ(j:Nat)=>j<=n) (tg λ(j:Nat)=>[(0,(Value.slice x.p n x.c)),(1,(Value.bool false)),(7,(vN n)),(8,(vN j))]) (tg λ(j:Nat)=>[Ag x.p (bL us)]) (tg λ(j:Nat)=>n-j) 0 (Nat.zero_le _) (sF O) sr (λj hJ=>?_)
 have hj:=hJ
 refine q4 (AH (Af (c:=(decide (j<n))) O O (C1 (a:=j) (b:=n))) O (AE.nil (q1 ?_)))
 refine AF.cond O (λhc0=>?_) (λhc0=>?_)
 ·replace hc0:=of_decide_eq_true hc0
  refine AF.skip (q1 (AF.block (q4 (AO O (AK O ?_)))))
  refine q3 (sL [0,1,7,8,5] O) (AO O (AO O (AO O (AH (v:=(pP (pB x.p) (pO x.p+j*1))) (AR (j:=j) O O x.ok underlying197 sizeOf4 O Z) O (AH (Ax (v:=(Value.bool (us.getD j false))) (i:=0) O O (x.ok.ne Z) Q6 (Tj (us:=us) (j:=j) Z)) O ?_)))))
  refine AH (Ho (c:=false) O O underlying4 (by rw [hu j Z];rfl)) O (AE.nil (AC.subF (sL [0,1,7,8,5,16] O) (AC.then_ (AF.cond_false O (AF.skip ?_)))))
  refine AC.in_normal (AC.then_ (AF.region (AH (AW (c:=((j+1:Nat):Int)) O O (AZ (a:=j) (b:=1) Z)) O (AO O (AE.nil ?_)))))
  exact AC.subF (sL [0,1,7,8,5] O) (AC.round1 (j+1) Z Z (sF O) sr)
 ·replace hc0:=of_decide_eq_false hc0
  refine AF.exit (AC.then_exit (AC.round1_exit (AC.in_exit (q2 (AK O ?_)))))
  exact AE.nil (AC.then_ (AF.ret (AN O (Ab (v:=(vI (-1:Int))) O) (λw hw=>⟨rfl,hw.out⟩))))
theorem Pp (us:List Bool) (n:Nat) (x:RX (bL us) n) (hn:us.length=n) (hl:n<=1000000) (hu:∀j,j<n->us.getD j false=true) (w:World) {S:Nat->Prop} (hx:Ro S w x):Calls prog 118 #[(Value.slice x.p n x.c),(Value.bool false)] w (Al w (Value.bool false)):=by
 have lx:=En (W:=w) hx
 refine BC (args:=[(Value.slice x.p n x.c),(Value.bool false)]) (L:=[Ag x.p (bL us)]) func118 O O (Ad O) (Eo hx BR) (AF.subF (sL [0,1] O) (q4 (AK O (AE.nil (q2 ?_)))))
 refine AO O (AO O (D1 call153 (λw hw=>Td us n x hn hl hu w (Dz hw 0 O lx)) O (AH (DW (c:=false) O O (by decide)) O (AK O (AE.nil ?_)))))
 exact AC.subF (sL [4] O) (AC.then_ (AF.ret (AN O (Ab (v:=(Value.bool false)) O) (λw hw=>⟨rfl,hw.out⟩))))
theorem MV (ys:List Pt) (n:Nat) (x:RX (rowsL Ah ys) n) (hn:ys.length=n) (hl:n<=1000000) (hy:ys.Nodup) (w:World) {S:Nat->Prop} (hx:Ro S w x):Calls prog 122 #[(Value.slice x.p n x.c)] w (Al w (Value.slice x.p n x.c)):=by
 have lx:=En (W:=w) hx
 refine BC (args:=[(Value.slice x.p n x.c)]) (L:=[Ag x.p (rowsL Ah ys)]) func122 O O (Ad O) (Eo hx BR) (AF.subF (sL [0] O) (q4 (AK O (AE.nil (q1 ?_)))))
 refine q4 (AO O (AH (v:=(vN n)) (AG O underlying28) O (AH (Af (c:=(decide (n<2))) O O (C1 (a:=n) (b:=2))) O (AE.nil (AC.subF (sL [0,2,8] O) ?_)))))
 refine AC.then_ ?_
 refine AF.cond O (λhc0=>?_) (λhc0=>?_)
 ·replace hc0:=of_decide_eq_true hc0
  refine q4 (AO O (AK O (AE.nil (AC.subF (sL [0,2] O) (AC.then_ ?_)))))
  exact AF.ret (AC.then_ret (AN O (Ab (v:=(Value.slice x.p n x.c)) O) (λw hw=>⟨rfl,hw.out⟩)))
 ·replace hc0:=of_decide_eq_false hc0
  refine AF.skip (q1 (q4 (AK O (AE.nil (AC.then_ ?_)))))
  refine AF.block ?_
  refine AF.lp1 (tg λ(k:Nat)=>1<=k/\k<=n) (tg λ(k:Nat)=>[(0,(Value.slice x.p n x.c)),(3,(vN k))]) (tg λ(k:Nat)=>[Ag x.p (rowsL Ah ys)]) (tg λ(k:Nat)=>n-k) 1 (⟨Nat.le_refl _,Z⟩) (sF O) sr (λk hJ=>?_)
  obtain ⟨hk1,hk⟩:=hJ
  refine AF.seq (q4 (AO O (AO O (AH (v:=(vN n)) (AG O underlying28) O (AH (Af (c:=(decide (k<n))) O O (C1 (a:=k) (b:=n))) O ?_)))))
  refine AE.nil (AC.subF (sL [0,3,13] O) (AC.then_ ?_))
  refine AF.cond O (λhc1=>?_) (λhc1=>?_)
  ·replace hc1:=of_decide_eq_true hc1
   refine AF.skip (q1 (AF.block (AF.seq (C2 [(0,true),(1,true),(2,true),(3,true),(4,true),(5,true),(6,true),(7,true),(8,true),(9,true)] sr (Bm O ?_)))))
   refine Bm O (Ay (v:=(pP (pB x.p) (pO x.p+k*10))) O (AR (j:=k) O O x.ok underlying28 sizeOf63 O Z) (Ay (v:=(aG (Ah (ys.getD k (⟨0,0⟩:Pt))))) O (AU (vs:=Ah (ys.getD k (⟨0,0⟩:Pt))) (i:=0) O O (BO.ne x.ok Z) BM (Ar BD _ _ _ Z) (BD _)) (Bm O (Bm O (Ay O (Bo (c:=((k-1:Nat):Int)) O O (CJ (a:=k) (b:=1) Z Z)) ?_)))))
   refine Ay (v:=(pP (pB x.p) (pO x.p+(k-1)*10))) O (AR (j:=k-1) O O x.ok underlying28 sizeOf63 O Z) (Ay (v:=(aG (Ah (ys.getD (k-1) (⟨0,0⟩:Pt))))) O (AU (vs:=Ah (ys.getD (k-1) (⟨0,0⟩:Pt))) (i:=0) O O (BO.ne x.ok Z) BM (Ar BD _ _ _ Z) (BD _)) (Ay O (Bq (c:=decide (ys.getD k (⟨0,0⟩:Pt)=ys.getD (k-1) (⟨0,0⟩:Pt))) O O eqGuardType63 (T0 9994 (ys.getD k (⟨0,0⟩:Pt)) (ys.getD (k-1) (⟨0,0⟩:Pt)))) (AS.nil (AC.subF (sL [0,3,25] O) (AC.then_ ?_)))))
   refine AF.cond O (λhc2=>?_) (λhc2=>?_)
   ·replace hc2:=of_decide_eq_true hc2
    exact (OQ hy Z Z hc2).elim
   ·replace hc2:=of_decide_eq_false hc2
    refine AF.skip (AC.in_normal (AC.then_ (AF.region (AO O (AH (AW (c:=((k+1:Nat):Int)) O O (AZ (a:=k) (b:=1) Z)) O ?_)))))
    exact AK O (AE.nil (AC.subF (sL [0,3] O) (AC.round1 (k+1) (⟨Z,Z⟩) Z (sF O) sr)))
  ·replace hc1:=of_decide_eq_false hc1
   refine AF.exit (AC.then_exit (AC.round1_exit (AC.in_exit (q2 (AO O ?_)))))
   exact AK O (AE.nil (AC.subF (sL [0,3,2] O) (AC.then_ (AF.ret (AN O (Ab (v:=(Value.slice x.p n x.c)) O) (λw hw=>⟨rfl,hw.out⟩))))))
theorem VD:RO prog 197 4 (.bool false) 1:=⟨underlying197,_,_,rfl,rfl,rfl,rfl,rfl⟩
set_option maxHeartbeats 1000000 in
theorem S6 {ps:List Pt} {ts ss:List T3} (x:MX ps ts ss) (hv:Lu ps ts ss) (w:World) {S:Nat->Prop} (hx:Ro S w x):Calls prog 74 #[(aG (CM x))] w (Al w (Value.bool true)):=by
 have hp:=hv.pl
 have htl:=hv.tl
 have hsl:=hv.sl
 have h0:=hv.t0
 have hbp:∀p∈ps,B4 p<=1000:=λp hp=>by obtain ⟨j,hj,rfl⟩:=List.getElem_of_mem hp;have h9:=hv.sz j;rwa [B9,List.getD,List.getElem?_eq_getElem hj] at h9
 have hps0:0<ps.length:=by have h9:=(C3 (CO hv.num hv.t0)).1;omega
 have lx:=En (W:=w) hx
 refine BC (args:=[(aG (CM x))]) (L:=[Ag x.a.p (rowsL Ah ps),Ag x.b.p (rowsL An ts),Ag x.c.p (rowsL An ss)]) func74 O O (Ad O) (Eo hx BR) (AF.subF (sL [0] O) (q4 (Bi (cs:=CM x) O λb1=>AK O (q3 (sL [1,2] O) ?_))))
 refine AH (v:=(pP b1 0)) (AA O underlying30 O sizeOf28 O) O (BJ 0 (Value.slice x.a.p ps.length x.a.c) DE O (AH (v:=(vN ps.length)) (AG O underlying28) O ?_))
 refine AE.makeBool (m:=ps.length) VD O O Z O O ?_;intro bm hbm;rw [Oz ts ps.length]
 refine AK O (q6 (sL [1,2,3] O) (q4 (AH (v:=(pP b1 1)) (AA O underlying30 O sizeOf23 O) O (BJ 1 (Value.slice x.b.p ts.length x.b.c) DV O (AH (v:=(vN ts.length)) (AG O underlying23) O ?_)))))
 refine AO O (AE.nil (AC.subF (sL [1,2,3,12,13,14] O) (AC.then_ (AF.block ?_))))
 refine AF.lp1 (tg λ(t:Nat)=>t<=ts.length) (tg λ(t:Nat)=>[(1,(pP b1 0)),(2,(Value.bool false)),(3,(Value.slice (some ⟨bm,0,none⟩) ps.length ps.length)),(12,(Value.slice x.b.p ts.length x.b.c)),(13,(vN ts.length)),(14,(vN t))]) (tg λ(t:Nat)=>[rowW (some ⟨bm,0,none⟩) 4 1 ps.length ps.length (bL (If ts ps.length t)),Ae b1 30 (CM x),Ag x.a.p (rowsL Ah ps),Ag x.b.p (rowsL An ts),Ag x.c.p (rowsL An ss)]) (tg λ(t:Nat)=>ts.length-t) 0 (Nat.zero_le _) (sF O) sr (λt hJ=>?_)
 have ht:=hJ
 refine q4 (AH (Af (c:=(decide (t<ts.length))) O O (C1 (a:=t) (b:=ts.length))) O (AE.nil (q1 ?_)))
 refine AF.cond O (λhc0=>?_) (λhc0=>?_)
 ·replace hc0:=of_decide_eq_true hc0
  obtain ⟨T,hT⟩:∃q,q=ts.getD t (0,0,0):=⟨_,rfl⟩
  obtain ⟨g1,g2,g3⟩:=C3 (CO hv.num hc0)
  rw [<-hT] at g1 g2 g3
  refine AF.skip (q1 (AF.block (q4 (AH (v:=(pP (pB x.b.p) (pO x.b.p+t*3))) (AR (j:=t) O O x.b.ok underlying23 sizeOf79 O Z) O (AH (v:=(aG (An (ts.getD t ((0,0,0):Nat×Nat×Nat))))) (AU (vs:=An (ts.getD t ((0,0,0):Nat×Nat×Nat))) (i:=3) O O (BO.ne x.b.ok Z) H0 (Ar BI _ _ _ Z) (BI _)) O ?_)))))
  refine AE.retell (k:=17) (u:=(aG (An T))) O (by rw [hT]) (al KN O λb2=>Av O sizeOf79 O (AE.nil (AC.subF (sL [1,2,3,12,13,14,5] O) (AC.then_ ?_))))
  refine C2 [(0,true),(1,true),(2,true),(3,true),(4,true),(5,true),(6,true),(7,true),(8,true),(9,true),(10,false),(11,true),(12,false),(13,true),(14,false)] (sk (sl sr)) (Bm O (Ay (v:=(pP b2 0)) O (AD (j:=0) O O underlying79 sizeOf3 O (by decide) O) (Bl 0 (vN T.1) Bx O (Bm O (Ay (v:=(pP b2 1)) O (AD (j:=1) O O underlying79 sizeOf3 O (by decide) O) ?_)))))
  refine Bl 0 (vN T.2.1) Bx O (Bm O (Ay (v:=(pP b2 2)) O (AD (j:=2) O O underlying79 sizeOf3 O (by decide) O) (Bl 0 (vN T.2.2) Bx O (Ay (v:=(pP (pB (some ⟨bm,0,none⟩)) (pO (some ⟨bm,0,none⟩)+T.1*1))) O (AR (j:=T.1) O O hbm.row underlying197 sizeOf4 O Z) (AS.imp O ?_)))))
  refine AE.storeRow1 (j:=T.1) (v:=(Value.bool true)) O O hbm (by rw [KW,Nat.mul_one];simp [FR]) Z O sizeOf4 O (MS _ _ _) (AS.back (sk (sl sr)) (Ay (v:=(pP (pB (some ⟨bm,0,none⟩)) (pO (some ⟨bm,0,none⟩)+T.2.1*1))) O (AR (j:=T.2.1) O O hbm.row underlying197 sizeOf4 O Z) (AS.imp O (AE.storeRow1 (j:=T.2.1) (v:=(Value.bool true)) O O hbm (by rw [KW,Nat.mul_one];simp [FR]) Z O sizeOf4 O (MS _ _ _) (AS.back (sk (sl sr)) ?_)))))
  refine Ay (v:=(pP (pB (some ⟨bm,0,none⟩)) (pO (some ⟨bm,0,none⟩)+T.2.2*1))) O (AR (j:=T.2.2) O O hbm.row underlying197 sizeOf4 O Z) (AS.imp O (AE.storeRow1 (j:=T.2.2) (v:=(Value.bool true)) O O hbm (by rw [KW,Nat.mul_one];simp [FR]) Z O sizeOf4 O (MS _ _ _) (AS.back (sk (sl sr)) (AS.nil (AC.subF (sL [1,2,3,12,13,14,5] O) ?_)))))
  refine AC.in_normal (AC.then_ (AF.region (AH (AW (c:=((t+1:Nat):Int)) O O (AZ (a:=t) (b:=1) Z)) O (AO O (AE.nil ?_)))))
  refine AC.subF (sL [1,2,3,12,13,14,5] O) ?_
  rw [hT,Oa Z]
  exact AC.round1 (t+1) Z Z (sF O) (sl sr)
 ·replace hc0:=of_decide_eq_false hc0
  have htt:t=ts.length:=by omega
  refine AF.exit (AC.then_exit (AC.round1_exit (AC.in_exit (q1 (q4 ?_)))))
  refine AO O (AE.frzRow 0 O hbm (by rw [KW,Nat.mul_one];simp [FR]) O O λhn_US=>D1 call118 (λw hw=>Pp (If ts ps.length t) ps.length ⟨(some ⟨bm,0,none⟩),ps.length,hbm.row⟩ (FR _ _ _) Z (λj hj=>by rw [htt];exact Rc hj (hv.use j hj)) w (Dz (S:=S) hw 0 O (At.new hn_US))) O (AE.nil (AC.subF (sL [1,2,3,12,13,14,32] O) (AC.then_ ?_))))
  refine AF.cond_false O (AF.skip (q2 (AH (v:=(pP b1 0)) (AA O underlying30 O sizeOf28 O) O (BJ 1 (Value.slice x.a.p ps.length x.a.c) DE O (AE.callL (S:=S) (V:=V8) (LW:=VO (T:=63) (z:=10) (cs:=rowsL Ah ps) (n:=ps.length)) (args:=[(Value.slice x.a.p ps.length x.a.c)]) call69 (λw hw=>N1 ps x.a Z w (Vx (Dz hw 2 O lx))) O λcl1 hcl1=>?_)))))
  refine AK O (q3 (sL [1,2,3,12,13,14,6] O) (AO O ?_))
  have hpn:cl1.p≠none:=λe=>by have:=(cl1.ok.nil e).1;omega
  refine AE.callWX 0 (α:=List Pt) (K:=λys=>ys.Perm ps) (cs':=λys=>rowsL Ah ys) (v:=(Value.tuple #[])) (AP O) (Ao (args:=[(Value.slice cl1.p ps.length cl1.c),(Value.func (.func 120) #[] #[])]) O O call119) O (λw hw=>RH ps _ _ _ 63 cl1.ok hpn O Z hbp w (hw.holds (i:=0) O)) (λd hd=>by cases hd<;>exact (Ad O)) λys hys=>?_
  have hyl:=hys.length_eq
  refine AE.frzRow 0 O cl1.ok (by rw [Am BD,hyl]) O O λhn_cl1=>q6 (sL [1,2,3,12,13,14,6] O) (C2 [(0,true),(3,true),(4,true),(5,true),(1,false),(2,true),(6,true),(7,true)] sr (Bm O (Ay (v:=(pP b1 0)) O (AA O underlying30 O sizeOf28 O) (Bl 2 (Value.slice x.a.p ps.length x.a.c) DE O ?_))))
  refine Ay (v:=(vN ps.length)) O (AG O underlying28) (AS.imp O (D1 call122 (λw hw=>MV ys ps.length ⟨cl1.p,cl1.c,cl1.ok.row⟩ hyl Z (hys.nodup_iff.2 hv.dst) w (Dz (S:=S) hw 0 O (At.new hn_cl1))) O (AS.back sr (Ay (v:=(vN ps.length)) O (AG O underlying28) (Ay O (BQ (c:=true) O O (decide_eq_true O)) ?_)))))
  exact EW O (AS.nil (AC.subF (sL [1,2,3,12,13,14,6] O) (AC.then_ (AF.ret (AN O (Ab (v:=(Value.bool true)) O) (λw hw=>⟨rfl,hw.out⟩))))))
theorem Sj (s r:T3) (h:s.1=r.1/\s.2.1=r.2.1) (w:World)  :Calls prog 126 #[(aG (An s)),(aG (An r))] w (Al w (Value.bool true)):=by
 refine Ac (args:=[(aG (An s)),(aG (An r))]) func126 O O (Ad O) (AF.subF (sL [0,1] O) (q4 (Bi (cs:=An s) O λb1=>Bi (cs:=An r) O λb2=>AK O ?_)))
 refine q3 (sL [2,3,4] O) (AH (v:=(pP b1 0)) (AA O underlying43 O sizeOf3 O) O (BJ 1 (vN s.1) Bx O (AH (v:=(pP b2 0)) (AA O underlying43 O sizeOf3 O) O (BJ 0 (vN r.1) Bx O (AH (BQ (c:=true) O O (decide_eq_true Z)) O ?_)))))
 refine AO O (AE.step (v:=(pP b1 1)) (AB O) (AA O underlying43 O sizeOf3 O) O (Ad O) (AE.step (v:=(vN s.2.1)) (AB O) (AM (i:=1) (v:=(vN s.2.1)) O O Bx.a O) O (Ad O) (AE.step (v:=(pP b2 1)) (AB O) (AA O underlying43 O sizeOf3 O) O (Ad O) (AE.step (v:=(vN r.2.1)) (AB O) (AM (i:=0) (v:=(vN r.2.1)) O O Bx.a O) O (Ad O) (AE.step (v:=(Value.bool true)) (AB O) (BQ (c:=true) O O (decide_eq_true Z)) O (Ad O) ?_)))))
 exact AH (v:=(Value.bool true)) (Ai O O) O (AK O (AE.nil (AC.subF (sL [4] O) (AC.then_ (AF.ret (AN O (Ab (v:=(Value.bool true)) O) (λw hw=>⟨rfl,hw.out⟩)))))))
theorem PT (xs ys:List T3) (x:RX (rowsL An xs) xs.length) (y:RX (rowsL An ys) ys.length) (hn:xs.length=ys.length) (hl:xs.length<=1000000) (hk:∀j,j<xs.length->(xs.getD j (0,0,0)).1=(ys.getD j (0,0,0)).1/\(xs.getD j (0,0,0)).2.1=(ys.getD j (0,0,0)).2.1) (w:World) {S:Nat->Prop} (hx:Ro S w x) (hy:Ro S w y):Calls prog 45 #[(Value.slice x.p xs.length x.c),(Value.slice y.p ys.length y.c),(Value.func (.func 126) #[] #[])] w (Al w (Value.bool true)):=by
 have lx:=En (W:=w) hx
 have ly:=En (W:=w) hy
 refine BC (args:=[(Value.slice x.p xs.length x.c),(Value.slice y.p ys.length y.c),(Value.func (.func 126) #[] #[])]) (L:=[Ag x.p (rowsL An xs),Ag y.p (rowsL An ys)]) func45 O O (Ad O) (Eo hx (Eo hy BR)) (AF.subF (sL [0,1,2] O) (q4 (AK O (AE.nil (q1 ?_)))))
 refine q4 (AO O (AH (v:=(vN xs.length)) (AG O underlying24) O (AO O (AH (v:=(vN ys.length)) (AG O underlying24) O (AH (CS (c:=false) O O (decide_eq_false Z)) O ?_)))))
 refine AE.nil (AC.subF (sL [0,1,2,6,12] O) (AC.then_ (AF.cond_false O (AF.skip (q1 ?_)))))
 refine q4 (AO O (AH (v:=(vN xs.length)) (AG O underlying24) O (AO O (AE.nil (AC.subF (sL [0,1,2,6,14,15] O) ?_)))))
 refine AC.then_ (AF.block ?_)
 refine AF.lp1 (tg λ(j:Nat)=>j<=xs.length) (tg λ(j:Nat)=>[(0,(Value.slice x.p xs.length x.c)),(1,(Value.slice y.p ys.length y.c)),(2,(Value.func (.func 126) #[] #[])),(14,(vN xs.length)),(15,(vN j))]) (tg λ(j:Nat)=>[Ag x.p (rowsL An xs),Ag y.p (rowsL An ys)]) (tg λ(j:Nat)=>xs.length-j) 0 (Nat.zero_le _) (sF O) sr (λj hJ=>?_)
 have hj:=hJ
 refine q4 (AH (Af (c:=(decide (j<xs.length))) O O (C1 (a:=j) (b:=xs.length))) O (AE.nil (q1 ?_)))
 refine AF.cond O (λhc1=>?_) (λhc1=>?_)
 ·replace hc1:=of_decide_eq_true hc1
  refine AF.skip (q1 (AF.block (q4 (AO O (AK O ?_)))))
  refine q6 (sL [0,1,2,14,15,7] O) (C2 [(0,true),(1,true),(2,true),(3,true),(4,true),(5,true),(6,true),(7,true),(8,true),(9,false),(10,true)] sr (Bm O (Bm O (Bm O (Ay (v:=(pP (pB x.p) (pO x.p+j*3))) O (AR (j:=j) O O x.ok underlying24 sizeOf43 O Z) ?_)))))
  refine Ay (v:=(aG (An (xs.getD j ((0,0,0):Nat×Nat×Nat))))) O (AU (vs:=An (xs.getD j ((0,0,0):Nat×Nat×Nat))) (i:=0) O O (BO.ne x.ok Z) Tk (Ar BI _ _ _ Z) (BI _)) (Bm O (Bm O (Ay (v:=(pP (pB y.p) (pO y.p+j*3))) O (AR (j:=j) O O y.ok underlying24 sizeOf43 O Z) (Ay (v:=(aG (An (ys.getD j ((0,0,0):Nat×Nat×Nat))))) O (AU (vs:=An (ys.getD j ((0,0,0):Nat×Nat×Nat))) (i:=1) O O (BO.ne y.ok Z) Tk (Ar BI _ _ _ Z) (BI _)) (AS.imp O ?_)))))
  refine BS call126 (Sj _ _ (hk j Z)) O (AS.back sr (Ay O (BV (c:=false) O O) (AS.nil (AC.subF (sL [0,1,2,14,15,28] O) (AC.then_ ?_)))))
  refine AF.cond_false O (AF.skip (AC.in_normal (AC.then_ (AF.region (AH (AW (c:=((j+1:Nat):Int)) O O (AZ (a:=j) (b:=1) Z)) O ?_)))))
  exact AO O (AE.nil (AC.subF (sL [0,1,2,14,15] O) (AC.round1 (j+1) Z Z (sF O) sr)))
 ·replace hc1:=of_decide_eq_false hc1
  refine AF.exit (AC.then_exit (AC.round1_exit (AC.in_exit (q2 (AK O ?_)))))
  exact AE.nil (AC.then_ (AF.ret (AN O (Ab (v:=(Value.bool true)) O) (λw hw=>⟨rfl,hw.out⟩))))
theorem Ot {ps:List Pt} {ts ss:List T3} (x:MX ps ts ss) (hv:Lu ps ts ss) (w:World) {S:Nat->Prop} (hx:Ro S w x):Calls prog 76 #[(aG (CM x))] w (Al w (Value.bool true)):=by
 have hp:=hv.pl
 have htl:=hv.tl
 have hsl:=hv.sl
 have h0:=hv.t0
 have lx:=En (W:=w) hx
 refine BC (args:=[(aG (CM x))]) (L:=[Ag x.a.p (rowsL Ah ps),Ag x.b.p (rowsL An ts),Ag x.c.p (rowsL An ss)]) func76 O O (Ad O) (Eo hx BR) (AF.subF (sL [0] O) (q4 (Bi (cs:=CM x) O λb1=>AK O (q6 (sL [1,2] O) ?_))))
 refine C2 [(0,true),(1,true),(2,true),(3,true),(4,true),(5,true),(6,false),(7,false),(8,true)] sr (Ay (v:=(pP b1 2)) O (AA O underlying30 O sizeOf24 O) (Bl 0 (Value.slice x.c.p ss.length x.c.c) RZ O (Ay (v:=(pP b1 0)) O (AA O underlying30 O sizeOf28 O) (Bl 0 (Value.slice x.a.p ps.length x.a.c) DE O (Ay (v:=(pP b1 1)) O (AA O underlying30 O sizeOf23 O) ?_)))))
 refine Bl 0 (Value.slice x.b.p ts.length x.b.c) DV O (AS.imp O (AE.callL (S:=S) (V:=WB) (LW:=VO (T:=43) (z:=3) (cs:=rowsL An (JF ts)) (n:=(JF ts).length)) (args:=[(Value.slice x.a.p ps.length x.a.c),(Value.slice x.b.p ts.length x.b.c)]) call125 (λw hw=>Tq ts x.b x.a.p ps.length x.a.c hv.num Z Z w (Rq (Dz hw 1 O lx))) O λrm hrm=>AE.frzRow 0 O rm.ok (Am BI _) O O λhn_rm=>AS.back (sl sr) (AS.imp O ?_)))
 refine D1 call45 (λw hw=>PT ss (JF ts) x.c ⟨rm.p,(JF ts).length,rm.ok.clip⟩ hv.rl Z hv.rim w (Vg (Dz hw 2 O lx)) (Dz (S:=S) hw 0 O (At.new hn_rm))) O (AS.back (sl sr) (EW O (AS.nil (AC.subF (sL [2] O) (AC.then_ ?_)))))
 exact AF.ret (AN O (Ab (v:=(Value.bool true)) O) (λw hw=>⟨rfl,hw.out⟩))
theorem Pi {ps:List Pt} {ts ss:List T3} (x:MX ps ts ss) (hv:Lu ps ts ss) (w:World) {S:Nat->Prop} (hx:Ro S w x):Calls prog 29 #[(aG (CM x))] w (Al w (vI 0)):=by
 have hp:=hv.pl
 have htl:=hv.tl
 have hsl:=hv.sl
 have h0:=hv.t0
 have lx:=En (W:=w) hx
 refine BC (args:=[(aG (CM x))]) (L:=[Ag x.a.p (rowsL Ah ps),Ag x.b.p (rowsL An ts),Ag x.c.p (rowsL An ss)]) func29 O O (Ad O) (Eo hx BR) (AF.subF (sL [0] O) (q4 (Bi (cs:=CM x) O λb1=>AK O (q6 (sL [1,2] O) ?_))))
 refine AF.block (q4 (AH (v:=(pP b1 0)) (AA O underlying30 O sizeOf28 O) O (BJ 0 (Value.slice x.a.p ps.length x.a.c) DE O (AH (v:=(vN ps.length)) (AG O underlying28) O (AH (CW (c:=false) O O (decide_eq_false Z)) O ?_)))))
 refine AO O (AE.step (v:=(pP b1 1)) (AB O) (AA O underlying30 O sizeOf23 O) O (Ad O) (AE.step (v:=(Value.slice x.b.p ts.length x.b.c)) (AB O) (AM (i:=0) (v:=(Value.slice x.b.p ts.length x.b.c)) O O DV.a O) O (Ad O) (AE.step (v:=(vN ts.length)) (AB O) (AG O underlying23) O (Ad O) (AE.step (v:=(Value.bool false)) (AB O) (CW (c:=false) O O (decide_eq_false Z)) O (Ad O) (AH (v:=(Value.bool false)) (AY O O) O ?_)))))
 refine AO O (AE.step (v:=(pP b1 2)) (AB O) (AA O underlying30 O sizeOf24 O) O (Ad O) (AE.step (v:=(Value.slice x.c.p ss.length x.c.c)) (AB O) (AM (i:=0) (v:=(Value.slice x.c.p ss.length x.c.c)) O O RZ.a O) O (Ad O) (AE.step (v:=(vN ss.length)) (AB O) (AG O underlying24) O (Ad O) (AE.step (v:=(Value.bool false)) (AB O) (CW (c:=false) O O (decide_eq_false Z)) O (Ad O) (AH (v:=(Value.bool false)) (AY O O) O ?_)))))
 refine AK O (AE.nil (AC.subF (sL [1,2,3] O) (AC.then_ (AF.cond_false O (q4 ?_)))))
 refine BA 0 DG O (D1 call73 (λw hw=>R1 x hv w (Dz hw 1 O lx)) O (AH (BV (c:=false) O O) O (AK O (AE.nil (AC.subF (sL [1,2,20] O) ?_)))))
 refine AC.then_ (AF.cond_false O (q4 (BA 0 DG O (D1 call74 (λw hw=>S6 x hv w (Dz hw 1 O lx)) O (AH (BV (c:=false) O O) O ?_)))))
 refine AO O (AE.step (v:=(aG (CM x))) (AB O) (Ak (i:=0) (vs:=CM x) O O DG.a DG.s O O) O (Ad O) (AE.call (v:=(Value.bool true)) (AB O) (Ao (args:=[(aG (CM x))]) O O call75) (λw hw=>Rf x hv w (Dz hw 1 O lx)) O (Ad O) (AE.step (v:=(Value.bool false)) (AB O) (BV (c:=false) O O) O (Ad O) (AH (v:=(Value.bool false)) (AY O O) O (AO O ?_)))))
 refine AE.step (v:=(aG (CM x))) (AB O) (Ak (i:=0) (vs:=CM x) O O DG.a DG.s O O) O (Ad O) (AE.call (v:=(Value.bool true)) (AB O) (Ao (args:=[(aG (CM x))]) O O call76) (λw hw=>Ot x hv w (Dz hw 1 O lx)) O (Ad O) (AE.step (v:=(Value.bool false)) (AB O) (BV (c:=false) O O) O (Ad O) (AH (v:=(Value.bool false)) (AY O O) O (AK O (AE.nil ?_)))))
 refine AC.subF (sL [1,2,24] O) (AC.then_ (AF.cond_false O (AF.skip (AC.in_normal (q2 ?_)))))
 exact AK O (AE.nil (AC.subF (sL [1,2] O) (AC.then_ (AF.ret (AN O (Ab (v:=(vI 0)) O) (λw hw=>⟨rfl,hw.out⟩))))))
end
end Go.Proofs.YtfbomiejpbchdaaGreatDoor
