import Derived.Test.YtfbomiejpbchdaaGreatPart06
import Derived.Test.YtfbomiejpbchdaaGreatPart21
import Derived.Test.YtfbomiejpbchdaaGreatPart30
import Derived.Test.YtfbomiejpbchdaaGreatPart31
import Derived.Test.YtfbomiejpbchdaaGreatPart33
namespace Go.Proofs.YtfbomiejpbchdaaGreat
open Go Go.RowKit
set_option linter.unusedVariables false
set_option linter.unusedSimpArgs false
section
set_option maxRecDepth 100000
theorem Df (x0 x1 x2:Nat):Instr.fill (λi=>some (i*1,1)) (Ai ((0,0,0):Nat×Nat×Nat)).toArray [(0,vN x0),(1,vN x1),(2,vN x2)]=some (Ai (x0,x1,x2)).toArray:=by kernel_rfl
theorem J3 (x0 x1 x2 x3:Nat×Nat×Nat):Instr.fill (λi=>some (i*3,3)) ((Array.range (4*3)).map ((Value.agg (Ai ((0,0,0):Nat×Nat×Nat)).toArray).cells[·%(Value.agg (Ai ((0,0,0):Nat×Nat×Nat)).toArray).cells.size]!)) [(0,.agg (Ai x0).toArray),(1,.agg (Ai x1).toArray),(2,.agg (Ai x2).toArray),(3,.agg (Ai x3).toArray)]=some (Ai x0++Ai x1++Ai x2++Ai x3).toArray:=by kernel_rfl
set_option maxHeartbeats 1000000 in
theorem R1 {ps:List Pt} {ts ss:List T3} (x:MX ps ts ss) (hnb:Ba ps.length ts=true) (hz:∀i,DT (RP ps i)<=1000000) (hp:ps.length<=1000000) (htl0:ts.length<=1000000) (hsl:ss.length<=1000000) (hlim:ps.length+(A_ ts).length<=4096/\4*ts.length<=8192) (w:World) {S:Nat->Prop} (hx:Ro S w x):Calls Tryz.prog 12 #[(aG (B5 x))] w (Bc (U7 (Ds ps (A_ ts)) (CF ps.length (A_ ts) ts) (Nx ps.length ss (A_ ts) (CF ps.length (A_ ts) ts)) (GJ ts.length) 0) S w):=by
 obtain ⟨hl1,hl2⟩:=hlim
 have lx:=H0 (W:=w) hx
 refine BQ (args:=[(aG (B5 x))]) (L:=[AX x.a.p (rowsL An ps),AX x.b.p (rowsL Ai ts),AX x.c.p (rowsL Ai ss)]) Tryz.func12 rfl rfl (Af rfl) (Hy hx Bo) (AE.subF (sL [0] rfl) (q4 (CB (cs:=B5 x) rfl λb1=>al Ml rfl λb2=>AL rfl ?_)))
 refine AL rfl (q6 (sL [1,2,3,4] rfl) (q4 (BF 1 DW rfl (IC (args:=[(aG (B5 x))]) (v:=(Value.bool true)) Tryz.call46 (λw hw=>(by have h9:=JL x (by omega) w (Eu hw 2 rfl lx);rw [hnb] at h9;exact h9)) rfl (AH (CR (c:=false) rfl rfl) rfl ?_)))))
 refine AD.nil (AC.subF (sL [1,2,3,4,17] rfl) (AC.then_ (AE.cond_false rfl (AE.skip (q2 ?_)))))
 refine BF 1 DW rfl (cX (S:=S) (cs:=rowsL B4 (A_ ts)) (k:=(A_ ts).length) (args:=[(aG (B5 x))]) Tryz.call13 (λw hw=>HR x (by omega) (by omega) hnb w (Eu hw 2 rfl lx)) rfl rfl rfl λo lo=>AL rfl (q6 (sL [1,2,3,4,5] rfl) (q4 (AH (v:=(pP b1 0)) (AA rfl Tryz.underlying31 rfl Tryz.sizeOf27 rfl) rfl ?_))))
 refine BI 2 (Value.slice x.a.p ps.length x.a.c) Dr rfl (AH (v:=(vN ps.length)) (AF rfl Tryz.underlying27) rfl (AO rfl (AH (v:=(vN ((A_ ts).length))) (AF rfl Tryz.underlying37) rfl (AH (AT (c:=((ps.length+((A_ ts).length):Nat):Int)) rfl rfl (AR (a:=ps.length) (b:=(A_ ts).length) (by omega))) rfl (AH (Eb (c:=false) rfl rfl (decide_eq_false (by omega))) rfl ?_)))))
 refine AO rfl (AD.step (v:=(pP b1 1)) (AB rfl) (AA rfl Tryz.underlying31 rfl Tryz.sizeOf28 rfl) rfl (Af rfl) (AD.step (v:=(Value.slice x.b.p ts.length x.b.c)) (AB rfl) (AK (i:=2) (v:=(Value.slice x.b.p ts.length x.b.c)) rfl rfl Di.a rfl) rfl (Af rfl) (AD.step (v:=(vN ts.length)) (AB rfl) (AF rfl Tryz.underlying28) rfl (Af rfl) (AD.step (v:=(vN (4*ts.length))) (AB rfl) (BZ (c:=((4*ts.length:Nat):Int)) rfl rfl (Bq (a:=4) (b:=ts.length) (by omega))) rfl (Af rfl) (AD.step (v:=(Value.bool false)) (AB rfl) (Eb (c:=false) rfl rfl (decide_eq_false (by omega))) rfl (Af rfl) ?_)))))
 refine AH (v:=(Value.bool false)) (Aa rfl rfl) rfl (AD.nil (AC.subF (sL [1,2,3,4,5,34] rfl) (AC.then_ (AE.cond_false rfl (AE.skip ?_)))))
 refine q2 (AD.makeMap GN vN (AN rfl) rfl λb3=>?_)
 rw [show ([]:List (P2×Nat))=D5 ps.length (A_ ts) 0 from rfl]
 refine AL rfl (q6 (sL [1,2,3,4,5,6] rfl) (q4 (AO rfl (AH (v:=(vN ((A_ ts).length))) (AF rfl Tryz.underlying37) rfl (AO rfl ?_)))))
 refine AD.nil (AC.then_ (AE.block ?_))
 refine AE.lp1 (tg λ(i:Nat)=>i<=(A_ ts).length) (tg λ(i:Nat)=>[(1,(pP b1 0)),(2,(pP b2 0)),(3,(Value.slice none 0 0)),(4,(vI 0)),(5,(Value.slice o.p ((A_ ts).length) o.c)),(6,(Value.map (some b3))),(37,(Value.slice o.p ((A_ ts).length) o.c)),(38,(vN ((A_ ts).length))),(39,(vN i))]) (tg λ(i:Nat)=>[Br b3 GN vN (D5 ps.length (A_ ts) i),AX o.p (rowsL B4 (A_ ts)),Ac b2 31 ([(Value.slice none 0 0),(Value.slice none 0 0),(Value.slice none 0 0)]),Ac b1 31 (B5 x),AX x.a.p (rowsL An ps),AX x.b.p (rowsL Ai ts),AX x.c.p (rowsL Ai ss)]) (tg λ(i:Nat)=>(A_ ts).length-i) 0 (Nat.zero_le _) (sF rfl) sr (λi hJ=>?_)
 have hi:=hJ
 refine q4 (AH (Ag (c:=(decide (i<((A_ ts).length)))) rfl rfl (DA (a:=i) (b:=(A_ ts).length))) rfl (AD.nil (q1 ?_)))
 refine AE.cond rfl (λhc2=>?_) (λhc2=>?_)
 ·replace hc2:=of_decide_eq_true hc2
  obtain ⟨ed,hed⟩:∃q,q=(A_ ts).getD i (⟨0,0,0,0⟩:E4):=⟨_,rfl⟩
  obtain ⟨hea,heb⟩:=D7 hnb (by omega) ed (by rw [hed,List.getD,List.getElem?_eq_getElem hc2];exact List.getElem_mem hc2)
  refine AE.skip (q1 (AE.block (q4 (AO rfl (AH (v:=(pP (pB o.p) (pO o.p+i*4))) (AQ (j:=i) rfl rfl o.ok Tryz.underlying37 Tryz.sizeOf110 rfl (by omega)) rfl ?_)))))
  refine AH (v:=(aG (B4 ((A_ ts).getD i (⟨0,0,0,0⟩:E4))))) (AZ (vs:=B4 ((A_ ts).getD i (⟨0,0,0,0⟩:E4))) (i:=1) rfl rfl (BL.ne o.ok (by omega)) Jh (A7 DO _ _ _ (by omega)) (DO _)) rfl (AD.retell (k:=43) (u:=(aG (B4 ed))) rfl (by rw [hed]) (al Jw rfl λb4=>AL rfl (A6 rfl Tryz.sizeOf110 rfl (AD.nil ?_))))
  refine AC.subF (sL [1,2,3,4,5,6,37,38,39,8,7] rfl) (AC.then_ (C7 [(0,true),(1,true),(2,true),(3,true),(4,true),(6,true),(7,true),(8,true),(9,true),(10,true),(5,false),(11,false)] (sk (sl sr)) (Bl rfl (Au (v:=(pP b4 0)) rfl (AA rfl Tryz.underlying110 rfl Tryz.sizeOf3 rfl) (Bk 0 (vN ed.a) B_ rfl ?_)))))
  refine Au (v:=(pP b4 1)) rfl (AA rfl Tryz.underlying110 rfl Tryz.sizeOf3 rfl) (Bk 0 (vN ed.b) B_ rfl (Au (v:=(pP b1 0)) rfl (AA rfl Tryz.underlying31 rfl Tryz.sizeOf27 rfl) (Bk 3 (Value.slice x.a.p ps.length x.a.c) Dr rfl (Au (v:=(vN ps.length)) rfl (AF rfl Tryz.underlying27) (Bl rfl ?_)))))
  refine Au rfl (AT (c:=((ps.length+i:Nat):Int)) rfl rfl (AR (a:=ps.length) (b:=i) (by omega))) (AP.imp rfl (BY Tryz.call47 (Fo ed.a ed.b) rfl (AP.back (sk (sl sr)) (AP.imp rfl (AD.mapUpdate E3 1 (kvs:=D5 ps.length (A_ ts) i) (x:=(min ed.a ed.b,max ed.a ed.b)) (y:=ps.length+i) (AN rfl) rfl rfl rfl Tryz.underlying108 rfl (Hd (D7 hnb (by omega)) (by omega) _ (by omega)) (Bu (by omega) (by omega)) ?_)))))
  rw [show BC (D5 ps.length (A_ ts) i) (min ed.a ed.b,max ed.a ed.b) (ps.length+i)=D5 ps.length (A_ ts) (i+1) from by rw [hed];rfl]
  refine AP.back (sk (sl sr)) (AP.nil (AC.subF (sL [1,2,3,4,5,6,37,38,39,8] rfl) (AC.in_normal (AC.then_ (AE.region ?_)))))
  exact AH (AT (c:=((i+1:Nat):Int)) rfl rfl (AR (a:=i) (b:=1) (by omega))) rfl (AO rfl (AD.nil (AC.subF (sL [1,2,3,4,5,6,37,38,39,8] rfl) (AC.round1 (i+1) (by omega) (by omega) (sF rfl) (sl sr)))))
 ·replace hc2:=of_decide_eq_false hc2
  have hie:i=(A_ ts).length:=by omega
  rw [show D5 ps.length (A_ ts) i=D5 ps.length (A_ ts) (A_ ts).length by rw [hie]]
  refine AE.exit (AC.then_exit (AC.round1_exit (AC.in_exit (q2 (AH (v:=(pP b1 1)) (AA rfl Tryz.underlying31 rfl Tryz.sizeOf28 rfl) rfl ?_)))))
  refine BI 3 (Value.slice x.b.p ts.length x.b.c) Di rfl (AH (v:=(vN ts.length)) (AF rfl Tryz.underlying28) rfl (AH (BZ (c:=((4*ts.length:Nat):Int)) rfl rfl (Bq (a:=4) (b:=ts.length) (by omega))) rfl (AD.make0 Sk rfl rfl (by omega) rfl rfl λbm_AL hbm_AL=>AL rfl (q3 (sL [1,2,3,4,5,6,37,38,39,9] rfl) ?_))))
  refine AH (v:=(pP b1 1)) (AA rfl Tryz.underlying31 rfl Tryz.sizeOf28 rfl) rfl (BI 4 (Value.slice x.b.p ts.length x.b.c) Di rfl (AH (v:=(vN ts.length)) (AF rfl Tryz.underlying28) rfl (AH (BZ (c:=((4*ts.length:Nat):Int)) rfl rfl (Bq (a:=4) (b:=ts.length) (by omega))) rfl (AD.make0 NO rfl rfl (by omega) rfl rfl λbm_PR hbm_PR=>AL rfl ?_))))
  refine q6 (sL [1,2,3,4,5,6,37,38,39,9] rfl) (q4 (AH (v:=(pP b1 1)) (AA rfl Tryz.underlying31 rfl Tryz.sizeOf28 rfl) rfl (BI 5 (Value.slice x.b.p ts.length x.b.c) Di rfl (AH (v:=(vN ts.length)) (AF rfl Tryz.underlying28) rfl (AO rfl ?_)))))
  refine AD.nil (AC.subF (sL [1,2,3,4,5,6,37,38,39,9,67,68,69] rfl) (AC.then_ (AE.block ?_)))
  refine AE.lp5 (tg λ(t:Nat) (p1:Option Addr) (c1:Nat) (p2:Option Addr) (c2:Nat)=>t<=ts.length/\OwnOk p1 (4*t) c1/\OwnOk p2 (4*t) c2) (tg λ(t:Nat) (p1:Option Addr) (c1:Nat) (p2:Option Addr) (c2:Nat)=>[(1,(pP b1 0)),(2,(pP b2 0)),(4,(vI 0)),(5,(Value.slice o.p ((A_ ts).length) o.c)),(6,(Value.map (some b3))),(67,(Value.slice x.b.p ts.length x.b.c)),(68,(vN ts.length)),(69,(vN t)),(9,(Value.slice p1 (4*t) c1)),(3,(Value.slice p2 (4*t) c2))]) (tg λ(t:Nat) (p1:Option Addr) (c1:Nat) (p2:Option Addr) (c2:Nat)=>[rowW p2 3 1 (4*t) c2 (inL (GJ t)),rowW p1 76 3 (4*t) c1 (rowsL Ai (Kg ps.length (A_ ts) ts t)),Br b3 GN vN (D5 ps.length (A_ ts) (A_ ts).length),AX o.p (rowsL B4 (A_ ts)),Ac b2 31 ([(Value.slice none 0 0),(Value.slice none 0 0),(Value.slice none 0 0)]),Ac b1 31 (B5 x),AX x.a.p (rowsL An ps),AX x.b.p (rowsL Ai ts),AX x.c.p (rowsL Ai ss)]) (tg λ(t:Nat) (p1:Option Addr) (c1:Nat) (p2:Option Addr) (c2:Nat)=>ts.length-t) 0 (some ⟨bm_AL,0,none⟩) (4*ts.length) (some ⟨bm_PR,0,none⟩) (4*ts.length) (⟨Nat.zero_le _,hbm_AL,hbm_PR⟩) (sF rfl) sr (λt p1 c1 p2 c2 hJ=>?_)
  obtain ⟨ht,ho1,ho2⟩:=hJ
  refine q4 (AH (Ag (c:=(decide (t<ts.length))) rfl rfl (DA (a:=t) (b:=ts.length))) rfl (AD.nil (q1 ?_)))
  refine AE.cond rfl (λhc3=>?_) (λhc3=>?_)
  ·replace hc3:=of_decide_eq_true hc3
   obtain ⟨T,hT⟩:∃q,q=ts.getD t (0,0,0):=⟨_,rfl⟩
   obtain ⟨g1,g2,g3⟩:=DE (DN hnb hc3)
   rw [<-hT] at g1 g2 g3
   obtain ⟨X,hX⟩:∃q,q=Gy ps.length (A_ ts) T.1 T.2.1:=⟨_,rfl⟩
   obtain ⟨Y,hY⟩:∃q,q=Gy ps.length (A_ ts) T.2.1 T.2.2:=⟨_,rfl⟩
   obtain ⟨Z,hZ⟩:∃q,q=Gy ps.length (A_ ts) T.2.2 T.1:=⟨_,rfl⟩
   refine AE.skip (q1 (AE.block (q4 (AO rfl (AH (v:=(pP (pB x.b.p) (pO x.b.p+t*3))) (AQ (j:=t) rfl rfl x.b.ok Tryz.underlying28 Tryz.sizeOf76 rfl (by omega)) rfl ?_)))))
   refine AH (v:=(aG (Ai (ts.getD t ((0,0,0):Nat×Nat×Nat))))) (AZ (vs:=Ai (ts.getD t ((0,0,0):Nat×Nat×Nat))) (i:=7) rfl rfl (BL.ne x.b.ok (by omega)) Hs (A7 Aq _ _ _ (by omega)) (Aq _)) rfl (AD.retell (k:=73) (u:=(aG (Ai T))) rfl (by rw [hT]) (al QZ rfl λb4=>AL rfl (A6 rfl Tryz.sizeOf76 rfl (q6 (sL [1,2,4,5,6,67,68,69,9,3,11,10] rfl) ?_))))
   refine C7 [(0,true),(1,true),(2,true),(3,true),(4,true),(7,true),(8,true),(9,true),(10,true),(11,true),(14,true),(15,true),(16,true),(17,true),(18,true),(5,false),(6,true),(12,false),(13,true),(19,false),(20,true),(21,true),(22,true),(23,true)] sr (Bl rfl (Au (v:=(pP b4 0)) rfl (AG (j:=0) rfl rfl Tryz.underlying76 Tryz.sizeOf3 rfl (by decide) rfl) (Bk 0 (vN T.1) B_ rfl (Au (v:=(pP b4 1)) rfl (AG (j:=1) rfl rfl Tryz.underlying76 Tryz.sizeOf3 rfl (by decide) rfl) (Bk 0 (vN T.2.1) B_ rfl ?_)))))
   refine Bl rfl (Au (v:=(pP b4 1)) rfl (AG (j:=1) rfl rfl Tryz.underlying76 Tryz.sizeOf3 rfl (by decide) rfl) (Bk 0 (vN T.2.1) B_ rfl (Au (v:=(pP b4 2)) rfl (AG (j:=2) rfl rfl Tryz.underlying76 Tryz.sizeOf3 rfl (by decide) rfl) (Bk 0 (vN T.2.2) B_ rfl (Bl rfl ?_)))))
   refine Au (v:=(pP b4 2)) rfl (AG (j:=2) rfl rfl Tryz.underlying76 Tryz.sizeOf3 rfl (by decide) rfl) (Bk 0 (vN T.2.2) B_ rfl (Au (v:=(pP b4 0)) rfl (AG (j:=0) rfl rfl Tryz.underlying76 Tryz.sizeOf3 rfl (by decide) rfl) (Bk 0 (vN T.1) B_ rfl (AP.imp rfl (BY Tryz.call47 (Fo T.1 T.2.1) rfl ?_)))))
   refine AP.back sr (Au (v:=(vN X)) rfl ((by rw [hX];exact Bi E3 3 (eV:=vN) (kvs:=D5 ps.length (A_ ts) (A_ ts).length) (x:=(min T.1 T.2.1,max T.1 T.2.1)) (z0:=0) (co:=false) rfl rfl Tryz.underlying108 Tryz.zeroValue3 rfl (Hd (D7 hnb (by omega)) (by omega) _ (by omega)) (Bu (by omega) (by omega)))) (AP.imp rfl (BY Tryz.call47 (Fo T.2.1 T.2.2) rfl (AP.back sr (Au (v:=(vN Y)) rfl ((by rw [hY];exact Bi E3 3 (eV:=vN) (kvs:=D5 ps.length (A_ ts) (A_ ts).length) (x:=(min T.2.1 T.2.2,max T.2.1 T.2.2)) (z0:=0) (co:=false) rfl rfl Tryz.underlying108 Tryz.zeroValue3 rfl (Hd (D7 hnb (by omega)) (by omega) _ (by omega)) (Bu (by omega) (by omega)))) ?_)))))
   refine AP.imp rfl (BY Tryz.call47 (Fo T.2.2 T.1) rfl (AP.back sr (Au (v:=(vN Z)) rfl ((by rw [hZ];exact Bi E3 3 (eV:=vN) (kvs:=D5 ps.length (A_ ts) (A_ ts).length) (x:=(min T.2.2 T.1,max T.2.2 T.1)) (z0:=0) (co:=false) rfl rfl Tryz.underlying108 Tryz.zeroValue3 rfl (Hd (D7 hnb (by omega)) (by omega) _ (by omega)) (Bu (by omega) (by omega)))) (E5 rfl (E5 rfl ?_)))))
   refine E5 rfl (AP.nil (AC.subF (sL [1,2,4,5,6,67,68,69,9,3,11,10,12,13,14] rfl) (q2 (AO rfl (AH (v:=(pP b4 0)) (AG (j:=0) rfl rfl Tryz.underlying76 Tryz.sizeOf3 rfl (by decide) rfl) rfl ?_)))))
   refine BI 0 (vN T.1) B_ rfl (AO rfl (AO rfl (AH (v:=(aG (Ai (T.1,X,Z)))) (Ap (zs:=Ai ((0,0,0):Nat×Nat×Nat)) (vs:=Ai (T.1,X,Z)) (pv:=[(0,(vN T.1)),(1,(vN X)),(2,(vN Z))]) Tryz.zeroValue76 Tryz.underlying76 Tryz.sizeOf3 rfl (Df T.1 X Z)) rfl (AO rfl (AH (v:=(pP b4 1)) (AG (j:=1) rfl rfl Tryz.underlying76 Tryz.sizeOf3 rfl (by decide) rfl) rfl ?_)))))
   refine BI 0 (vN T.2.1) B_ rfl (AO rfl (AH (v:=(aG (Ai (X,T.2.1,Y)))) (Ap (zs:=Ai ((0,0,0):Nat×Nat×Nat)) (vs:=Ai (X,T.2.1,Y)) (pv:=[(0,(vN X)),(1,(vN T.2.1)),(2,(vN Y))]) Tryz.zeroValue76 Tryz.underlying76 Tryz.sizeOf3 rfl (Df X T.2.1 Y)) rfl (AO rfl (AO rfl (AH (v:=(pP b4 2)) (AG (j:=2) rfl rfl Tryz.underlying76 Tryz.sizeOf3 rfl (by decide) rfl) rfl ?_)))))
   refine BI 0 (vN T.2.2) B_ rfl (AH (v:=(aG (Ai (Z,Y,T.2.2)))) (Ap (zs:=Ai ((0,0,0):Nat×Nat×Nat)) (vs:=Ai (Z,Y,T.2.2)) (pv:=[(0,(vN Z)),(1,(vN Y)),(2,(vN T.2.2))]) Tryz.zeroValue76 Tryz.underlying76 Tryz.sizeOf3 rfl (Df Z Y T.2.2)) rfl (AO rfl (AO rfl (AO rfl (AH (v:=(aG (Ai (X,Y,Z)))) (Ap (zs:=Ai ((0,0,0):Nat×Nat×Nat)) (vs:=Ai (X,Y,Z)) (pv:=[(0,(vN X)),(1,(vN Y)),(2,(vN Z))]) Tryz.zeroValue76 Tryz.underlying76 Tryz.sizeOf3 rfl (Df X Y Z)) rfl ?_)))))
   refine AD.openV (V:=λb5=>(Value.slice (some ⟨b5,0,none⟩) 4 4)) (T:=76) (cs:=Ai (T.1,X,Z)++Ai (X,T.2.1,Y)++Ai (Z,Y,T.2.2)++Ai (X,Y,Z)) (AN rfl) (Ah (z:=.agg (Ai ((0,0,0):Nat×Nat×Nat)).toArray) (cs:=Ai (T.1,X,Z)++Ai (X,T.2.1,Y)++Ai (Z,Y,T.2.2)++Ai (X,Y,Z)) (pv:=[(0,(aG (Ai (T.1,X,Z)))),(1,(aG (Ai (X,T.2.1,Y)))),(2,(aG (Ai (Z,Y,T.2.2)))),(3,(aG (Ai (X,Y,Z))))]) Tryz.underlying28 Tryz.sizeOf76 Tryz.zeroValue76 (by decide) (by decide) rfl (J3 (T.1,X,Z) (X,T.2.1,Y) (Z,Y,T.2.2) (X,Y,Z))) rfl (Af rfl) λb5=>AD.appendAt 3 (j:=0) (cs2:=rowsL Ai ((Kg ps.length (A_ ts) ts t)++[(T.1,X,Z),(X,T.2.1,Y),(Z,Y,T.2.2),(X,Y,Z)])) Sk rfl ho1 (by rw [Aj Aq,SZ,Nat.min_eq_left (by omega)]) rfl rfl rfl rfl rfl (by decide) (HM (by omega)) (by omega) (by rw [BN];rfl) rfl λp_1 c_1 ho_1 hne_1=>AL rfl (AD.nil (AC.subF (sL [1,2,4,5,6,67,68,69,9,3,11,10] rfl) (AC.then_ ?_)))
   refine AE.region (AO rfl (AO rfl (AO rfl (AO rfl (AO rfl ?_)))))
   refine AD.openV (V:=λb6=>(Value.slice (some ⟨b6,0,none⟩) 4 4)) (T:=3) (cs:=[(vN t),(vN t),(vN t),(vN t)]) (AN rfl) (Ah (cs:=[(vN t),(vN t),(vN t),(vN t)]) (pv:=[(0,(vN t)),(1,(vN t)),(2,(vN t)),(3,(vN t))]) Tryz.underlying33 Tryz.sizeOf3 Tryz.zeroValue3 (by decide) (by decide) rfl (by kernel_rfl)) rfl (Af rfl) λb6=>AD.appendAt 3 (j:=0) (cs2:=inL ((GJ t)++[t,t,t,t])) NO rfl ho2 (by rw [CY,Nt,Nat.mul_one]) rfl rfl rfl rfl rfl (by decide) (HM (by omega)) (by omega) (by rw [DR];rfl) rfl λp_2 c_2 ho_2 hne_2=>AL rfl (AD.nil (AC.subF (sL [1,2,4,5,6,67,68,69,9,3,11] rfl) (AC.in_normal ?_)))
   refine AC.then_ (AE.region (AH (AT (c:=((t+1:Nat):Int)) rfl rfl (AR (a:=t) (b:=1) (by omega))) rfl (AO rfl (AD.nil (AC.subF (sL [1,2,4,5,6,67,68,69,9,3,11] rfl) ?_)))))
   rw [show 4*t+4=4*(t+1) by omega]
   rw [show (Kg ps.length (A_ ts) ts t)++[(T.1,X,Z),(X,T.2.1,Y),(Z,Y,T.2.2),(X,Y,Z)]=Kg ps.length (A_ ts) ts (t+1) from by rw [hX,hY,hZ,hT];exact (QB (by omega)).symm,show (GJ t)++[t,t,t,t]=GJ (t+1) from Ls.symm]
   exact AC.round5 (t+1) p_1 c_1 p_2 c_2 (⟨by omega,(by rw [show 4*(t+1)=4*t+4 by omega];exact ho_1),(by rw [show 4*(t+1)=4*t+4 by omega];exact ho_2)⟩) (by omega) (sF rfl) (sl (sl (sl sr)))
  ·replace hc3:=of_decide_eq_false hc3
   have htl:t=ts.length:=by omega
   rw [show Kg ps.length (A_ ts) ts t=CF ps.length (A_ ts) ts by rw [htl,R2],show GJ t=GJ ts.length by rw [htl]]
   refine AE.exit (AC.then_exit (AC.round5_exit (AC.in_exit (q2 (BF 5 DW rfl ?_)))))
   refine AO rfl (AO rfl (AD.frzRow 1 rfl ho1 (by rw [Aj Aq,Cf,htl]) rfl rfl λhn_AL=>AD.retell (k:=127) (u:=(Value.slice p1 ((CF ps.length (A_ ts) ts).length) c1)) rfl (by rw [Cf,<-htl]) (cM (S:=S) (args:=[(aG (B5 x)),(Value.slice o.p ((A_ ts).length) o.c),(Value.slice p1 ((CF ps.length (A_ ts) ts).length) c1)]) Tryz.call48 (λw hw=>Q0 x (A_ ts) o (CF ps.length (A_ ts) ts) ⟨p1,c1,by rw [Cf,<-htl];exact ho1.row⟩ (D7 hnb (by omega)) (GU hnb (by omega)) hz (by omega) (by omega) (by rw [Cf];omega) (by omega) w (Eu hw 6 rfl lx) (Eu hw 3 rfl lo) (Eu hw 1 rfl (At.new hn_AL))) rfl λf hf=>AO rfl ?_)))
   refine Gn 7 (off:=0) (vs:=B5 f) (cs':=B5 f) (AN rfl) rfl Tryz.sizeOf31 rfl (AL rfl (AL rfl (AD.nil (AC.subF (sL [1,2,4,5,6,67,68,69,9,3] rfl) (AC.then_ ?_)))))
   exact AE.ret (FQ rfl (Ay (i:=7) (cs:=B5 f) rfl rfl Tryz.isAgg31 Tryz.sizeOf31 rfl) (Am (v:=(Value.slice p2 (4*t) c2)) rfl) (Am (v:=(vI 0)) rfl) (λw hw=>(XX hw (Eu hw 0 rfl hf) 3 rfl ho2 (by rw [Nt,htl]) rfl)))
end
section
theorem Si (a b:T3):(((a.1:Int) == (b.1:Int))&&(((a.2.1:Int) == (b.2.1:Int))&&(((a.2.2:Int) == (b.2.2:Int))&&true)))=decide (a=b):=by
  obtain ⟨a1,a2,a3⟩:=a
  obtain ⟨b1,b2,b3⟩:=b
  rw [Bool.eq_iff_iff]
  simp
  constructor<;>(rintro ⟨h1,h2,h3⟩;refine ⟨?_,?_,?_⟩<;>omega)
theorem W5 (D:Nat) (a b:T3):Et Tryz.prog (D+2) 76 (.agg (Ai a).toArray) (.agg (Ai b).toArray) (decide (a=b)):=by
  rw [<-Si]
  exact Et.array Tryz.underlying76 No Lu (OE.one Tryz.isAgg3 rfl rfl (Et.int Tryz.underlying3) (OE.one Tryz.isAgg3 rfl rfl (Et.int Tryz.underlying3) (OE.one Tryz.isAgg3 rfl rfl (Et.int Tryz.underlying3) OE.nil)))
theorem S5 (D:Nat) (a b:T3):Et Tryz.prog (D+2) 44 (.agg (Ai a).toArray) (.agg (Ai b).toArray) (decide (a=b)):=by
  rw [<-Si]
  exact Et.struct Tryz.underlying44 Tryz.stoodInHeld44 (IK.one (by decide) Tryz.isAgg3 rfl rfl (Et.int Tryz.underlying3) (IK.one (by decide) Tryz.isAgg3 rfl rfl (Et.int Tryz.underlying3) (IK.one (by decide) Tryz.isAgg3 rfl rfl (Et.int Tryz.underlying3) IK.nil)))
theorem NG (D:Nat) {a b:T3} (h:a=b):Et Tryz.prog (D+2) 76 (.agg (Ai a).toArray) (.agg (Ai b).toArray) true:=by
  have:=W5 D a b;rwa [decide_eq_true h] at this
theorem G3 (D:Nat) {a b:T3} (h:a=b):Et Tryz.prog (D+2) 44 (.agg (Ai a).toArray) (.agg (Ai b).toArray) true:=by
  have:=S5 D a b;rwa [decide_eq_true h] at this
theorem C8 (b n:Nat):BL (some ⟨b,0,none⟩) n n:=⟨λe=>(by cases e),λa e=>(by injection e with e;subst e;rfl),Nat.le_refl _⟩
theorem Wz {ps:List Pt} {k:Nat} (h:(ps.all λp=>decide (DT p<=k))=true) (h0:DT (⟨0,0⟩:Pt)<=k) (i:Nat):DT (RP ps i)<=k:=by
  unfold RP
  rcases Nat.lt_or_ge i ps.length with hi|hi
  · rw [List.getD,List.getElem?_eq_getElem hi]
    exact of_decide_eq_true (List.all_eq_true.1 h _ (List.getElem_mem hi))
  · rw [List.getD,List.getElem?_eq_none hi];exact h0
theorem At.mx {w0:BJ} {S:Nat->Prop} {ps:List Pt} {ts ss:List T3} {x:MX ps ts ss} (h1:At w0 S x.a) (h2:At w0 S x.b) (h3:At w0 S x.c):At w0 S x:=λy hy b e=>by
  have hy:y∈[x.a.row,x.b.row,x.c.row]:=hy
  simp only [List.mem_cons,List.not_mem_nil,or_false] at hy
  rcases hy with rfl|rfl|rfl
  · exact h1 _ List.mem_cons_self b e
  · exact h2 _ List.mem_cons_self b e
  · exact h3 _ List.mem_cons_self b e
section
variable {P:Program} {ops:Array Oper} {rest:List Oper} {Q:Exit->Act->World->Prop} {n:Nat} {F:List (Nat×Value)} {w0:BJ} {S:Nat->Prop} {L:List As} {ps:List Pt} {ts ss:List T3}
theorem Oy {w:World} {i b:Nat} {T:TypeId} {cs:List Value} (hw:BK w0 w L) (hi:L[i]?=some (Ac b T cs)) (hex:w0.ex=none):w0.w.heap.size<=b:=by
  rcases (hw.2.1 _ (List.mem_of_getElem? hi) b rfl).1 with h1|h1|h1
  · cases h1
  · exact h1
  · rw [hex] at h1;cases h1
theorem AD.litM {b1 b2 b3 U1 U2 U3:Nat} {cs1 cs2 cs3:List Value} (LL:MX ps ts ss->List As) (i j k:Nat) (hn:i≠j/\i≠k/\j≠k) (h1:L[i]?=some (Ac b1 U1 cs1)) (h2:L[j]?=some (Ac b2 U2 cs2)) (h3:L[k]?=some (Ac b3 U3 cs3)) (hex:w0.ex=none)
    (e:(cs1,cs2,cs3)=(rowsL An ps,rowsL Ai ts,rowsL Ai ss))
    (hL:((L.set i (AX (some ⟨b1,0,none⟩) cs1)).set j (AX (some ⟨b2,0,none⟩) cs2)).set k (AX (some ⟨b3,0,none⟩) cs3)=LL ⟨⟨some ⟨b1,0,none⟩,ps.length,C8 _ _⟩,⟨some ⟨b2,0,none⟩,ts.length,C8 _ _⟩,⟨some ⟨b3,0,none⟩,ss.length,C8 _ _⟩⟩)
    (next:∀mm:MX ps ts ss,At w0 S mm->AD P ops rest Q n F w0 (LL mm)):AD P ops rest Q n F w0 L:=λa w ha hw=>by
  have n1:=Oy hw h1 hex
  have n2:=Oy hw h2 hex
  have n3:=Oy hw h3 hex
  have w1:=hw.freeze (x:=Ac b1 U1 cs1) (y:=AX (some ⟨b1,0,none⟩) cs1) h1 rfl (λo hp=>FN hp) (λe=>by cases e)
  have w2:=w1.freeze (i:=j) (x:=Ac b2 U2 cs2) (y:=AX (some ⟨b2,0,none⟩) cs2) (by rw [List.getElem?_set_ne hn.1];exact h2) rfl (λo hp=>FN hp) (λe=>by cases e)
  have w3:=w2.freeze (i:=k) (x:=Ac b3 U3 cs3) (y:=AX (some ⟨b3,0,none⟩) cs3) (by rw [List.getElem?_set_ne hn.2.2,List.getElem?_set_ne hn.2.1];exact h3) rfl (λo hp=>FN hp) (λe=>by cases e)
  rw [hL] at w3
  refine next _ (λy hy b eb=>?_) a w ha w3
  have hy:y∈[AX (some ⟨b1,0,none⟩) (rowsL An ps),AX (some ⟨b2,0,none⟩) (rowsL Ai ts),AX (some ⟨b3,0,none⟩) (rowsL Ai ss)]:=hy
  simp only [List.mem_cons,List.not_mem_nil,or_false] at hy
  rcases hy with rfl|rfl|rfl<;>(injection eb with eb;subst eb;exact .inl (by assumption))
end
theorem Yc {α:Type} [Dx α] {w0:BJ} {w:World} {S:Nat->Prop} {L:List As} (hw:BK w0 w L) (is:List Nat) {a:α} (hi:(is.map λi=>L[i]?)=(Dx.rows a).map some) (ha:At w0 S a):Ro (SL w0 S L) w a:=λy hy=>by
  have h1:some y∈(is.map λi=>L[i]?):=by rw [hi];exact List.mem_map.2 ⟨y,hy,rfl⟩
  obtain ⟨i,_,h2⟩:=List.mem_map.1 h1
  have hm:=List.mem_of_getElem? h2
  exact ⟨λb e=>(hw.2.1 y hm b e).2,λb e=>⟨⟨y,hm,Dx.ro a y hy,e⟩,ha y hy b e⟩⟩
end
end Go.Proofs.YtfbomiejpbchdaaGreat
