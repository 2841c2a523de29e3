import Derived.Test.YtfbomiejpbchdaaGreatPart06
import Derived.Test.YtfbomiejpbchdaaGreatPart24
import Derived.Test.YtfbomiejpbchdaaGreatPart33
import Derived.Test.YtfbomiejpbchdaaGreatPart34
import Derived.Test.YtfbomiejpbchdaaGreatPart36
namespace Go.Proofs.YtfbomiejpbchdaaGreat
open Go Go.RowKit
set_option linter.unusedVariables false
set_option linter.unusedSimpArgs false
section
set_option maxRecDepth 100000
theorem Dw (x0 x1 x2:Nat):Instr.fill (λi=>some (i*1,1)) (Al ((0,0,0):Nat×Nat×Nat)).toArray [(0,vN x0),(1,vN x1),(2,vN x2)]=some (Al (x0,x1,x2)).toArray:=by kernel_rfl
theorem K9 (x0 x1 x2 x3:Nat×Nat×Nat):Instr.fill (λi=>some (i*3,3)) ((Array.range (4*3)).map ((Value.agg (Al ((0,0,0):Nat×Nat×Nat)).toArray).cells[·%(Value.agg (Al ((0,0,0):Nat×Nat×Nat)).toArray).cells.size]!)) [(0,.agg (Al x0).toArray),(1,.agg (Al x1).toArray),(2,.agg (Al x2).toArray),(3,.agg (Al x3).toArray)]=some (Al x0++Al x1++Al x2++Al x3).toArray:=by kernel_rfl
set_option maxHeartbeats 1000000 in
theorem Uk {ps:List Pt} {ts ss:List T3} (x:MX ps ts ss) (hnb:B5 ps.length ts=true) (hz:∀i,Bo (cor ps i)<=1000000) (hp:ps.length<=1000000) (htl0:ts.length<=1000000) (hsl:ss.length<=1000000) (hlim:ps.length+(BT ts).length<=4096/\4*ts.length<=8192) (w:World) {S:Nat->Prop} (hx:Ro S w x):Calls Tryz.prog 12 #[(aG (CG x))] w (Bp (W4 (FF ps (BT ts)) (EP ps.length (BT ts) ts) (Lb ps.length ss (BT ts) (EP ps.length (BT ts) ts)) (Dj ts.length) 0) S w):=by
 obtain ⟨hl1,hl2⟩:=hlim
 have lx:=FS (W:=w) hx
 refine BH (args:=[(aG (CG x))]) (L:=[Ag x.a.p (rowsL Ae ps),Ag x.b.p (rowsL Al ts),Ag x.c.p (rowsL Al ss)]) Tryz.func12 rfl rfl (Ad rfl) (FP hx BY) (AG.subF (sL [0] rfl) (q4 (Bl (cs:=CG x) rfl λb1=>al NS rfl λb2=>AK rfl ?_)))
 refine AK rfl (q6 (sL [1,2,3,4] rfl) (q4 (A7 1 DU rfl (Ey (args:=[(aG (CG x))]) (v:=(Value.bool true)) Tryz.call46 (λw hw=>(by have h9:=M8 x (by omega) w (Dn hw 2 rfl lx);rw [hnb] at h9;exact h9)) rfl (AJ (Bi (c:=false) rfl rfl) rfl ?_)))))
 refine AF.nil (AC.subF (sL [1,2,3,4,17] rfl) (AC.then_ (AG.cond_false rfl (AG.skip (q2 ?_)))))
 refine A7 1 DU rfl (cX (S:=S) (cs:=rowsL CL (BT ts)) (k:=(BT ts).length) (args:=[(aG (CG x))]) Tryz.call13 (λw hw=>Tc x (by omega) (by omega) hnb w (Dn hw 2 rfl lx)) rfl rfl rfl λo lo=>AK rfl (q6 (sL [1,2,3,4,5] rfl) (q4 (AJ (v:=(pP b1 0)) (AA rfl Tryz.underlying31 rfl Tryz.sizeOf27 rfl) rfl ?_))))
 refine BL 2 (Value.slice x.a.p ps.length x.a.c) C2 rfl (AJ (v:=(vN ps.length)) (AI rfl Tryz.underlying27) rfl (AO rfl (AJ (v:=(vN ((BT ts).length))) (AI rfl Tryz.underlying37) rfl (AJ (AX (c:=((ps.length+((BT ts).length):Nat):Int)) rfl rfl (Ab (a:=ps.length) (b:=(BT ts).length) (by omega))) rfl (AJ (CK (c:=false) rfl rfl (decide_eq_false (by omega))) rfl ?_)))))
 refine AO rfl (AF.step (v:=(pP b1 1)) (AB rfl) (AA rfl Tryz.underlying31 rfl Tryz.sizeOf28 rfl) rfl (Ad rfl) (AF.step (v:=(Value.slice x.b.p ts.length x.b.c)) (AB rfl) (AM (i:=2) (v:=(Value.slice x.b.p ts.length x.b.c)) rfl rfl Dc.a rfl) rfl (Ad rfl) (AF.step (v:=(vN ts.length)) (AB rfl) (AI rfl Tryz.underlying28) rfl (Ad rfl) (AF.step (v:=(vN (4*ts.length))) (AB rfl) (Bq (c:=((4*ts.length:Nat):Int)) rfl rfl (Ca (a:=4) (b:=ts.length) (by omega))) rfl (Ad rfl) (AF.step (v:=(Value.bool false)) (AB rfl) (CK (c:=false) rfl rfl (decide_eq_false (by omega))) rfl (Ad rfl) ?_)))))
 refine AJ (v:=(Value.bool false)) (AV rfl rfl) rfl (AF.nil (AC.subF (sL [1,2,3,4,5,34] rfl) (AC.then_ (AG.cond_false rfl (AG.skip ?_)))))
 refine q2 (AF.makeMap Gv vN (AN rfl) rfl λb3=>?_)
 rw [show ([]:List (P2×Nat))=Ed ps.length (BT ts) 0 from rfl]
 refine AK rfl (q6 (sL [1,2,3,4,5,6] rfl) (q4 (AO rfl (AJ (v:=(vN ((BT ts).length))) (AI rfl Tryz.underlying37) rfl (AO rfl ?_)))))
 refine AF.nil (AC.then_ (AG.block ?_))
 refine AG.lp1 (tg λ(i:Nat)=>i<=(BT ts).length) (tg λ(i:Nat)=>[(1,(pP b1 0)),(2,(pP b2 0)),(3,(Value.slice none 0 0)),(4,(vI 0)),(5,(Value.slice o.p ((BT ts).length) o.c)),(6,(Value.map (some b3))),(37,(Value.slice o.p ((BT ts).length) o.c)),(38,(vN ((BT ts).length))),(39,(vN i))]) (tg λ(i:Nat)=>[C0 b3 Gv vN (Ed ps.length (BT ts) i),Ag o.p (rowsL CL (BT ts)),Ah b2 31 ([(Value.slice none 0 0),(Value.slice none 0 0),(Value.slice none 0 0)]),Ah b1 31 (CG x),Ag x.a.p (rowsL Ae ps),Ag x.b.p (rowsL Al ts),Ag x.c.p (rowsL Al ss)]) (tg λ(i:Nat)=>(BT ts).length-i) 0 (Nat.zero_le _) (sF rfl) sr (λi hJ=>?_)
 have hi:=hJ
 refine q4 (AJ (Af (c:=(decide (i<((BT ts).length)))) rfl rfl (DL (a:=i) (b:=(BT ts).length))) rfl (AF.nil (q1 ?_)))
 refine AG.cond rfl (λhc2=>?_) (λhc2=>?_)
 ·replace hc2:=of_decide_eq_true hc2
  obtain ⟨ed,hed⟩:∃q,q=(BT ts).getD i (⟨0,0,0,0⟩:E4):=⟨_,rfl⟩
  obtain ⟨hea,heb⟩:=Eb hnb (by omega) ed (by rw [hed,List.getD,List.getElem?_eq_getElem hc2];exact List.getElem_mem hc2)
  refine AG.skip (q1 (AG.block (q4 (AO rfl (AJ (v:=(pP (pB o.p) (pO o.p+i*4))) (AW (j:=i) rfl rfl o.ok Tryz.underlying37 Tryz.sizeOf110 rfl (by omega)) rfl ?_)))))
  refine AJ (v:=(aG (CL ((BT ts).getD i (⟨0,0,0,0⟩:E4))))) (AU (vs:=CL ((BT ts).getD i (⟨0,0,0,0⟩:E4))) (i:=1) rfl rfl (BQ.ne o.ok (by omega)) Ko (Au Dg _ _ _ (by omega)) (Dg _)) rfl (AF.retell (k:=43) (u:=(aG (CL ed))) rfl (by rw [hed]) (al KF rfl λb4=>AK rfl (Ap rfl Tryz.sizeOf110 rfl (AF.nil ?_))))
  refine AC.subF (sL [1,2,3,4,5,6,37,38,39,8,7] rfl) (AC.then_ (Cq [(0,true),(1,true),(2,true),(3,true),(4,true),(6,true),(7,true),(8,true),(9,true),(10,true),(5,false),(11,false)] (sk (sl sr)) (Bc rfl (Av (v:=(pP b4 0)) rfl (AA rfl Tryz.underlying110 rfl Tryz.sizeOf3 rfl) (Bg 0 (vN ed.a) B4 rfl ?_)))))
  refine Av (v:=(pP b4 1)) rfl (AA rfl Tryz.underlying110 rfl Tryz.sizeOf3 rfl) (Bg 0 (vN ed.b) B4 rfl (Av (v:=(pP b1 0)) rfl (AA rfl Tryz.underlying31 rfl Tryz.sizeOf27 rfl) (Bg 3 (Value.slice x.a.p ps.length x.a.c) C2 rfl (Av (v:=(vN ps.length)) rfl (AI rfl Tryz.underlying27) (Bc rfl ?_)))))
  refine Av rfl (AX (c:=((ps.length+i:Nat):Int)) rfl rfl (Ab (a:=ps.length) (b:=i) (by omega))) (AS.imp rfl (BU Tryz.call47 (GQ ed.a ed.b) rfl (AS.back (sk (sl sr)) (AS.imp rfl (AF.mapUpdate FZ 1 (kvs:=Ed ps.length (BT ts) i) (x:=(min ed.a ed.b,max ed.a ed.b)) (y:=ps.length+i) (AN rfl) rfl rfl rfl Tryz.underlying108 rfl (IN (Eb hnb (by omega)) (by omega) _ (by omega)) (B0 (by omega) (by omega)) ?_)))))
  rw [show BZ (Ed ps.length (BT ts) i) (min ed.a ed.b,max ed.a ed.b) (ps.length+i)=Ed ps.length (BT ts) (i+1) from by rw [hed];rfl]
  refine AS.back (sk (sl sr)) (AS.nil (AC.subF (sL [1,2,3,4,5,6,37,38,39,8] rfl) (AC.in_normal (AC.then_ (AG.region ?_)))))
  exact AJ (AX (c:=((i+1:Nat):Int)) rfl rfl (Ab (a:=i) (b:=1) (by omega))) rfl (AO rfl (AF.nil (AC.subF (sL [1,2,3,4,5,6,37,38,39,8] rfl) (AC.round1 (i+1) (by omega) (by omega) (sF rfl) (sl sr)))))
 ·replace hc2:=of_decide_eq_false hc2
  have hie:i=(BT ts).length:=by omega
  rw [show Ed ps.length (BT ts) i=Ed ps.length (BT ts) (BT ts).length by rw [hie]]
  refine AG.exit (AC.then_exit (AC.round1_exit (AC.in_exit (q2 (AJ (v:=(pP b1 1)) (AA rfl Tryz.underlying31 rfl Tryz.sizeOf28 rfl) rfl ?_)))))
  refine BL 3 (Value.slice x.b.p ts.length x.b.c) Dc rfl (AJ (v:=(vN ts.length)) (AI rfl Tryz.underlying28) rfl (AJ (Bq (c:=((4*ts.length:Nat):Int)) rfl rfl (Ca (a:=4) (b:=ts.length) (by omega))) rfl (AF.make0 Sh rfl rfl (by omega) rfl rfl λbm_AL hbm_AL=>AK rfl (q3 (sL [1,2,3,4,5,6,37,38,39,9] rfl) ?_))))
  refine AJ (v:=(pP b1 1)) (AA rfl Tryz.underlying31 rfl Tryz.sizeOf28 rfl) rfl (BL 4 (Value.slice x.b.p ts.length x.b.c) Dc rfl (AJ (v:=(vN ts.length)) (AI rfl Tryz.underlying28) rfl (AJ (Bq (c:=((4*ts.length:Nat):Int)) rfl rfl (Ca (a:=4) (b:=ts.length) (by omega))) rfl (AF.make0 Yf rfl rfl (by omega) rfl rfl λbm_PR hbm_PR=>AK rfl ?_))))
  refine q6 (sL [1,2,3,4,5,6,37,38,39,9] rfl) (q4 (AJ (v:=(pP b1 1)) (AA rfl Tryz.underlying31 rfl Tryz.sizeOf28 rfl) rfl (BL 5 (Value.slice x.b.p ts.length x.b.c) Dc rfl (AJ (v:=(vN ts.length)) (AI rfl Tryz.underlying28) rfl (AO rfl ?_)))))
  refine AF.nil (AC.subF (sL [1,2,3,4,5,6,37,38,39,9,67,68,69] rfl) (AC.then_ (AG.block ?_)))
  refine AG.lp5 (tg λ(t:Nat) (p1:Option Addr) (c1:Nat) (p2:Option Addr) (c2:Nat)=>t<=ts.length/\OwnOk p1 (4*t) c1/\OwnOk p2 (4*t) c2) (tg λ(t:Nat) (p1:Option Addr) (c1:Nat) (p2:Option Addr) (c2:Nat)=>[(1,(pP b1 0)),(2,(pP b2 0)),(4,(vI 0)),(5,(Value.slice o.p ((BT ts).length) o.c)),(6,(Value.map (some b3))),(67,(Value.slice x.b.p ts.length x.b.c)),(68,(vN ts.length)),(69,(vN t)),(9,(Value.slice p1 (4*t) c1)),(3,(Value.slice p2 (4*t) c2))]) (tg λ(t:Nat) (p1:Option Addr) (c1:Nat) (p2:Option Addr) (c2:Nat)=>[rowW p2 3 1 (4*t) c2 (inL (Dj t)),rowW p1 76 3 (4*t) c1 (rowsL Al (KV ps.length (BT ts) ts t)),C0 b3 Gv vN (Ed ps.length (BT ts) (BT ts).length),Ag o.p (rowsL CL (BT ts)),Ah b2 31 ([(Value.slice none 0 0),(Value.slice none 0 0),(Value.slice none 0 0)]),Ah b1 31 (CG x),Ag x.a.p (rowsL Ae ps),Ag x.b.p (rowsL Al ts),Ag x.c.p (rowsL Al ss)]) (tg λ(t:Nat) (p1:Option Addr) (c1:Nat) (p2:Option Addr) (c2:Nat)=>ts.length-t) 0 (some ⟨bm_AL,0,none⟩) (4*ts.length) (some ⟨bm_PR,0,none⟩) (4*ts.length) (⟨Nat.zero_le _,hbm_AL,hbm_PR⟩) (sF rfl) sr (λt p1 c1 p2 c2 hJ=>?_)
  obtain ⟨ht,ho1,ho2⟩:=hJ
  refine q4 (AJ (Af (c:=(decide (t<ts.length))) rfl rfl (DL (a:=t) (b:=ts.length))) rfl (AF.nil (q1 ?_)))
  refine AG.cond rfl (λhc3=>?_) (λhc3=>?_)
  ·replace hc3:=of_decide_eq_true hc3
   obtain ⟨T,hT⟩:∃q,q=ts.getD t (0,0,0):=⟨_,rfl⟩
   obtain ⟨g1,g2,g3⟩:=DH (Cv hnb hc3)
   rw [<-hT] at g1 g2 g3
   obtain ⟨X,hX⟩:∃q,q=Hr ps.length (BT ts) T.1 T.2.1:=⟨_,rfl⟩
   obtain ⟨Y,hY⟩:∃q,q=Hr ps.length (BT ts) T.2.1 T.2.2:=⟨_,rfl⟩
   obtain ⟨Z,hZ⟩:∃q,q=Hr ps.length (BT ts) T.2.2 T.1:=⟨_,rfl⟩
   refine AG.skip (q1 (AG.block (q4 (AO rfl (AJ (v:=(pP (pB x.b.p) (pO x.b.p+t*3))) (AW (j:=t) rfl rfl x.b.ok Tryz.underlying28 Tryz.sizeOf76 rfl (by omega)) rfl ?_)))))
   refine AJ (v:=(aG (Al (ts.getD t ((0,0,0):Nat×Nat×Nat))))) (AU (vs:=Al (ts.getD t ((0,0,0):Nat×Nat×Nat))) (i:=7) rfl rfl (BQ.ne x.b.ok (by omega)) Ip (Au A6 _ _ _ (by omega)) (A6 _)) rfl (AF.retell (k:=73) (u:=(aG (Al T))) rfl (by rw [hT]) (al ON rfl λb4=>AK rfl (Ap rfl Tryz.sizeOf76 rfl (q6 (sL [1,2,4,5,6,67,68,69,9,3,11,10] rfl) ?_))))
   refine Cq [(0,true),(1,true),(2,true),(3,true),(4,true),(7,true),(8,true),(9,true),(10,true),(11,true),(14,true),(15,true),(16,true),(17,true),(18,true),(5,false),(6,true),(12,false),(13,true),(19,false),(20,true),(21,true),(22,true),(23,true)] sr (Bc rfl (Av (v:=(pP b4 0)) rfl (AE (j:=0) rfl rfl Tryz.underlying76 Tryz.sizeOf3 rfl (by decide) rfl) (Bg 0 (vN T.1) B4 rfl (Av (v:=(pP b4 1)) rfl (AE (j:=1) rfl rfl Tryz.underlying76 Tryz.sizeOf3 rfl (by decide) rfl) (Bg 0 (vN T.2.1) B4 rfl ?_)))))
   refine Bc rfl (Av (v:=(pP b4 1)) rfl (AE (j:=1) rfl rfl Tryz.underlying76 Tryz.sizeOf3 rfl (by decide) rfl) (Bg 0 (vN T.2.1) B4 rfl (Av (v:=(pP b4 2)) rfl (AE (j:=2) rfl rfl Tryz.underlying76 Tryz.sizeOf3 rfl (by decide) rfl) (Bg 0 (vN T.2.2) B4 rfl (Bc rfl ?_)))))
   refine Av (v:=(pP b4 2)) rfl (AE (j:=2) rfl rfl Tryz.underlying76 Tryz.sizeOf3 rfl (by decide) rfl) (Bg 0 (vN T.2.2) B4 rfl (Av (v:=(pP b4 0)) rfl (AE (j:=0) rfl rfl Tryz.underlying76 Tryz.sizeOf3 rfl (by decide) rfl) (Bg 0 (vN T.1) B4 rfl (AS.imp rfl (BU Tryz.call47 (GQ T.1 T.2.1) rfl ?_)))))
   refine AS.back sr (Av (v:=(vN X)) rfl ((by rw [hX];exact DO FZ 3 (eV:=vN) (kvs:=Ed ps.length (BT ts) (BT ts).length) (x:=(min T.1 T.2.1,max T.1 T.2.1)) (z0:=0) (co:=false) rfl rfl Tryz.underlying108 Tryz.zeroValue3 rfl (IN (Eb hnb (by omega)) (by omega) _ (by omega)) (B0 (by omega) (by omega)))) (AS.imp rfl (BU Tryz.call47 (GQ T.2.1 T.2.2) rfl (AS.back sr (Av (v:=(vN Y)) rfl ((by rw [hY];exact DO FZ 3 (eV:=vN) (kvs:=Ed ps.length (BT ts) (BT ts).length) (x:=(min T.2.1 T.2.2,max T.2.1 T.2.2)) (z0:=0) (co:=false) rfl rfl Tryz.underlying108 Tryz.zeroValue3 rfl (IN (Eb hnb (by omega)) (by omega) _ (by omega)) (B0 (by omega) (by omega)))) ?_)))))
   refine AS.imp rfl (BU Tryz.call47 (GQ T.2.2 T.1) rfl (AS.back sr (Av (v:=(vN Z)) rfl ((by rw [hZ];exact DO FZ 3 (eV:=vN) (kvs:=Ed ps.length (BT ts) (BT ts).length) (x:=(min T.2.2 T.1,max T.2.2 T.1)) (z0:=0) (co:=false) rfl rfl Tryz.underlying108 Tryz.zeroValue3 rfl (IN (Eb hnb (by omega)) (by omega) _ (by omega)) (B0 (by omega) (by omega)))) (FO rfl (FO rfl ?_)))))
   refine FO rfl (AS.nil (AC.subF (sL [1,2,4,5,6,67,68,69,9,3,11,10,12,13,14] rfl) (q2 (AO rfl (AJ (v:=(pP b4 0)) (AE (j:=0) rfl rfl Tryz.underlying76 Tryz.sizeOf3 rfl (by decide) rfl) rfl ?_)))))
   refine BL 0 (vN T.1) B4 rfl (AO rfl (AO rfl (AJ (v:=(aG (Al (T.1,X,Z)))) (An (zs:=Al ((0,0,0):Nat×Nat×Nat)) (vs:=Al (T.1,X,Z)) (pv:=[(0,(vN T.1)),(1,(vN X)),(2,(vN Z))]) Tryz.zeroValue76 Tryz.underlying76 Tryz.sizeOf3 rfl (Dw T.1 X Z)) rfl (AO rfl (AJ (v:=(pP b4 1)) (AE (j:=1) rfl rfl Tryz.underlying76 Tryz.sizeOf3 rfl (by decide) rfl) rfl ?_)))))
   refine BL 0 (vN T.2.1) B4 rfl (AO rfl (AJ (v:=(aG (Al (X,T.2.1,Y)))) (An (zs:=Al ((0,0,0):Nat×Nat×Nat)) (vs:=Al (X,T.2.1,Y)) (pv:=[(0,(vN X)),(1,(vN T.2.1)),(2,(vN Y))]) Tryz.zeroValue76 Tryz.underlying76 Tryz.sizeOf3 rfl (Dw X T.2.1 Y)) rfl (AO rfl (AO rfl (AJ (v:=(pP b4 2)) (AE (j:=2) rfl rfl Tryz.underlying76 Tryz.sizeOf3 rfl (by decide) rfl) rfl ?_)))))
   refine BL 0 (vN T.2.2) B4 rfl (AJ (v:=(aG (Al (Z,Y,T.2.2)))) (An (zs:=Al ((0,0,0):Nat×Nat×Nat)) (vs:=Al (Z,Y,T.2.2)) (pv:=[(0,(vN Z)),(1,(vN Y)),(2,(vN T.2.2))]) Tryz.zeroValue76 Tryz.underlying76 Tryz.sizeOf3 rfl (Dw Z Y T.2.2)) rfl (AO rfl (AO rfl (AO rfl (AJ (v:=(aG (Al (X,Y,Z)))) (An (zs:=Al ((0,0,0):Nat×Nat×Nat)) (vs:=Al (X,Y,Z)) (pv:=[(0,(vN X)),(1,(vN Y)),(2,(vN Z))]) Tryz.zeroValue76 Tryz.underlying76 Tryz.sizeOf3 rfl (Dw X Y Z)) rfl ?_)))))
   refine AF.openV (V:=λb5=>(Value.slice (some ⟨b5,0,none⟩) 4 4)) (T:=76) (cs:=Al (T.1,X,Z)++Al (X,T.2.1,Y)++Al (Z,Y,T.2.2)++Al (X,Y,Z)) (AN rfl) (BE (z:=.agg (Al ((0,0,0):Nat×Nat×Nat)).toArray) (cs:=Al (T.1,X,Z)++Al (X,T.2.1,Y)++Al (Z,Y,T.2.2)++Al (X,Y,Z)) (pv:=[(0,(aG (Al (T.1,X,Z)))),(1,(aG (Al (X,T.2.1,Y)))),(2,(aG (Al (Z,Y,T.2.2)))),(3,(aG (Al (X,Y,Z))))]) Tryz.underlying28 Tryz.sizeOf76 Tryz.zeroValue76 (by decide) (by decide) rfl (K9 (T.1,X,Z) (X,T.2.1,Y) (Z,Y,T.2.2) (X,Y,Z))) rfl (Ad rfl) λb5=>AF.appendAt 3 (j:=0) (cs2:=rowsL Al ((KV ps.length (BT ts) ts t)++[(T.1,X,Z),(X,T.2.1,Y),(Z,Y,T.2.2),(X,Y,Z)])) Sh rfl ho1 (by rw [Ak A6,Td,Nat.min_eq_left (by omega)]) rfl rfl rfl rfl rfl (by decide) (Kq (by omega)) (by omega) (by rw [BW];rfl) rfl λp_1 c_1 ho_1 hne_1=>AK rfl (AF.nil (AC.subF (sL [1,2,4,5,6,67,68,69,9,3,11,10] rfl) (AC.then_ ?_)))
   refine AG.region (AO rfl (AO rfl (AO rfl (AO rfl (AO rfl ?_)))))
   refine AF.openV (V:=λb6=>(Value.slice (some ⟨b6,0,none⟩) 4 4)) (T:=3) (cs:=[(vN t),(vN t),(vN t),(vN t)]) (AN rfl) (BE (cs:=[(vN t),(vN t),(vN t),(vN t)]) (pv:=[(0,(vN t)),(1,(vN t)),(2,(vN t)),(3,(vN t))]) Tryz.underlying33 Tryz.sizeOf3 Tryz.zeroValue3 (by decide) (by decide) rfl (by kernel_rfl)) rfl (Ad rfl) λb6=>AF.appendAt 3 (j:=0) (cs2:=inL ((Dj t)++[t,t,t,t])) Yf rfl ho2 (by rw [Jy,Fx,Nat.mul_one]) rfl rfl rfl rfl rfl (by decide) (Kq (by omega)) (by omega) (by rw [Oj];rfl) rfl λp_2 c_2 ho_2 hne_2=>AK rfl (AF.nil (AC.subF (sL [1,2,4,5,6,67,68,69,9,3,11] rfl) (AC.in_normal ?_)))
   refine AC.then_ (AG.region (AJ (AX (c:=((t+1:Nat):Int)) rfl rfl (Ab (a:=t) (b:=1) (by omega))) rfl (AO rfl (AF.nil (AC.subF (sL [1,2,4,5,6,67,68,69,9,3,11] rfl) ?_)))))
   rw [show 4*t+4=4*(t+1) by omega]
   rw [show (KV ps.length (BT ts) ts t)++[(T.1,X,Z),(X,T.2.1,Y),(Z,Y,T.2.2),(X,Y,Z)]=KV ps.length (BT ts) ts (t+1) from by rw [hX,hY,hZ,hT];exact (Rc (by omega)).symm,show (Dj t)++[t,t,t,t]=Dj (t+1) from Ix.symm]
   exact AC.round5 (t+1) p_1 c_1 p_2 c_2 (⟨by omega,(by rw [show 4*(t+1)=4*t+4 by omega];exact ho_1),(by rw [show 4*(t+1)=4*t+4 by omega];exact ho_2)⟩) (by omega) (sF rfl) (sl (sl (sl sr)))
  ·replace hc3:=of_decide_eq_false hc3
   have htl:t=ts.length:=by omega
   rw [show KV ps.length (BT ts) ts t=EP ps.length (BT ts) ts by rw [htl,Tb],show Dj t=Dj ts.length by rw [htl]]
   refine AG.exit (AC.then_exit (AC.round5_exit (AC.in_exit (q2 (A7 5 DU rfl ?_)))))
   refine AO rfl (AO rfl (AF.frzRow 1 rfl ho1 (by rw [Ak A6,EK,htl]) rfl rfl λhn_AL=>AF.retell (k:=127) (u:=(Value.slice p1 ((EP ps.length (BT ts) ts).length) c1)) rfl (by rw [EK,<-htl]) (cM (S:=S) (args:=[(aG (CG x)),(Value.slice o.p ((BT ts).length) o.c),(Value.slice p1 ((EP ps.length (BT ts) ts).length) c1)]) Tryz.call48 (λw hw=>SD x (BT ts) o (EP ps.length (BT ts) ts) ⟨p1,c1,by rw [EK,<-htl];exact ho1.row⟩ (Eb hnb (by omega)) (N7 hnb (by omega)) hz (by omega) (by omega) (by rw [EK];omega) (by omega) w (Dn hw 6 rfl lx) (Dn hw 3 rfl lo) (Dn hw 1 rfl (At.new hn_AL))) rfl λf hf=>AO rfl ?_)))
   refine GK 7 (off:=0) (vs:=CG f) (cs':=CG f) (AN rfl) rfl Tryz.sizeOf31 rfl (AK rfl (AK rfl (AF.nil (AC.subF (sL [1,2,4,5,6,67,68,69,9,3] rfl) (AC.then_ ?_)))))
   exact AG.ret (E8 rfl (Ay (i:=7) (cs:=CG f) rfl rfl Tryz.isAgg31 Tryz.sizeOf31 rfl) (Ai (v:=(Value.slice p2 (4*t) c2)) rfl) (Ai (v:=(vI 0)) rfl) (λw hw=>(YY hw (Dn hw 0 rfl hf) 3 rfl ho2 (by rw [Fx,htl]) rfl)))
end
section
theorem Su (a b:T3):(((a.1:Int) == (b.1:Int))&&(((a.2.1:Int) == (b.2.1:Int))&&(((a.2.2:Int) == (b.2.2:Int))&&true)))=decide (a=b):=by
  obtain ⟨a1,a2,a3⟩:=a
  obtain ⟨b1,b2,b3⟩:=b
  rw [Bool.eq_iff_iff]
  simp
  constructor<;>(rintro ⟨h1,h2,h3⟩;refine ⟨?_,?_,?_⟩<;>omega)
theorem YM (D:Nat) (a b:T3):Ee Tryz.prog (D+2) 76 (.agg (Al a).toArray) (.agg (Al b).toArray) (decide (a=b)):=by
  rw [<-Su]
  exact Ee.array Tryz.underlying76 OD Lg (Mx.one Tryz.isAgg3 rfl rfl (Ee.int Tryz.underlying3) (Mx.one Tryz.isAgg3 rfl rfl (Ee.int Tryz.underlying3) (Mx.one Tryz.isAgg3 rfl rfl (Ee.int Tryz.underlying3) Mx.nil)))
theorem Ul (D:Nat) (a b:T3):Ee Tryz.prog (D+2) 44 (.agg (Al a).toArray) (.agg (Al b).toArray) (decide (a=b)):=by
  rw [<-Su]
  exact Ee.struct Tryz.underlying44 Tryz.stoodInHeld44 (If.one (by decide) Tryz.isAgg3 rfl rfl (Ee.int Tryz.underlying3) (If.one (by decide) Tryz.isAgg3 rfl rfl (Ee.int Tryz.underlying3) (If.one (by decide) Tryz.isAgg3 rfl rfl (Ee.int Tryz.underlying3) If.nil)))
theorem N6 (D:Nat) {a b:T3} (h:a=b):Ee Tryz.prog (D+2) 76 (.agg (Al a).toArray) (.agg (Al b).toArray) true:=by
  have:=YM D a b;rwa [decide_eq_true h] at this
theorem Hf (D:Nat) {a b:T3} (h:a=b):Ee Tryz.prog (D+2) 44 (.agg (Al a).toArray) (.agg (Al b).toArray) true:=by
  have:=Ul D a b;rwa [decide_eq_true h] at this
theorem Is (b n:Nat):BQ (some ⟨b,0,none⟩) n n:=⟨λe=>(by cases e),λa e=>(by injection e with e;subst e;rfl),Nat.le_refl _⟩
theorem YO {ps:List Pt} {k:Nat} (h:(ps.all λp=>decide (Bo p<=k))=true) (h0:Bo (⟨0,0⟩:Pt)<=k) (i:Nat):Bo (cor ps i)<=k:=by
  unfold cor
  rcases Nat.lt_or_ge i ps.length with hi|hi
  · rw [List.getD,List.getElem?_eq_getElem hi]
    exact of_decide_eq_true (List.all_eq_true.1 h _ (List.getElem_mem hi))
  · rw [List.getD,List.getElem?_eq_none hi];exact h0
theorem At.mx {w0:BP} {S:Nat->Prop} {ps:List Pt} {ts ss:List T3} {x:MX ps ts ss} (h1:At w0 S x.a) (h2:At w0 S x.b) (h3:At w0 S x.c):At w0 S x:=λy hy b e=>by
  have hy:y∈[x.a.row,x.b.row,x.c.row]:=hy
  simp only [List.mem_cons,List.not_mem_nil,or_false] at hy
  rcases hy with rfl|rfl|rfl
  · exact h1 _ List.mem_cons_self b e
  · exact h2 _ List.mem_cons_self b e
  · exact h3 _ List.mem_cons_self b e
section
variable {P:Program} {ops:Array Oper} {rest:List Oper} {Q:Exit->Act->World->Prop} {n:Nat} {F:List (Nat×Value)} {w0:BP} {S:Nat->Prop} {L:List As} {ps:List Pt} {ts ss:List T3}
theorem PC {w:World} {i b:Nat} {T:TypeId} {cs:List Value} (hw:BR w0 w L) (hi:L[i]?=some (Ah b T cs)) (hex:w0.ex=none):w0.w.heap.size<=b:=by
  rcases (hw.2.1 _ (List.mem_of_getElem? hi) b rfl).1 with h1|h1|h1
  · cases h1
  · exact h1
  · rw [hex] at h1;cases h1
theorem AF.litM {b1 b2 b3 U1 U2 U3:Nat} {cs1 cs2 cs3:List Value} (LL:MX ps ts ss->List As) (i j k:Nat) (hn:i≠j/\i≠k/\j≠k) (h1:L[i]?=some (Ah b1 U1 cs1)) (h2:L[j]?=some (Ah b2 U2 cs2)) (h3:L[k]?=some (Ah b3 U3 cs3)) (hex:w0.ex=none)
    (e:(cs1,cs2,cs3)=(rowsL Ae ps,rowsL Al ts,rowsL Al ss))
    (hL:((L.set i (Ag (some ⟨b1,0,none⟩) cs1)).set j (Ag (some ⟨b2,0,none⟩) cs2)).set k (Ag (some ⟨b3,0,none⟩) cs3)=LL ⟨⟨some ⟨b1,0,none⟩,ps.length,Is _ _⟩,⟨some ⟨b2,0,none⟩,ts.length,Is _ _⟩,⟨some ⟨b3,0,none⟩,ss.length,Is _ _⟩⟩)
    (next:∀mm:MX ps ts ss,At w0 S mm->AF P ops rest Q n F w0 (LL mm)):AF P ops rest Q n F w0 L:=λa w ha hw=>by
  have n1:=PC hw h1 hex
  have n2:=PC hw h2 hex
  have n3:=PC hw h3 hex
  have w1:=hw.freeze (x:=Ah b1 U1 cs1) (y:=Ag (some ⟨b1,0,none⟩) cs1) h1 rfl (λo hp=>HA hp) (λe=>by cases e)
  have w2:=w1.freeze (i:=j) (x:=Ah b2 U2 cs2) (y:=Ag (some ⟨b2,0,none⟩) cs2) (by rw [List.getElem?_set_ne hn.1];exact h2) rfl (λo hp=>HA hp) (λe=>by cases e)
  have w3:=w2.freeze (i:=k) (x:=Ah b3 U3 cs3) (y:=Ag (some ⟨b3,0,none⟩) cs3) (by rw [List.getElem?_set_ne hn.2.2,List.getElem?_set_ne hn.2.1];exact h3) rfl (λo hp=>HA hp) (λe=>by cases e)
  rw [hL] at w3
  refine next _ (λy hy b eb=>?_) a w ha w3
  have hy:y∈[Ag (some ⟨b1,0,none⟩) (rowsL Ae ps),Ag (some ⟨b2,0,none⟩) (rowsL Al ts),Ag (some ⟨b3,0,none⟩) (rowsL Al ss)]:=hy
  simp only [List.mem_cons,List.not_mem_nil,or_false] at hy
  rcases hy with rfl|rfl|rfl<;>(injection eb with eb;subst eb;exact .inl (by assumption))
end
theorem aR {α:Type} [D9 α] {w0:BP} {w:World} {S:Nat->Prop} {L:List As} (hw:BR w0 w L) (is:List Nat) {a:α} (hi:(is.map λi=>L[i]?)=(D9.rows a).map some) (ha:At w0 S a):Ro (SL w0 S L) w a:=λy hy=>by
  have h1:some y∈(is.map λi=>L[i]?):=by rw [hi];exact List.mem_map.2 ⟨y,hy,rfl⟩
  obtain ⟨i,_,h2⟩:=List.mem_map.1 h1
  have hm:=List.mem_of_getElem? h2
  exact ⟨λb e=>(hw.2.1 y hm b e).2,λb e=>⟨⟨y,hm,D9.ro a y hy,e⟩,ha y hy b e⟩⟩
end
end Go.Proofs.YtfbomiejpbchdaaGreat
