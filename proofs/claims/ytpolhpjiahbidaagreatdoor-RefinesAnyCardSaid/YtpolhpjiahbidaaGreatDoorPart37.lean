import Derived.Test.YtpolhpjiahbidaaGreatDoorPart05
import Derived.Test.YtpolhpjiahbidaaGreatDoorPart27
import Derived.Test.YtpolhpjiahbidaaGreatDoorPart34
import Derived.Test.YtpolhpjiahbidaaGreatDoorPart35
import Derived.Test.YtpolhpjiahbidaaGreatDoorPart36
namespace Go.Proofs.YtpolhpjiahbidaaGreatDoor
open Go Go.RowKit Go.Proofs.Tryz
set_option linter.unusedVariables false
set_option linter.unusedSimpArgs false
section
set_option maxRecDepth 100000
theorem Ot {ps:List Pt} {ts:List T3} {ss:List Z3} (x:MN ps ts ss) (es:List E4) (o:RX (rowsL BY es) es.length) (us:List T3) (y:RX (rowsL Ad us) us.length) (hz:∀i,Ds (ps.getD i ⟨0,0⟩)<=1000000) (hp:ps.length<=1000000) (hel:es.length<=1000000) (hul:us.length<=1000000) (hsl:ss.length<=1000000) (w:World) {S:Nat->Prop} (hx:Ro S w x) (ho:Ro S w o) (hy:Ro S w y) :
  Calls prog 16 #[(aG (Qg x)),(Value.slice o.p es.length o.c),(Value.slice y.p us.length y.c)] w (Af (Xp (Ke ps (EJ ps.length (es.map NG) (es.map NG).length)) (us.map CQ) (L8 ps.length ss (EJ ps.length (es.map NG) (es.map NG).length) (us.map CQ))) S w):=by
 obtain ⟨x',h1,h2⟩:=W3 x
 obtain ⟨op,oc,ook⟩:=o
 obtain ⟨yp,yc,yok⟩:=y
 have e1:es.length=(es.map NG).length:=(List.length_map _).symm
 have e2:us.length=(us.map CQ).length:=(List.length_map _).symm
 have k:=Ng x' (es.map NG) ⟨op,oc,e1▸ook⟩ (us.map CQ) ⟨yp,yc,e2▸yok⟩ hz hp Z Z hsl w (S:=S) (h2 hx) (λz h=>ho z (by rcases List.mem_singleton.1 h with rfl;rw [<-Nz];exact List.mem_singleton.2 rfl)) (λz h=>hy z (by rcases List.mem_singleton.1 h with rfl;rw [<-DY];exact List.mem_singleton.2 rfl))
 dsimp only at k
 rw [h1] at k
 rw [<-e1,<-e2] at k
 rw [<-e1]
 exact k
theorem DQ (x0 x1 x2:Nat):Instr.fill (λi=>some (i*1,1)) (Ad ((0,0,0):Tq3)).toArray [(0,vN x0),(1,vN x1),(2,vN x2)]=some (Ad (x0,x1,x2)).toArray:=by kernel_rfl
theorem I1 (x0 x1 x2 x3:Tq3):Instr.fill (λi=>some (i*3,3)) ((Array.range (4*3)).map ((Value.agg (Ad ((0,0,0):Tq3)).toArray).cells[·%(Value.agg (Ad ((0,0,0):Tq3)).toArray).cells.size]!)) [(0,.agg (Ad x0).toArray),(1,.agg (Ad x1).toArray),(2,.agg (Ad x2).toArray),(3,.agg (Ad x3).toArray)]=some (Ad x0++Ad x1++Ad x2++Ad x3).toArray:=by kernel_rfl
set_option maxHeartbeats 1000000 in
theorem Va {ps:List Pt} {ts:List T3} {ss:List Z3} (x:MN ps ts ss) (hnb:Bn ps.length ts=true) (hz:∀i,Ds (OJ ps i)<=1000000) (hp:ps.length<=1000000) (htl0:ts.length<=1000000) (hsl:ss.length<=1000000) (hlim:ps.length+(An ts).length<=4096/\4*ts.length<=8192) (w:World) {S:Nat->Prop} (hx:Ro S w x):Calls prog 11 #[(aG (Qg x))] w (Af (Wz (YS ps ts) (Rs ps.length ts) (U8 ps.length ts ss) (C0 ts.length) 0) S w):=by
 obtain ⟨hl1,hl2⟩:=hlim
 have lx:=CI (W:=w) hx
 refine AY (args:=[(aG (Qg x))]) (L:=[AE x.a.p (rowsL BC ps),AE x.b.p (rowsL Ad ts),AE x.c.p (rowsL Ac ss)]) func11 O O (AI O) (D9 hx Aj) (OkC.subF (sL [0] O) (q4 (Be (cs:=Qg x) O λb1=>al IW O λb2=>asg' O (asg' O (q6 (sL [1,2,3,4] O) (q4 (BH 1 Dn O (Ce (args:=[(aG (Qg x))]) (v:=(Value.bool true)) call43 (λw hw=>(by obtain ⟨y,hy,hro⟩:=W3 x;have h9:=OL y.rq (by rw [List.length_map];omega) w (Y1 (hro (inS hw 2 O lx)));rw [LT,hnb,show G6 y.rq=Qg x from hy] at h9;exact h9)) O (AH (BU (c:=false) O O) O ?_)))))))))
 refine OkL.nil (OkQ.subF (sL [1,2,3,4,17] O) (OkQ.then_ (OkC.cond_false O (OkC.skip (q2 (BH 1 Dn O (cX (S:=S) (cs:=rowsL BY (An ts)) (k:=(An ts).length) (args:=[(aG (Qg x))]) call34 (λw hw=>(by obtain ⟨y,hy,hro⟩:=ZK x;have h9:=KH y Z Z hnb w (hro (inS hw 2 O lx));rw [hy] at h9;exact h9)) O O O λo lo=>asg' O (q6 (sL [1,2,3,4,5] O) (q4 (AH (v:=(pP b1 0)) (AA O underlying30 O sizeOf28 O) O ?_))))))))))
 refine Au 2 (Value.slice x.a.p ps.length x.a.c) DE O (AH (v:=(vN ps.length)) (AD O underlying28) O (AM O (AH (v:=(vN ((An ts).length))) (AD O underlying46) O (AH (AX (c:=((ps.length+((An ts).length):Nat):Int)) O O (AR (a:=ps.length) (b:=(An ts).length) Z)) O (AH (Bs (c:=false) O O (decide_eq_false Z)) O (AM O (OkL.step (v:=(pP b1 1)) (AB O) (AA O underlying30 O sizeOf23 O) O (AI O) (OkL.step (v:=(Value.slice x.b.p ts.length x.b.c)) (AB O) (AF (i:=2) (v:=(Value.slice x.b.p ts.length x.b.c)) O O CU.a O) O (AI O) (OkL.step (v:=(vN ts.length)) (AB O) (AD O underlying23) O (AI O) (OkL.step (v:=(vN (4*ts.length))) (AB O) (CN (c:=((4*ts.length:Nat):Int)) O O (CT (a:=4) (b:=ts.length) Z)) O (AI O) (OkL.step (v:=(Value.bool false)) (AB O) (Bs (c:=false) O O (decide_eq_false Z)) O (AI O) ?_)))))))))))
 refine AH (v:=(Value.bool false)) (AJ O O) O (OkL.nil (OkQ.subF (sL [1,2,3,4,5,34] O) (OkQ.then_ (OkC.cond_false O (OkC.skip (q2 (OkL.makeMap E3 vN (AP O) O λb3=>?_)))))))
 rw [show ([]:List (P2×Nat))=DZ ps.length (An ts) 0 from rfl]
 refine asg' O (q6 (sL [1,2,3,4,5,6] O) (q4 (AM O (AH (v:=(vN ((An ts).length))) (AD O underlying46) O (AM O (OkL.nil (OkQ.then_ (OkC.block ?_))))))))
 refine OkC.lp1 (tg λ(i:Nat)=>i<=(An ts).length) (tg λ(i:Nat)=>[(1,(pP b1 0)),(2,(pP b2 0)),(3,(Value.slice none 0 0)),(4,(vI 0)),(5,(Value.slice o.p ((An ts).length) o.c)),(6,(Value.map (some b3))),(37,(Value.slice o.p ((An ts).length) o.c)),(38,(vN ((An ts).length))),(39,(vN i))]) (tg λ(i:Nat)=>[CE b3 E3 vN (DZ ps.length (An ts) i),AE o.p (rowsL BY (An ts)),AU b2 30 ([(Value.slice none 0 0),(Value.slice none 0 0),(Value.slice none 0 0)]),AU b1 30 (Qg x),AE x.a.p (rowsL BC ps),AE x.b.p (rowsL Ad ts),AE x.c.p (rowsL Ac ss)]) (tg λ(i:Nat)=>(An ts).length-i) 0 (Nat.zero_le _) (sF O) sr (λi hJ=>?_)
 have hi:=hJ
 refine q4 (AH (Ae (c:=(decide (i<((An ts).length)))) O O (CB (a:=i) (b:=(An ts).length))) O (OkL.nil (q1 ?_)))
 refine OkC.cond O (λhc2=>?_) (λhc2=>?_)
 ·replace hc2:=of_decide_eq_true hc2
  obtain ⟨ed,hed⟩:∃q,q=(An ts).getD i (⟨0,0,0,0⟩:E4):=⟨_,rfl⟩
  obtain ⟨hea,heb⟩:=CY hnb Z ed (by rw [hed,List.getD,List.getElem?_eq_getElem hc2];exact List.getElem_mem hc2)
  refine OkC.skip (q1 (OkC.block (q4 (AM O (AH (v:=(pP (pB o.p) (pO o.p+i*4))) (AL (j:=i) O O o.ok underlying46 sizeOf49 O Z) O (AH (v:=(aG (BY ((An ts).getD i (⟨0,0,0,0⟩:E4))))) (AT (vs:=BY ((An ts).getD i (⟨0,0,0,0⟩:E4))) (i:=1) O O (Av.ne o.ok Z) MP (Am CC _ _ _ Z) (CC _)) O (OkL.retell (k:=43) (u:=(aG (BY ed))) O (by rw [hed]) (al L0 O λb4=>asg' O (Ax O sizeOf49 O (OkL.nil ?_))))))))))
  refine OkQ.subF (sL [1,2,3,4,5,6,37,38,39,8,7] O) (OkQ.then_ (Cd [(0,true),(1,true),(2,true),(3,true),(4,true),(6,true),(7,true),(8,true),(9,true),(10,true),(5,false),(11,false)] (sk (sl sr)) (BV O (Al (v:=(pP b4 0)) O (AA O underlying49 O sizeOf3 O) (BM 0 (vN ed.a) BL O (Al (v:=(pP b4 1)) O (AA O underlying49 O sizeOf3 O) (BM 0 (vN ed.b) BL O (Al (v:=(pP b1 0)) O (AA O underlying30 O sizeOf28 O) (BM 3 (Value.slice x.a.p ps.length x.a.c) DE O (Al (v:=(vN ps.length)) O (AD O underlying28) (BV O ?_)))))))))))
  refine Al O (AX (c:=((ps.length+i:Nat):Int)) O O (AR (a:=ps.length) (b:=i) Z)) (OkE.imp O (ck' call44 (B_ ed.a ed.b) O (OkE.back (sk (sl sr)) (OkE.imp O (OkL.mapUpdate C4 1 (kvs:=DZ ps.length (An ts) i) (x:=(min ed.a ed.b,max ed.a ed.b)) (y:=ps.length+i) (AP O) O O O underlying112 O (EY (CY hnb Z) Z _ Z) (BQ Z Z) ?_)))))
  rw [show BN (DZ ps.length (An ts) i) (min ed.a ed.b,max ed.a ed.b) (ps.length+i)=DZ ps.length (An ts) (i+1) from by rw [hed];rfl]
  exact OkE.back (sk (sl sr)) (OkE.nil (OkQ.subF (sL [1,2,3,4,5,6,37,38,39,8] O) (OkQ.in_normal (OkQ.then_ (OkC.region (AH (AX (c:=((i+1:Nat):Int)) O O (AR (a:=i) (b:=1) Z)) O (AM O (OkL.nil (OkQ.subF (sL [1,2,3,4,5,6,37,38,39,8] O) (OkQ.round1 (i+1) Z Z (sF O) (sl sr)))))))))))
 ·replace hc2:=of_decide_eq_false hc2
  have hie:i=(An ts).length:=by omega
  rw [show DZ ps.length (An ts) i=DZ ps.length (An ts) (An ts).length by rw [hie]]
  refine OkC.exit (OkQ.then_exit (OkQ.round1_exit (OkQ.in_exit (q2 (AH (v:=(pP b1 1)) (AA O underlying30 O sizeOf23 O) O (Au 3 (Value.slice x.b.p ts.length x.b.c) CU O (AH (v:=(vN ts.length)) (AD O underlying23) O (AH (CN (c:=((4*ts.length:Nat):Int)) O O (CT (a:=4) (b:=ts.length) Z)) O (OkL.make0 Kl O O Z O O λbm_AL hbm_AL=>asg' O (q3 (sL [1,2,3,4,5,6,37,38,39,9] O) ?_))))))))))
  refine AH (v:=(pP b1 1)) (AA O underlying30 O sizeOf23 O) O (Au 4 (Value.slice x.b.p ts.length x.b.c) CU O (AH (v:=(vN ts.length)) (AD O underlying23) O (AH (CN (c:=((4*ts.length:Nat):Int)) O O (CT (a:=4) (b:=ts.length) Z)) O (OkL.make0 UH O O Z O O λbm_PR hbm_PR=>asg' O (q6 (sL [1,2,3,4,5,6,37,38,39,9] O) (q4 (AH (v:=(pP b1 1)) (AA O underlying30 O sizeOf23 O) O (Au 5 (Value.slice x.b.p ts.length x.b.c) CU O (AH (v:=(vN ts.length)) (AD O underlying23) O (AM O ?_))))))))))
  refine OkL.nil (OkQ.subF (sL [1,2,3,4,5,6,37,38,39,9,67,68,69] O) (OkQ.then_ (OkC.block ?_)))
  refine OkC.lp3 (tg λ(t:Nat) (p1:Option Addr) (c1:Nat)=>t<=ts.length/\OwnOk p1 (4*t) c1/\OwnOk (some ⟨bm_PR,0,none⟩) (4*t) (4*ts.length)) (tg λ(t:Nat) (p1:Option Addr) (c1:Nat)=>[(1,(pP b1 0)),(2,(pP b2 0)),(4,(vI 0)),(5,(Value.slice o.p ((An ts).length) o.c)),(6,(Value.map (some b3))),(67,(Value.slice x.b.p ts.length x.b.c)),(68,(vN ts.length)),(69,(vN t)),(9,(Value.slice p1 (4*t) c1)),(3,(Value.slice (some ⟨bm_PR,0,none⟩) (4*t) (4*ts.length)))]) (tg λ(t:Nat) (p1:Option Addr) (c1:Nat)=>[rowW (some ⟨bm_PR,0,none⟩) 3 1 (4*t) (4*ts.length) (inL (C0 t)),rowW p1 105 3 (4*t) c1 (rowsL Ad (EW ps.length (An ts) ts t)),CE b3 E3 vN (DZ ps.length (An ts) (An ts).length),AE o.p (rowsL BY (An ts)),AU b2 30 ([(Value.slice none 0 0),(Value.slice none 0 0),(Value.slice none 0 0)]),AU b1 30 (Qg x),AE x.a.p (rowsL BC ps),AE x.b.p (rowsL Ad ts),AE x.c.p (rowsL Ac ss)]) (tg λ(t:Nat) (p1:Option Addr) (c1:Nat)=>ts.length-t) 0 (some ⟨bm_AL,0,none⟩) (4*ts.length) (⟨Nat.zero_le _,hbm_AL,hbm_PR⟩) (sF O) sr (λt p1 c1 hJ=>?_)
  obtain ⟨ht,ho1,ho2⟩:=hJ
  refine q4 (AH (Ae (c:=(decide (t<ts.length))) O O (CB (a:=t) (b:=ts.length))) O (OkL.nil (q1 ?_)))
  refine OkC.cond O (λhc3=>?_) (λhc3=>?_)
  ·replace hc3:=of_decide_eq_true hc3
   obtain ⟨T,hT⟩:∃q,q=ts.getD t (0,0,0):=⟨_,rfl⟩
   obtain ⟨g1,g2,g3⟩:=EH (Dh hnb hc3)
   rw [<-hT] at g1 g2 g3
   obtain ⟨X,hX⟩:∃q,q=EN ps.length (An ts) T.1 T.2.1:=⟨_,rfl⟩
   obtain ⟨Y,hY⟩:∃q,q=EN ps.length (An ts) T.2.1 T.2.2:=⟨_,rfl⟩
   obtain ⟨V,hV⟩:∃q,q=EN ps.length (An ts) T.2.2 T.1:=⟨_,rfl⟩
   refine OkC.skip (q1 (OkC.block (q4 (AM O (AH (v:=(pP (pB x.b.p) (pO x.b.p+t*3))) (AL (j:=t) O O x.b.ok underlying23 sizeOf105 O Z) O (AH (v:=(aG (Ad (ts.getD t ((0,0,0):Tq3))))) (AT (vs:=Ad (ts.getD t ((0,0,0):Tq3))) (i:=7) O O (Av.ne x.b.ok Z) ET (Am Az _ _ _ Z) (Az _)) O (OkL.retell (k:=73) (u:=(aG (Ad T))) O (by rw [hT]) (al LC O λb4=>asg' O (Ax O sizeOf105 O (q6 (sL [1,2,4,5,6,67,68,69,9,3,11,10] O) ?_))))))))))
   refine Cd [(0,true),(1,true),(2,true),(3,true),(4,true),(7,true),(8,true),(9,true),(10,true),(11,true),(14,true),(15,true),(16,true),(17,true),(18,true),(5,false),(6,true),(12,false),(13,true),(19,false),(20,true),(21,true),(22,true),(23,true)] sr (BV O (Al (v:=(pP b4 0)) O (AG (j:=0) O O underlying105 sizeOf3 O (by decide) O) (BM 0 (vN T.1) BL O (Al (v:=(pP b4 1)) O (AG (j:=1) O O underlying105 sizeOf3 O (by decide) O) (BM 0 (vN T.2.1) BL O (BV O (Al (v:=(pP b4 1)) O (AG (j:=1) O O underlying105 sizeOf3 O (by decide) O) (BM 0 (vN T.2.1) BL O (Al (v:=(pP b4 2)) O (AG (j:=2) O O underlying105 sizeOf3 O (by decide) O) (BM 0 (vN T.2.2) BL O (BV O ?_)))))))))))
   refine Al (v:=(pP b4 2)) O (AG (j:=2) O O underlying105 sizeOf3 O (by decide) O) (BM 0 (vN T.2.2) BL O (Al (v:=(pP b4 0)) O (AG (j:=0) O O underlying105 sizeOf3 O (by decide) O) (BM 0 (vN T.1) BL O (OkE.imp O (ck' call44 (B_ T.1 T.2.1) O (OkE.back sr (Al (v:=(vN X)) O ((by rw [hX];exact Bu C4 3 (eV:=vN) (kvs:=DZ ps.length (An ts) (An ts).length) (x:=(min T.1 T.2.1,max T.1 T.2.1)) (z0:=0) (co:=false) O O underlying112 zeroValue3 O (EY (CY hnb Z) Z _ Z) (BQ Z Z))) (OkE.imp O (ck' call44 (B_ T.2.1 T.2.2) O (OkE.back sr (Al (v:=(vN Y)) O ((by rw [hY];exact Bu C4 3 (eV:=vN) (kvs:=DZ ps.length (An ts) (An ts).length) (x:=(min T.2.1 T.2.2,max T.2.1 T.2.2)) (z0:=0) (co:=false) O O underlying112 zeroValue3 O (EY (CY hnb Z) Z _ Z) (BQ Z Z))) ?_)))))))))))
   refine OkE.imp O (ck' call44 (B_ T.2.2 T.1) O (OkE.back sr (Al (v:=(vN V)) O ((by rw [hV];exact Bu C4 3 (eV:=vN) (kvs:=DZ ps.length (An ts) (An ts).length) (x:=(min T.2.2 T.1,max T.2.2 T.1)) (z0:=0) (co:=false) O O underlying112 zeroValue3 O (EY (CY hnb Z) Z _ Z) (BQ Z Z))) (pS' O (pS' O (pS' O (OkE.nil (OkQ.subF (sL [1,2,4,5,6,67,68,69,9,3,11,10,12,13,14] O) (q2 (AM O (AH (v:=(pP b4 0)) (AG (j:=0) O O underlying105 sizeOf3 O (by decide) O) O ?_)))))))))))
   refine Au 0 (vN T.1) BL O (AM O (AM O (AH (v:=(aG (Ad (T.1,X,V)))) (BF (zs:=Ad ((0,0,0):Tq3)) (vs:=Ad (T.1,X,V)) (pv:=[(0,(vN T.1)),(1,(vN X)),(2,(vN V))]) zeroValue105 underlying105 sizeOf3 O (DQ T.1 X V)) O (AM O (AH (v:=(pP b4 1)) (AG (j:=1) O O underlying105 sizeOf3 O (by decide) O) O (Au 0 (vN T.2.1) BL O (AM O (AH (v:=(aG (Ad (X,T.2.1,Y)))) (BF (zs:=Ad ((0,0,0):Tq3)) (vs:=Ad (X,T.2.1,Y)) (pv:=[(0,(vN X)),(1,(vN T.2.1)),(2,(vN Y))]) zeroValue105 underlying105 sizeOf3 O (DQ X T.2.1 Y)) O (AM O (AM O (AH (v:=(pP b4 2)) (AG (j:=2) O O underlying105 sizeOf3 O (by decide) O) O ?_)))))))))))
   refine Au 0 (vN T.2.2) BL O (AH (v:=(aG (Ad (V,Y,T.2.2)))) (BF (zs:=Ad ((0,0,0):Tq3)) (vs:=Ad (V,Y,T.2.2)) (pv:=[(0,(vN V)),(1,(vN Y)),(2,(vN T.2.2))]) zeroValue105 underlying105 sizeOf3 O (DQ V Y T.2.2)) O (AM O (AM O (AM O (AH (v:=(aG (Ad (X,Y,V)))) (BF (zs:=Ad ((0,0,0):Tq3)) (vs:=Ad (X,Y,V)) (pv:=[(0,(vN X)),(1,(vN Y)),(2,(vN V))]) zeroValue105 underlying105 sizeOf3 O (DQ X Y V)) O (OkL.openV (V:=λb5=>(Value.slice (some ⟨b5,0,none⟩) 4 4)) (T:=105) (cs:=Ad (T.1,X,V)++Ad (X,T.2.1,Y)++Ad (V,Y,T.2.2)++Ad (X,Y,V)) (AP O) (Ao (z:=.agg (Ad ((0,0,0):Tq3)).toArray) (cs:=Ad (T.1,X,V)++Ad (X,T.2.1,Y)++Ad (V,Y,T.2.2)++Ad (X,Y,V)) (pv:=[(0,(aG (Ad (T.1,X,V)))),(1,(aG (Ad (X,T.2.1,Y)))),(2,(aG (Ad (V,Y,T.2.2)))),(3,(aG (Ad (X,Y,V))))]) underlying23 sizeOf105 zeroValue105 (by decide) (by decide) O (I1 (T.1,X,V) (X,T.2.1,Y) (V,Y,T.2.2) (X,Y,V))) O (AI O) λb5=>OkL.appendAt 3 (j:=0) (cs2:=rowsL Ad ((EW ps.length (An ts) ts t)++[(T.1,X,V),(X,T.2.1,Y),(V,Y,T.2.2),(X,Y,V)])) Kl O ho1 (by rw [Aa Az,J7,Nat.min_eq_left Z]) O O O O O (by decide) (G0 Z) Z (by rw [BT];rfl) O λp_1 c_1 ho_1 hne_1=>asg' O (OkL.nil (OkQ.subF (sL [1,2,4,5,6,67,68,69,9,3,11,10] O) (OkQ.then_ ?_)))))))))
   refine OkC.region (AM O (AM O (AM O (AM O (AM O (OkL.openV (V:=λb6=>(Value.slice (some ⟨b6,0,none⟩) 4 4)) (T:=3) (cs:=[(vN t),(vN t),(vN t),(vN t)]) (AP O) (Ao (cs:=[(vN t),(vN t),(vN t),(vN t)]) (pv:=[(0,(vN t)),(1,(vN t)),(2,(vN t)),(3,(vN t))]) underlying32 sizeOf3 zeroValue3 (by decide) (by decide) O (by kernel_rfl)) O (AI O) λb6=>OkL.appendK 3 0 (cs2:=inL ((C0 t)++[t,t,t,t])) UH O O ho2 (by rw [Dz,Eh,Nat.mul_one]) O O O O (by decide) Z (by rw [HJ];rfl) O λho_2=>asg' O (OkL.nil (OkQ.subF (sL [1,2,4,5,6,67,68,69,9,3,11] O) (OkQ.in_normal ?_)))))))))
   refine OkQ.then_ (OkC.region (AH (AX (c:=((t+1:Nat):Int)) O O (AR (a:=t) (b:=1) Z)) O (AM O (OkL.nil (OkQ.subF (sL [1,2,4,5,6,67,68,69,9,3,11] O) ?_)))))
   rw [show 4*t+4=4*(t+1) by omega]
   rw [show (EW ps.length (An ts) ts t)++[(T.1,X,V),(X,T.2.1,Y),(V,Y,T.2.2),(X,Y,V)]=EW ps.length (An ts) ts (t+1) from by rw [hX,hY,hV,hT];exact (ID Z).symm,show (C0 t)++[t,t,t,t]=C0 (t+1) from Gd.symm]
   exact OkQ.round3 (t+1) p_1 c_1 (⟨Z,(by rw [show 4*(t+1)=4*t+4 by omega];exact ho_1),(by rw [show 4*(t+1)=4*t+4 by omega];exact ho_2)⟩) Z (sF O) (sl (sl (sl sr)))
  ·replace hc3:=of_decide_eq_false hc3
   have htl:t=ts.length:=by omega
   rw [show EW ps.length (An ts) ts t=EC ps.length (An ts) ts by rw [htl,Jz],show C0 t=C0 ts.length by rw [htl]]
   refine OkC.exit (OkQ.then_exit (OkQ.round3_exit (OkQ.in_exit (q2 (BH 5 Dn O (AM O (AM O (OkL.frzRow 1 O ho1 (by rw [Aa Az,CG,htl]) O O λhn_AL=>OkL.retell (k:=127) (u:=(Value.slice p1 ((EC ps.length (An ts) ts).length) c1)) O (by rw [CG,<-htl]) (OkL.callR (S:=S) (α:=Xp (YS ps ts) (Rs ps.length ts) (U8 ps.length ts ss)) (args:=[(aG (Qg x)),(Value.slice o.p ((An ts).length) o.c),(Value.slice p1 ((EC ps.length (An ts) ts).length) c1)]) call16 (λw hw=>Ot x (An ts) o (EC ps.length (An ts) ts) ⟨p1,c1,by rw [CG,<-htl];exact ho1.row⟩ hz Z Z (by rw [CG];omega) Z w (inS hw 6 O lx) (inS hw 3 O lo) (inS hw 1 O (At.new hn_AL))) O O O λf hf=>AM O ?_)))))))))
   exact FG 7 (off:=0) (vs:=Cy f.m) (cs':=Cy f.m) (AP O) O sizeOf30 O (asg' O (asg' O (OkL.nil (OkQ.subF (sL [1,2,4,5,6,67,68,69,9,3] O) (OkQ.then_ (OkC.ret (C9 O (Ak (i:=7) (cs:=Cy f.m) O O isAgg30 sizeOf30 O) (rd_tmp (v:=(Value.slice (some ⟨bm_PR,0,none⟩) (4*t) (4*ts.length))) O) (rd_tmp (v:=(vI 0)) O) (λw hw=>(X8 hw (inS hw 0 O hf) 3 O ho2 (by rw [Eh,htl]) (by rw [htl]) O)))))))))
end
end Go.Proofs.YtpolhpjiahbidaaGreatDoor
