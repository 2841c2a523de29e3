import Derived.Test.YtfbomiejpbchdaaGreatDoorPart00
import Derived.Test.YtfbomiejpbchdaaGreatDoorPart06
import Derived.Test.YtfbomiejpbchdaaGreatDoorPart21
import Derived.Test.YtfbomiejpbchdaaGreatDoorPart31
namespace Go.Proofs.YtfbomiejpbchdaaGreatDoor
open Go Go.RowKit Go.Proofs.Tryz
set_option linter.unusedVariables false
set_option linter.unusedSimpArgs false
section
set_option maxRecDepth 100000
theorem SB {ps:List Pt} {ts ss:List T3} (x:MX ps ts ss) (hv:Ly ps ts ss) (w:World) {S:Nat->Prop} (hx:Ro S w x):Calls prog 73 #[(aG (C5 x))] w (Am w (Value.bool true)):=by
 have hp:=hv.pl
 have htl:=hv.tl
 have hsl:=hv.sl
 have h0:=hv.t0
 have lx:=Er (W:=w) hx
 refine BI (args:=[(aG (C5 x))]) (L:=[Ai x.a.p (rowsL Aj ps),Ai x.b.p (rowsL Av ts),Ai x.c.p (rowsL Av ss)]) func73 O O (Ab O) (En hx BW) (AF.subF (sL [0] O) (q4 (Bq (cs:=C5 x) O λb1=>AK O (q3 (sL [1,2] O) ?_))))
 refine AG (v:=(pP b1 0)) (AA O underlying30 O sizeOf28 O) O (BO 0 (Value.slice x.a.p ps.length x.a.c) DV O (AG (v:=(vN ps.length)) (AH O underlying28) O (AK O (q6 (sL [1,2,3] O) (q4 ?_)))))
 refine AG (v:=(pP b1 1)) (AA O underlying30 O sizeOf23 O) O (BO 0 (Value.slice x.b.p ts.length x.b.c) Dn O (AG (v:=(vN ts.length)) (AH O underlying23) O (AO O (AE.nil (AD.subF (sL [1,2,3,12,13,14] O) ?_)))))
 refine AD.then_ (AF.block ?_)
 refine AF.lp1 (tg λ(i:Nat)=>i<=ts.length) (tg λ(i:Nat)=>[(1,(pP b1 0)),(3,(vN ps.length)),(12,(Value.slice x.b.p ts.length x.b.c)),(13,(vN ts.length)),(14,(vN i))]) (tg λ(i:Nat)=>[Ae b1 30 (C5 x),Ai x.a.p (rowsL Aj ps),Ai x.b.p (rowsL Av ts),Ai x.c.p (rowsL Av ss)]) (tg λ(i:Nat)=>ts.length-i) 0 (Nat.zero_le _) (sF O) sr (λi hJ=>?_)
 have hi:=hJ
 refine q4 (AG (Af (c:=(decide (i<ts.length))) O O (C6 (a:=i) (b:=ts.length))) O (AE.nil (q1 ?_)))
 refine AF.cond O (λhc0=>?_) (λhc0=>?_)
 ·replace hc0:=of_decide_eq_true hc0
  obtain ⟨T,hT⟩:∃q,q=ts.getD i (0,0,0):=⟨_,rfl⟩
  obtain ⟨g1,g2,g3⟩:=DW (Cb hv.num hc0)
  have hps:=hv.pos i hc0
  rw [<-hT] at g1 g2 g3 hps
  have z0:B8 (ps.getD T.1 ⟨0,0⟩)<=1000000:=hv.szM _
  have z1:B8 (ps.getD T.2.1 ⟨0,0⟩)<=1000000:=hv.szM _
  have z2:B8 (ps.getD T.2.2 ⟨0,0⟩)<=1000000:=hv.szM _
  refine AF.skip (q1 (AF.block (q4 (AG (v:=(pP (pB x.b.p) (pO x.b.p+i*3))) (AN (j:=i) O O x.b.ok underlying23 sizeOf79 O Z) O (AG (v:=(aG (Av (ts.getD i ((0,0,0):Nat×Nat×Nat))))) (AW (vs:=Av (ts.getD i ((0,0,0):Nat×Nat×Nat))) (i:=2) O O (BB.ne x.b.ok Z) JB (Ar BK _ _ _ Z) (BK _)) O ?_)))))
  refine AE.retell (k:=17) (u:=(aG (Av T))) O (by rw [hT]) (al Lu O λb2=>Au O sizeOf79 O (q6 (sL [1,3,12,13,14,5] O) (C4 [(0,true),(1,true),(2,true),(3,false),(4,true),(5,true),(6,true),(7,true),(8,true),(9,false),(10,true),(11,true),(12,true),(13,true),(14,true),(15,true),(16,false),(17,true),(18,true),(19,true),(20,true),(21,true),(22,true),(23,true),(24,true),(25,true),(26,true),(27,true),(28,true),(29,true),(30,true),(31,true),(32,true),(33,true),(34,true),(35,true),(36,true),(37,true),(38,false),(39,true),(40,true)] sr (Ay (v:=(pP b2 0)) O (AC (j:=0) O O underlying79 sizeOf3 O (by decide) O) ?_))))
  refine Bn 0 (vN T.1) Bs O (Bo O (AS.imp O (ET (args:=[(vN T.1),(vN ps.length)]) (v:=(Value.bool true)) call63 (λw hw=>(by have h9:=B5 T.1 ps.length w;rw [decide_eq_true Z] at h9;exact h9)) O (AS.back sr (Ay O (Ba (c:=false) O O) ?_)))))
  refine Bo O (AS.pas (v:=(pP b2 1)) O (AB O) (AC (j:=1) O O underlying79 sizeOf3 O (by decide) O) O O (AS.pas (v:=(vN T.2.1)) O (AB O) (AM (i:=0) (v:=(vN T.2.1)) O O Bs.a O) O O (AS.pas (v:=(vN ps.length)) O (AB O) (Az O) O O (AS.imp O (AE.call (v:=(Value.bool true)) (AB O) (Aw (args:=[(vN T.2.1),(vN ps.length)]) O O call63) (λw hw=>(by have h9:=B5 T.2.1 ps.length w;rw [decide_eq_true Z] at h9;exact h9)) O (Ab O) ?_)))))
  refine AS.back sr (AS.pas (v:=(Value.bool false)) O (AB O) (Ba (c:=false) O O) O O (Ay (v:=(Value.bool false)) O (AU O O) (Bo O (AS.pas (v:=(pP b2 2)) O (AB O) (AC (j:=2) O O underlying79 sizeOf3 O (by decide) O) O O (AS.pas (v:=(vN T.2.2)) O (AB O) (AM (i:=0) (v:=(vN T.2.2)) O O Bs.a O) O O ?_)))))
  refine AS.pas (v:=(vN ps.length)) O (AB O) (Az O) O O (AS.imp O (AE.call (v:=(Value.bool true)) (AB O) (Aw (args:=[(vN T.2.2),(vN ps.length)]) O O call63) (λw hw=>(by have h9:=B5 T.2.2 ps.length w;rw [decide_eq_true Z] at h9;exact h9)) O (Ab O) (AS.back sr (AS.pas (v:=(Value.bool false)) O (AB O) (Ba (c:=false) O O) O O (Ay (v:=(Value.bool false)) O (AU O O) ?_)))))
  refine Bo O (AS.pas (v:=(pP b1 0)) O (AB O) (AA O underlying30 O sizeOf28 O) O O (AS.pas (v:=(Value.slice x.a.p ps.length x.a.c)) O (AB O) (AM (i:=1) (v:=(Value.slice x.a.p ps.length x.a.c)) O O DV.a O) O O (AS.pas (v:=(pP b2 0)) O (AB O) (AC (j:=0) O O underlying79 sizeOf3 O (by decide) O) O O (AS.pas (v:=(vN T.1)) O (AB O) (AM (i:=0) (v:=(vN T.1)) O O Bs.a O) O O (AS.pas (v:=(pP (pB x.a.p) (pO x.a.p+T.1*10))) O (AB O) (AN (j:=T.1) O O x.a.ok underlying28 sizeOf63 O Z) O O ?_)))))
  refine AS.pas (v:=(aG (Aj (ps.getD T.1 (⟨0,0⟩:Pt))))) O (AB O) (AW (vs:=Aj (ps.getD T.1 (⟨0,0⟩:Pt))) (i:=2) O O (BB.ne x.a.ok Z) BQ (Ar BE _ _ _ Z) (BE _)) O O (AS.pas (v:=(pP b1 0)) O (AB O) (AA O underlying30 O sizeOf28 O) O O (AS.pas (v:=(Value.slice x.a.p ps.length x.a.c)) O (AB O) (AM (i:=1) (v:=(Value.slice x.a.p ps.length x.a.c)) O O DV.a O) O O (AS.pas (v:=(pP b2 1)) O (AB O) (AC (j:=1) O O underlying79 sizeOf3 O (by decide) O) O O (AS.pas (v:=(vN T.2.1)) O (AB O) (AM (i:=0) (v:=(vN T.2.1)) O O Bs.a O) O O (AS.pas (v:=(pP (pB x.a.p) (pO x.a.p+T.2.1*10))) O (AB O) (AN (j:=T.2.1) O O x.a.ok underlying28 sizeOf63 O Z) O O ?_)))))
  refine AS.pas (v:=(aG (Aj (ps.getD T.2.1 (⟨0,0⟩:Pt))))) O (AB O) (AW (vs:=Aj (ps.getD T.2.1 (⟨0,0⟩:Pt))) (i:=2) O O (BB.ne x.a.ok Z) BQ (Ar BE _ _ _ Z) (BE _)) O O (AS.pas (v:=(pP b1 0)) O (AB O) (AA O underlying30 O sizeOf28 O) O O (AS.pas (v:=(Value.slice x.a.p ps.length x.a.c)) O (AB O) (AM (i:=1) (v:=(Value.slice x.a.p ps.length x.a.c)) O O DV.a O) O O (AS.pas (v:=(pP b2 2)) O (AB O) (AC (j:=2) O O underlying79 sizeOf3 O (by decide) O) O O (AS.pas (v:=(vN T.2.2)) O (AB O) (AM (i:=0) (v:=(vN T.2.2)) O O Bs.a O) O O (AS.pas (v:=(pP (pB x.a.p) (pO x.a.p+T.2.2*10))) O (AB O) (AN (j:=T.2.2) O O x.a.ok underlying28 sizeOf63 O Z) O O ?_)))))
  refine AS.pas (v:=(aG (Aj (ps.getD T.2.2 (⟨0,0⟩:Pt))))) O (AB O) (AW (vs:=Aj (ps.getD T.2.2 (⟨0,0⟩:Pt))) (i:=2) O O (BB.ne x.a.ok Z) BQ (Ar BE _ _ _ Z) (BE _)) O O (AS.imp O (AE.call (v:=(vI ((Ag (ps.getD T.1 (⟨0,0⟩:Pt)) (ps.getD T.2.1 (⟨0,0⟩:Pt)) (ps.getD T.2.2 (⟨0,0⟩:Pt))).num.sign))) (AB O) (Aw (args:=[(aG (Aj (ps.getD T.1 (⟨0,0⟩:Pt)))),(aG (Aj (ps.getD T.2.1 (⟨0,0⟩:Pt)))),(aG (Aj (ps.getD T.2.2 (⟨0,0⟩:Pt))))]) O O call117) (λw hw=>Gs (ps.getD T.1 (⟨0,0⟩:Pt)) (ps.getD T.2.1 (⟨0,0⟩:Pt)) (ps.getD T.2.2 (⟨0,0⟩:Pt)) Z w) O (Ab O) (AS.back sr (AS.pas (v:=(Value.bool false)) O (AB O) (CL (c:=false) O O (decide_eq_false (λh9=>h9 hps))) O O (Ay (v:=(Value.bool false)) O (AU O O) ?_)))))
  refine AS.nil (AD.subF (sL [1,3,12,13,14,5,58] O) (AD.then_ (AF.cond_false O (AF.skip (AD.in_normal ?_)))))
  exact AD.then_ (AF.region (AG (AX (c:=((i+1:Nat):Int)) O O (AY (a:=i) (b:=1) Z)) O (AO O (AE.nil (AD.subF (sL [1,3,12,13,14,5] O) (AD.round1 (i+1) Z Z (sF O) (sl sr)))))))
 ·replace hc0:=of_decide_eq_false hc0
  refine AF.exit (AD.then_exit (AD.round1_exit (AD.in_exit (q1 (q4 ?_)))))
  refine AG (v:=(pP b1 2)) (AA O underlying30 O sizeOf24 O) O (BO 0 (Value.slice x.c.p ss.length x.c.c) H6 O (AG (v:=(vN ss.length)) (AH O underlying24) O (AO O (AE.nil (AD.subF (sL [1,3,12,13,14,61,62,63] O) ?_)))))
  refine AD.then_ (AF.block ?_)
  refine AF.lp1 (tg λ(i:Nat)=>i<=ss.length) (tg λ(i:Nat)=>[(1,(pP b1 0)),(3,(vN ps.length)),(61,(Value.slice x.c.p ss.length x.c.c)),(62,(vN ss.length)),(63,(vN i))]) (tg λ(i:Nat)=>[Ae b1 30 (C5 x),Ai x.a.p (rowsL Aj ps),Ai x.b.p (rowsL Av ts),Ai x.c.p (rowsL Av ss)]) (tg λ(i:Nat)=>ss.length-i) 0 (Nat.zero_le _) (sF O) sr (λi hJ=>?_)
  have hi:=hJ
  refine q4 (AG (Af (c:=(decide (i<ss.length))) O O (C6 (a:=i) (b:=ss.length))) O (AE.nil (q1 ?_)))
  refine AF.cond O (λhc2=>?_) (λhc2=>?_)
  ·replace hc2:=of_decide_eq_true hc2
   obtain ⟨sd,hsd⟩:∃q,q=ss.getD i (0,0,0):=⟨_,rfl⟩
   obtain ⟨g1,g2,g3⟩:=hv.sid i hc2
   rw [<-hsd] at g1 g2 g3
   refine AF.skip (q1 (AF.block (q4 (AG (v:=(pP (pB x.c.p) (pO x.c.p+i*3))) (AN (j:=i) O O x.c.ok underlying24 sizeOf43 O Z) O (AG (v:=(aG (Av (ss.getD i ((0,0,0):Nat×Nat×Nat))))) (AW (vs:=Av (ss.getD i ((0,0,0):Nat×Nat×Nat))) (i:=3) O O (BB.ne x.c.ok Z) US (Ar BK _ _ _ Z) (BK _)) O ?_)))))
   refine AE.retell (k:=66) (u:=(aG (Av sd))) O (by rw [hsd]) (al V5 O λb2=>Au O sizeOf43 O (q3 (sL [1,3,61,62,63,7] O) (AG (v:=(pP b2 0)) (AA O underlying43 O sizeOf3 O) O (BO 0 (vN sd.1) Bs O ?_))))
   refine AO O (ET (args:=[(vN sd.1),(vN ps.length)]) (v:=(Value.bool true)) call63 (λw hw=>(by have h9:=B5 sd.1 ps.length w;rw [decide_eq_true Z] at h9;exact h9)) O (AG (Ba (c:=false) O O) O (AO O (AE.step (v:=(pP b2 1)) (AB O) (AA O underlying43 O sizeOf3 O) O (Ab O) (AE.step (v:=(vN sd.2.1)) (AB O) (AM (i:=0) (v:=(vN sd.2.1)) O O Bs.a O) O (Ab O) ?_)))))
   refine AE.step (v:=(vN ps.length)) (AB O) (Az O) O (Ab O) (AE.call (v:=(Value.bool true)) (AB O) (Aw (args:=[(vN sd.2.1),(vN ps.length)]) O O call63) (λw hw=>(by have h9:=B5 sd.2.1 ps.length w;rw [decide_eq_true Z] at h9;exact h9)) O (Ab O) (AE.step (v:=(Value.bool false)) (AB O) (Ba (c:=false) O O) O (Ab O) (AG (v:=(Value.bool false)) (AU O O) O (AO O (AE.step (v:=(pP b2 2)) (AB O) (AA O underlying43 O sizeOf3 O) O (Ab O) ?_)))))
   refine AE.step (v:=(vN sd.2.2)) (AB O) (AM (i:=0) (v:=(vN sd.2.2)) O O Bs.a O) O (Ab O) (AE.step (v:=(Value.bool false)) (AB O) (Af (c:=false) O O (decide_eq_false Z)) O (Ab O) (AG (v:=(Value.bool false)) (AU O O) O (AO O (AE.step (v:=(pP b2 2)) (AB O) (AA O underlying43 O sizeOf3 O) O (Ab O) (AE.step (v:=(vN sd.2.2)) (AB O) (AM (i:=0) (v:=(vN sd.2.2)) O O Bs.a O) O (Ab O) ?_)))))
   refine AE.step (v:=(Value.bool false)) (AB O) (Cx (c:=false) O O (decide_eq_false Z)) O (Ab O) (AG (v:=(Value.bool false)) (AU O O) O (AE.nil (AD.subF (sL [1,3,61,62,63,7,88] O) (AD.then_ (AF.cond_false O ?_)))))
   refine AF.skip (AD.in_normal (AD.then_ (AF.region (AG (AX (c:=((i+1:Nat):Int)) O O (AY (a:=i) (b:=1) Z)) O (AO O ?_)))))
   exact AE.nil (AD.subF (sL [1,3,61,62,63,7] O) (AD.round1 (i+1) Z Z (sF O) (sl sr)))
  ·replace hc2:=of_decide_eq_false hc2
   refine AF.exit (AD.then_exit (AD.round1_exit (AD.in_exit (q2 (AG (v:=(pP b1 1)) (AA O underlying30 O sizeOf23 O) O ?_)))))
   refine BO 0 (Value.slice x.b.p ts.length x.b.c) Dn O (AG (v:=(vN ts.length)) (AH O underlying23) O (AG (Cx (c:=true) O O (decide_eq_true Z)) O (AK O (AE.nil (AD.subF (sL [1,3,61,62,63,2] O) ?_)))))
   exact AD.then_ (AF.ret (AP O (Ad (v:=(Value.bool true)) O) (λw hw=>⟨rfl,hw.out⟩)))
theorem Uo (a b c p:Pt) (hs:B8 a+B8 b+B8 c+B8 p<=268435456) (w:World):Calls prog 24 #[aG (Aj a),aG (Aj b),aG (Aj c),aG (Aj p)] w (Am w (vN (M_ a b c p))):=by
 unfold M_
 by_cases h:Ag a b c=0
 ·rw [if_pos h];exact Of a b c p hs h w
 ·rw [if_neg h];exact RS a b c p hs h w
set_option maxHeartbeats 1000000 in
theorem Rw {ps:List Pt} {ts ss:List T3} (x:MX ps ts ss) (hv:Ly ps ts ss) (w:World) {S:Nat->Prop} (hx:Ro S w x):Calls prog 75 #[(aG (C5 x))] w (Am w (Value.bool true)):=by
 have hp:=hv.pl
 have htl:=hv.tl
 have hsl:=hv.sl
 have h0:=hv.t0
 have hq:∀t:T3,B8 (Bi ps t).1<=1000000/\B8 (Bi ps t).2.1<=1000000/\B8 (Bi ps t).2.2<=1000000:=λt=>⟨hv.szM _,hv.szM _,hv.szM _⟩
 have lx:=Er (W:=w) hx
 refine BI (args:=[(aG (C5 x))]) (L:=[Ai x.a.p (rowsL Aj ps),Ai x.b.p (rowsL Av ts),Ai x.c.p (rowsL Av ss)]) func75 O O (Ab O) (En hx BW) (AF.subF (sL [0] O) (q4 (Bq (cs:=C5 x) O λb1=>AK O (q6 (sL [1,2] O) ?_))))
 refine q4 (AG (v:=(pP b1 1)) (AA O underlying30 O sizeOf23 O) O (BO 0 (Value.slice x.b.p ts.length x.b.c) Dn O (AG (v:=(vN ts.length)) (AH O underlying23) O (AO O (AE.nil ?_)))))
 refine AD.subF (sL [1,2,11,12] O) (AD.then_ (AF.block ?_))
 refine AF.lp1 (tg λ(i:Nat)=>i<=ts.length) (tg λ(i:Nat)=>[(1,(pP b1 0)),(11,(vN ts.length)),(12,(vN i))]) (tg λ(i:Nat)=>[Ae b1 30 (C5 x),Ai x.a.p (rowsL Aj ps),Ai x.b.p (rowsL Av ts),Ai x.c.p (rowsL Av ss)]) (tg λ(i:Nat)=>ts.length-i) 0 (Nat.zero_le _) (sF O) sr (λi hJ=>?_)
 have hi:=hJ
 refine q4 (AG (Af (c:=(decide (i<ts.length))) O O (C6 (a:=i) (b:=ts.length))) O (AE.nil (q1 ?_)))
 refine AF.cond O (λhc0=>?_) (λhc0=>?_)
 ·replace hc0:=of_decide_eq_true hc0
  refine AF.skip (q1 (AF.block (q4 (AO O (AK O ?_)))))
  refine q3 (sL [1,11,12,3] O) (BD 0 EO O (AO O (ET call123 (λw hw=>I7 x i Z Z Z (Cb hv.num Z) w (ER hw 1 O lx)) O (al P4 O λb2=>Au O sizeOf201 O ?_))))
  refine q6 (sL [1,11,12,3,4] O) (q4 (AO O (AO O (AE.nil (AD.then_ ?_)))))
  refine AF.block ?_
  refine AF.lp1 (tg λ(k:Nat)=>k<=i) (tg λ(k:Nat)=>[(1,(pP b1 0)),(11,(vN ts.length)),(12,(vN i)),(3,(vN i)),(4,(pP b2 0)),(18,(vN i)),(19,(vN k))]) (tg λ(k:Nat)=>[Ae b2 201 (Ge (Bi ps (ts.getD i (0,0,0)))),Ae b1 30 (C5 x),Ai x.a.p (rowsL Aj ps),Ai x.b.p (rowsL Av ts),Ai x.c.p (rowsL Av ss)]) (tg λ(k:Nat)=>i-k) 0 (Nat.zero_le _) (sF O) sr (λk hJ=>?_)
  have hk:=hJ
  refine q4 (AG (Af (c:=(decide (k<i))) O O (C6 (a:=k) (b:=i))) O (AE.nil (q1 ?_)))
  refine AF.cond O (λhc1=>?_) (λhc1=>?_)
  ·replace hc1:=of_decide_eq_true hc1
   refine AF.skip (q1 (AF.block (q4 (AO O (AK O ?_)))))
   refine q3 (sL [1,11,12,3,4,18,19,5] O) (BD 1 EO O (AO O (ET call123 (λw hw=>I7 x k Z Z Z (Cb hv.num Z) w (ER hw 2 O lx)) O (al P4 O λb3=>Au O sizeOf201 O ?_))))
   refine q3 (sL [1,11,12,3,4,18,19,6] O) (BD 1 Jq O (BD 0 Jq O (BV call124 (QA (Bi ps (ts.getD i (0,0,0))) (Bi ps (ts.getD k (0,0,0))) (hq _) (hq _)) O (AG (Ba (c:=(!(Dp (Bi ps (ts.getD i (0,0,0))) (Bi ps (ts.getD k (0,0,0)))))) O O) O (AO O ?_)))))
   refine AE.mid (FM:=[(1,(pP b1 0)),(11,(vN ts.length)),(12,(vN i)),(3,(vN i)),(4,(pP b2 0)),(18,(vN i)),(19,(vN k)),(6,(pP b3 0)),(25,(aG (Ge (Bi ps (ts.getD i (0,0,0)))))),(26,(aG (Ge (Bi ps (ts.getD k (0,0,0)))))),(27,(Value.bool (Dp (Bi ps (ts.getD i (0,0,0))) (Bi ps (ts.getD k (0,0,0)))))),(28,(Value.bool (!(Dp (Bi ps (ts.getD i (0,0,0))) (Bi ps (ts.getD k (0,0,0))))))),(29,(Value.bool (!(Dp (Bi ps (ts.getD i (0,0,0))) (Bi ps (ts.getD k (0,0,0))))))),(34,(Value.bool ((!(Dp (Bi ps (ts.getD i (0,0,0))) (Bi ps (ts.getD k (0,0,0)))))&&(!(Dp (Bi ps (ts.getD k (0,0,0))) (Bi ps (ts.getD i (0,0,0))))))))]) (LM:=[Ae b3 201 (Ge (Bi ps (ts.getD k (0,0,0)))),Ae b2 201 (Ge (Bi ps (ts.getD i (0,0,0)))),Ae b1 30 (C5 x),Ai x.a.p (rowsL Aj ps),Ai x.b.p (rowsL Av ts),Ai x.c.p (rowsL Av ss)]) 5 ?_ ?_
   ·rcases Bool.eq_false_or_eq_true (!(Dp (Bi ps (ts.getD i (0,0,0))) (Bi ps (ts.getD k (0,0,0))))) with hg1|hg1
    ·skip
     refine AE.retell (k:=29) (u:=Value.bool true) O (by rw [hg1]) ?_
     have hg1':=hg1
     simp only [Bool.and_eq_true,Bool.or_eq_true,Bool.and_eq_false_iff,Bool.or_eq_false_iff,Bool.not_eq_true',Bool.not_eq_false',decide_eq_true_eq,decide_eq_false_iff_not] at hg1'
     exact AE.step (v:=(aG (Ge (Bi ps (ts.getD k (0,0,0)))))) (AB O) (Al (i:=0) (vs:=Ge (Bi ps (ts.getD k (0,0,0)))) O O Jq.a Jq.s O O) O (Ab O) (AE.step (v:=(aG (Ge (Bi ps (ts.getD i (0,0,0)))))) (AB O) (Al (i:=1) (vs:=Ge (Bi ps (ts.getD i (0,0,0)))) O O Jq.a Jq.s O O) O (Ab O) (AE.call (v:=(Value.bool (Dp (Bi ps (ts.getD k (0,0,0))) (Bi ps (ts.getD i (0,0,0)))))) (AB O) (Aw (args:=[(aG (Ge (Bi ps (ts.getD k (0,0,0))))),(aG (Ge (Bi ps (ts.getD i (0,0,0)))))]) O O call124) (λw hw=>QA (Bi ps (ts.getD k (0,0,0))) (Bi ps (ts.getD i (0,0,0))) (hq _) (hq _) w) O (Ab O) (AE.step (v:=(Value.bool (!(Dp (Bi ps (ts.getD k (0,0,0))) (Bi ps (ts.getD i (0,0,0))))))) (AB O) (Ba (c:=(!(Dp (Bi ps (ts.getD k (0,0,0))) (Bi ps (ts.getD i (0,0,0)))))) O O) O (Ab O) (AG (v:=(Value.bool (!(Dp (Bi ps (ts.getD k (0,0,0))) (Bi ps (ts.getD i (0,0,0))))))) (Ah O O) O (AE.nil (AD.mid (sS O (sS O (sS O (sS O (sS O (sS O (sS O (sS O (sS O (sS O (sS O (sS O (sS (by first|rfl|(rw [hg1];rfl)|rw [hg1]) (sS (by first|rfl|(rw [hg1];rfl)|rw [hg1]) (sN))))))))))))))) (List.Sublist.refl _)))))))
    ·skip
     refine AE.retell (k:=29) (u:=Value.bool false) O (by rw [hg1]) ?_
     have hg1':=hg1
     simp only [Bool.and_eq_true,Bool.or_eq_true,Bool.and_eq_false_iff,Bool.or_eq_false_iff,Bool.not_eq_true',Bool.not_eq_false',decide_eq_true_eq,decide_eq_false_iff_not] at hg1'
     exact AE.skip (AR O) O (Ab O) (AE.skip (AR O) O (Ab O) (AE.skip (AR O) O (Ab O) (AE.skip (AR O) O (Ab O) (AG (v:=(Value.bool false)) (AU O O) O (AE.nil (AD.mid (sS O (sS O (sS O (sS O (sS O (sS O (sS O (sS O (sS O (sS O (sS O (sS O (sS (by first|rfl|(rw [hg1];rfl)|rw [hg1]) (sS (by first|rfl|(rw [hg1];rfl)|rw [hg1]) (sN))))))))))))))) (List.Sublist.refl _)))))))
   refine AE.nil (AD.subF (sL [1,11,12,3,4,18,19,6,34] O) (AD.then_ ?_))
   refine AF.cond O (λhc2=>?_) (λhc2=>?_)
   ·simp only [Bool.and_eq_true,Bool.or_eq_true,Bool.and_eq_false_iff,Bool.or_eq_false_iff,Bool.not_eq_true',Bool.not_eq_false',decide_eq_true_eq,decide_eq_false_iff_not] at hc2
    have h9:=hv.apart i k Z Z;rw [hc2.1,hc2.2] at h9;cases h9
   ·simp only [Bool.and_eq_true,Bool.or_eq_true,Bool.and_eq_false_iff,Bool.or_eq_false_iff,Bool.not_eq_true',Bool.not_eq_false',decide_eq_true_eq,decide_eq_false_iff_not] at hc2
    refine AF.skip (AD.in_normal (AD.then_ (AF.region (AG (AX (c:=((k+1:Nat):Int)) O O (AY (a:=k) (b:=1) Z)) O (AO O ?_)))))
    exact AE.nil (AD.subF (sL [1,11,12,3,4,18,19,6] O) (AD.round1 (k+1) Z Z (sF O) (sl sr)))
  ·replace hc1:=of_decide_eq_false hc1
   refine AF.exit (AD.then_exit (AD.round1_exit (AD.in_exit (q2 (AG (v:=(pP b1 0)) (AA O underlying30 O sizeOf28 O) O ?_)))))
   refine BO 1 (Value.slice x.a.p ps.length x.a.c) DV O (AG (v:=(vN ps.length)) (AH O underlying28) O (AO O (AE.nil (AD.subF (sL [1,11,12,3,4,18,19,37,38,39] O) (AD.then_ ?_)))))
   refine AF.block ?_
   refine AF.lp1 (tg λ(p:Nat)=>p<=ps.length) (tg λ(p:Nat)=>[(1,(pP b1 0)),(11,(vN ts.length)),(12,(vN i)),(3,(vN i)),(4,(pP b2 0)),(37,(Value.slice x.a.p ps.length x.a.c)),(38,(vN ps.length)),(39,(vN p))]) (tg λ(p:Nat)=>[Ae b2 201 (Ge (Bi ps (ts.getD i (0,0,0)))),Ae b1 30 (C5 x),Ai x.a.p (rowsL Aj ps),Ai x.b.p (rowsL Av ts),Ai x.c.p (rowsL Av ss)]) (tg λ(p:Nat)=>ps.length-p) 0 (Nat.zero_le _) (sF O) sr (λp hJ=>?_)
   have hp:=hJ
   refine q4 (AG (Af (c:=(decide (p<ps.length))) O O (C6 (a:=p) (b:=ps.length))) O (AE.nil (q1 ?_)))
   refine AF.cond O (λhc3=>?_) (λhc3=>?_)
   ·replace hc3:=of_decide_eq_true hc3
    refine AF.skip (q1 (AF.block (q4 (AO O (AG (v:=(pP (pB x.a.p) (pO x.a.p+p*10))) (AN (j:=p) O O x.a.ok underlying28 sizeOf63 O Z) O ?_)))))
    refine AG (v:=(aG (Aj (ps.getD p (⟨0,0⟩:Pt))))) (AW (vs:=Aj (ps.getD p (⟨0,0⟩:Pt))) (i:=2) O O (BB.ne x.a.ok Z) BQ (Ar BE _ _ _ Z) (BE _)) O (al F6 O λb3=>AK O (Au O sizeOf63 O (q3 (sL [1,11,12,3,4,37,38,39,8,7] O) (AG (v:=(pP b1 1)) (AA O underlying30 O sizeOf23 O) O ?_))))
    refine BO 2 (Value.slice x.b.p ts.length x.b.c) Dn O (AO O (AG (v:=(pP (pB x.b.p) (pO x.b.p+i*3))) (AN (j:=i) O O x.b.ok underlying23 sizeOf79 O Z) O (AG (v:=(Value.slice (some ⟨(pB x.b.p),pO x.b.p+i*3,none⟩) 3 3)) (Kp O underlying79 sizeOf3 (by decide)) O (AO O (ET call61 (λw hw=>Pl (ts.getD i (0,0,0)) p ⟨some ⟨pB x.b.p,pO x.b.p+i*3,none⟩,3,Tx _ _⟩ w (Th (SM (ER hw 3 O lx)) Z _)) O ?_)))))
    refine AG (Ba (c:=(!(El (ts.getD i (0,0,0)) p))) O O) O (AO O ?_)
    refine AE.mid (FM:=[(1,(pP b1 0)),(11,(vN ts.length)),(12,(vN i)),(3,(vN i)),(4,(pP b2 0)),(37,(Value.slice x.a.p ps.length x.a.c)),(38,(vN ps.length)),(39,(vN p)),(8,(pP b3 0)),(7,(vN p)),(44,(pP b1 1)),(45,(Value.slice x.b.p ts.length x.b.c)),(46,(vN i)),(47,(pP (pB x.b.p) (pO x.b.p+i*3))),(48,(Value.slice (some ⟨(pB x.b.p),pO x.b.p+i*3,none⟩) 3 3)),(49,(vN p)),(50,(Value.bool (El (ts.getD i (0,0,0)) p))),(51,(Value.bool (!(El (ts.getD i (0,0,0)) p)))),(52,(Value.bool (!(El (ts.getD i (0,0,0)) p)))),(62,(Value.bool ((!(El (ts.getD i (0,0,0)) p))&&false)))]) (LM:=[Ae b3 63 (Aj (ps.getD p (⟨0,0⟩:Pt))),Ae b2 201 (Ge (Bi ps (ts.getD i (0,0,0)))),Ae b1 30 (C5 x),Ai x.a.p (rowsL Aj ps),Ai x.b.p (rowsL Av ts),Ai x.c.p (rowsL Av ss)]) 10 ?_ ?_
    ·rcases Bool.eq_false_or_eq_true (!(El (ts.getD i (0,0,0)) p)) with hg2|hg2
     ·skip
      refine AE.retell (k:=52) (u:=Value.bool true) O (by rw [hg2]) ?_
      have hg2':=hg2
      simp only [Bool.and_eq_true,Bool.or_eq_true,Bool.and_eq_false_iff,Bool.or_eq_false_iff,Bool.not_eq_true',Bool.not_eq_false',decide_eq_true_eq,decide_eq_false_iff_not] at hg2'
      refine AE.step (v:=(pP b2 0)) (AB O) (AC (j:=0) O O underlying201 sizeOf63 O (by decide) O) O (Ab O) (AE.step (v:=(aG (Aj ((Bi ps (ts.getD i (0,0,0))).1)))) (AB O) (Al (i:=1) (vs:=Aj ((Bi ps (ts.getD i (0,0,0))).1)) O O BQ.a BQ.s O O) O (Ab O) (AE.step (v:=(pP b2 10)) (AB O) (AC (j:=1) O O underlying201 sizeOf63 O (by decide) O) O (Ab O) (AE.step (v:=(aG (Aj ((Bi ps (ts.getD i (0,0,0))).2.1)))) (AB O) (Al (i:=1) (vs:=Aj ((Bi ps (ts.getD i (0,0,0))).2.1)) O O BQ.a BQ.s O O) O (Ab O) (AE.step (v:=(pP b2 20)) (AB O) (AC (j:=2) O O underlying201 sizeOf63 O (by decide) O) O (Ab O) (AE.step (v:=(aG (Aj ((Bi ps (ts.getD i (0,0,0))).2.2)))) (AB O) (Al (i:=1) (vs:=Aj ((Bi ps (ts.getD i (0,0,0))).2.2)) O O BQ.a BQ.s O O) O (Ab O) ?_)))))
      exact AE.step (v:=(aG (Aj (ps.getD p (⟨0,0⟩:Pt))))) (AB O) (Al (i:=0) (vs:=Aj (ps.getD p (⟨0,0⟩:Pt))) O O BQ.a BQ.s O O) O (Ab O) (AE.call (v:=(vN (NO ps (ps.getD p ⟨0,0⟩) (ts.getD i (0,0,0))))) (AB O) (Aw (args:=[(aG (Aj ((Bi ps (ts.getD i (0,0,0))).1))),(aG (Aj ((Bi ps (ts.getD i (0,0,0))).2.1))),(aG (Aj ((Bi ps (ts.getD i (0,0,0))).2.2))),(aG (Aj (ps.getD p (⟨0,0⟩:Pt))))]) O O call24) (λw hw=>Uo ((Bi ps (ts.getD i (0,0,0))).1) ((Bi ps (ts.getD i (0,0,0))).2.1) ((Bi ps (ts.getD i (0,0,0))).2.2) (ps.getD p ⟨0,0⟩) (by have z1:=hq (ts.getD i (0,0,0));have z2:B8 (ps.getD p ⟨0,0⟩)<=1000000:=hv.szM p;omega) w) O (Ab O) (AE.step (v:=(Value.bool false)) (AB O) (CL (c:=false) O O (decide_eq_false (by have h8:=hv.crn i p Z Z hg2';unfold CG at h8;omega))) O (Ab O) (AG (v:=(Value.bool false)) (Ah O O) O (AE.nil (AD.mid (sS O (sS O (sS O (sS O (sS O (sS O (sS O (sS O (sS O (sS O (sS O (sS O (sS O (sS O (sS O (sS O (sS O (sS O (sS (by first|rfl|(rw [hg2];rfl)|rw [hg2]) (sS (by first|rfl|(rw [hg2];rfl)|rw [hg2]) (sN))))))))))))))))))))) (List.Sublist.refl _))))))
     ·skip
      refine AE.retell (k:=52) (u:=Value.bool false) O (by rw [hg2]) ?_
      have hg2':=hg2
      simp only [Bool.and_eq_true,Bool.or_eq_true,Bool.and_eq_false_iff,Bool.or_eq_false_iff,Bool.not_eq_true',Bool.not_eq_false',decide_eq_true_eq,decide_eq_false_iff_not] at hg2'
      refine AE.skip (AR O) O (Ab O) (AE.skip (AR O) O (Ab O) (AE.skip (AR O) O (Ab O) (AE.skip (AR O) O (Ab O) (AE.skip (AR O) O (Ab O) (AE.skip (AR O) O (Ab O) ?_)))))
      exact AE.skip (AR O) O (Ab O) (AE.skip (AR O) O (Ab O) (AE.skip (AR O) O (Ab O) (AG (v:=(Value.bool false)) (AU O O) O (AE.nil (AD.mid (sS O (sS O (sS O (sS O (sS O (sS O (sS O (sS O (sS O (sS O (sS O (sS O (sS O (sS O (sS O (sS O (sS O (sS O (sS (by first|rfl|(rw [hg2];rfl)|rw [hg2]) (sS (by first|rfl|(rw [hg2];rfl)|rw [hg2]) (sN))))))))))))))))))))) (List.Sublist.refl _))))))
    refine AE.nil (AD.subF (sL [1,11,12,3,4,37,38,39,8,62] O) (AD.then_ ?_))
    refine AF.cond O (λhc4=>?_) (λhc4=>?_)
    ·simp only [Bool.and_eq_true,Bool.or_eq_true,Bool.and_eq_false_iff,Bool.or_eq_false_iff,Bool.not_eq_true',Bool.not_eq_false',decide_eq_true_eq,decide_eq_false_iff_not] at hc4
     simp at hc4
    ·simp only [Bool.and_eq_true,Bool.or_eq_true,Bool.and_eq_false_iff,Bool.or_eq_false_iff,Bool.not_eq_true',Bool.not_eq_false',decide_eq_true_eq,decide_eq_false_iff_not] at hc4
     refine AF.skip (AD.in_normal (AD.then_ (AF.region (AG (AX (c:=((p+1:Nat):Int)) O O (AY (a:=p) (b:=1) Z)) O (AO O ?_)))))
     exact AE.nil (AD.subF (sL [1,11,12,3,4,37,38,39,8] O) (AD.round1 (p+1) Z Z (sF O) (sl sr)))
   ·replace hc3:=of_decide_eq_false hc3
    refine AF.exit (AD.then_exit (AD.round1_exit (AD.in_exit (AD.in_normal (AD.then_ ?_)))))
    exact AF.region (AG (AX (c:=((i+1:Nat):Int)) O O (AY (a:=i) (b:=1) Z)) O (AO O (AE.nil (AD.subF (sL [1,11,12,3,4,37,38,39] O) (AD.round1 (i+1) Z Z (sF O) (sl sr))))))
 ·replace hc0:=of_decide_eq_false hc0
  refine AF.exit (AD.then_exit (AD.round1_exit (AD.in_exit (q2 (AK O ?_)))))
  exact AE.nil (AD.then_ (AF.ret (AP O (Ad (v:=(Value.bool true)) O) (λw hw=>⟨rfl,hw.out⟩))))
end
section
set_option maxRecDepth 100000
theorem TP (x y:Pt) (hx:B8 x<=1000) (hy:B8 y<=1000) (w:World)  :Calls prog 120 #[(aG (Aj x)),(aG (Aj y))] w (Am w (vI (LX x y))):=by
 refine Ac (args:=[(aG (Aj x)),(aG (Aj y))]) func120 O O (Ab O) (AF.subF (sL [0,1] O) (q4 (Bq (cs:=Aj x) O λb1=>Bq (cs:=Aj y) O λb2=>AK O ?_)))
 refine q6 (sL [2,3,4] O) (AF.block (q4 (BD 1 BQ O (BD 0 BQ O (BV call121 (KW x y (by assumption) (by assumption)) O ?_)))))
 refine AK O (AE.nil (AD.subF (sL [2,3,4,5] O) (AD.then_ ?_)))
 refine AF.cond O (λhc0=>?_) (λhc0=>?_)
 ·replace hc0:=of_decide_eq_true hc0
  refine q4 (AK O (AE.nil (AD.then_ (AF.ret (AD.in_ret ?_)))))
  exact AD.then_ret (AP O (Ad (v:=(vI (-1:Int))) O) (λw hw=>⟨by unfold LX;rw [if_pos hc0],hw.out⟩))
 ·replace hc0:=of_decide_eq_false hc0
  refine q4 (BD 0 BQ O (BD 1 BQ O (BV call121 (KW y x (by assumption) (by assumption)) O (AK O (AE.nil ?_)))))
  refine AD.subF (sL [2,3,4,9] O) (AD.then_ ?_)
  refine AF.cond O (λhc1=>?_) (λhc1=>?_)
  ·replace hc1:=of_decide_eq_true hc1
   refine q4 (AK O (AE.nil (AD.then_ (AF.ret (AD.in_ret ?_)))))
   exact AD.then_ret (AP O (Ad (v:=(vI 1)) O) (λw hw=>⟨by unfold LX;rw [if_neg hc0,if_pos hc1],hw.out⟩))
  ·replace hc1:=of_decide_eq_false hc1
   refine AF.skip (AD.in_normal (q2 (AK O (AE.nil (AD.then_ ?_)))))
   exact AF.ret (AP O (Ad (v:=(vI 0)) O) (λw hw=>⟨by unfold LX;rw [if_neg hc0,if_neg hc1],hw.out⟩))
end
section
abbrev Ur:={ p:Pt // B8 p<=1000 }
instance:Inhabited Ur:=⟨⟨⟨0,0⟩,by decide⟩⟩
theorem WO:∀xs:List Pt,(∀x∈xs,B8 x<=1000)->∃ds:List Ur,ds.map (·.1)=xs
  | [],_=>⟨[],rfl⟩
  | x::r,h=>by
    obtain ⟨ds,e⟩:=WO r λy hy=>h y (List.mem_cons_of_mem _ hy)
    exact ⟨⟨x,h x List.mem_cons_self⟩::ds,by rw [List.map_cons,e]⟩
def Jl (x:Ur):List Value:=Aj x.1
def VL (x y:Ur):Int:=LX x.1 y.1
theorem WG:Go.Sort.SWO (ltOf VL) where
  irrefl x:=decide_eq_false (by unfold VL;rw [Ey];unfold Rc;grind)
  trans x y z h1 h2:=by
    have h1:=Ey.1 (of_decide_eq_true h1)
    have h2:=Ey.1 (of_decide_eq_true h2)
    refine decide_eq_true (Ey.2 ?_)
    unfold Rc at *
    grind
  ntrans x y z h1 h2:=by
    have h1:¬LX x.1 y.1<0:=of_decide_eq_false h1
    have h2:¬LX y.1 z.1<0:=of_decide_eq_false h2
    rw [Ey] at h1 h2
    refine decide_eq_false ?_
    unfold VL
    rw [Ey]
    unfold Rc at *
    grind
theorem VQ (Ae off size:Nat) (w:World):CmpLays prog 120 #[] Jl 10 VL Ae off size w:=λm os dk _ x y=>by
  rw [Array.append_empty]
  exact (TP x.1 y.1 x.2 y.2 _).mono λe w' h=>⟨h.1,N7 h.2⟩
theorem KC {d:Array Ur} {t:Nat} (h:t<d.size*10):(rowsL Aj (d.toList.map (·.1)))[t]?=some (Go.Sort.flatK Jl 10 d)[t]!:=by
  rw [Go.Sort.get_flatK _ _ _ _ h]
  have h1:t/10<d.size:=by omega
  have h2:=BP BE (⟨0,0⟩:Pt) (d.toList.map (·.1)) (t/10) (t%10) (by simpa using h1) (Nat.mod_lt _ (by decide)) (v:=(Jl d[t/10]!)[t%10]!) (by
    rw [List.getD,List.getElem?_map,show d.toList[t/10]?=some d[t/10] from by simp [h1],getElem!_pos d (t/10) h1]
    show (Aj (d[t/10]).1)[t%10]?=some (Aj (d[t/10]).1)[t%10]!
    have hl:t%10<(Aj (d[t/10]).1).length:=by rw [BE];exact Nat.mod_lt _ (by decide)
    rw [List.getElem?_eq_getElem hl,getElem!_pos (Aj (d[t/10]).1) (t%10) hl])
  rw [show t/10*10+t%10=t by omega] at h2
  exact h2
theorem TS (x:Ur):∀v∈Jl x,v.oneCell'=true:=λv hv=>by
  unfold Jl Aj AI at hv
  simp only [List.mem_cons,List.mem_append,List.not_mem_nil,or_false] at hv
  rcases hv with (rfl|rfl|rfl|rfl|rfl)|(rfl|rfl|rfl|rfl|rfl)<;>rfl
theorem Pg (xs:List Pt) (p:Option Addr) (n c:Nat) (T:TypeId) (ho:OwnOk p n c) (hp0:p≠none) (hn:n=xs.length) (hN:n<4611686018427387904) (hb:∀x∈xs,B8 x<=1000) (w:World) (hrow:∀b,p.map (·.block)=some b->∃o,w.heap[b]?=some o/\(rowW p T 10 n c (rowsL Aj xs)).P o) :
    Calls prog 119 #[.slice p n c,.func (.func 120) #[] #[]] w λe w'=>e=.returned (.tuple #[])/\J2 w w' (p.map (·.block))/\∃ys:List Pt,ys.Perm xs/\∀b,p.map (·.block)=some b->∃o,w'.heap[b]?=some o/\(rowW p T 10 n c (rowsL Aj ys)).P o:=by
  cases hp:p with
  | none=>exact absurd hp hp0
  | some a =>
    subst hp
    obtain ⟨o,hob,cur,rfl,hsz,hcur⟩:=hrow a.block rfl
    have hat:=ho.at0 a rfl
    have hle:=ho.le
    obtain ⟨ds,hds⟩:=WO xs hb
    have hdl:ds.length=n:=by rw [hn,<-hds,List.length_map]
    obtain ⟨d,hd⟩:∃d,d=ds.toArray:=⟨_,rfl⟩
    have hdz:d.size=n:=by rw [hd];simpa using hdl
    have hdx:d.toList.map (·.1)=xs:=by rw [hd];exact hds
    have hH:Go.Sort.HoldsK Jl 10 w a.block 0 d:=λj hj=>by
      have hj':j<d.size*10:=by simpa using hj
      refine ⟨?_,by simp [World.frozen?,hob]⟩
      have h1:(cur.toList.take (n*10))[j]?=(rowsL Aj xs)[j]?:=by rw [hcur]
      rw [List.getElem?_take_of_lt Z,Array.getElem?_toList,<-hdx,KC hj'] at h1
      show w.cell? ⟨a.block,0+j,none⟩=some (id (Go.Sort.flatK Jl 10 d)[j]!)
      unfold World.cell?
      simp only [hob,Nat.zero_add]
      exact h1
    have hlt:a.block<w.heap.size:=by
      rcases Nat.lt_or_ge a.block w.heap.size with h|h
      · exact h
      · rw [Array.getElem?_eq_none h] at hob;cases hob
    have h:=Tryz.slices_SortFunc_Point 10 isAgg63 sizeOf63 Jl (λx=>BE x.1) TS VL WG 120 #[] a.block 0 c d w call120 (VQ a.block 0 d.size w) hH hlt Z
    rw [hdz] at h
    rw [hat]
    refine h.mono ?_
    rintro e w' ⟨rfl,d',m,os,⟨hz',_,hperm⟩,_,rfl⟩
    have hz2:d'.size=n:=by rw [hz',hdz]
    have hperm':d'.toList.Perm d.toList:=by
      have e1:d'.extract 0 n=d':=by rw [<-hz2];exact Array.extract_size
      have e2:d.extract 0 n=d:=by rw [<-hdz];exact Array.extract_size
      rw [e1,e2] at hperm
      exact hperm
    have hF:(Go.Sort.flatK Jl 10 d').size=n*10:=by rw [Go.Sort.size_flatK,hz2]
    refine ⟨rfl,⟨⟨rfl,rfl,rfl,by simp [sortWorldK,Go.Sort.grow,Go.Sort.putRowK,Go.Sort.putRow,Go.Sort.mapBlock,Go.Sort.ahead],λj hj hne=>?_⟩,by show w.drawn<=w.drawn+m;omega⟩,d'.toList.map (·.1),by rw [<-hdx];exact hperm'.map _,λb e=>?_⟩
    · have hne':a.block≠j:=λe=>hne (by rw [e];rfl)
      unfold sortWorldK
      rw [Go.Sort.heap_grow_old _ _ (by simpa [Go.Sort.putRowK,Go.Sort.putRow,Go.Sort.mapBlock,Go.Sort.ahead] using hj)]
      simp [Go.Sort.putRowK,Go.Sort.putRow,Go.Sort.mapBlock,Go.Sort.ahead,Array.getElem?_modify,hne']
    · injection e with e
      subst e
      refine ⟨.cells (Go.Sort.putCells id 0 (Go.Sort.flatK Jl 10 d') cur) T (0,0),?_,_,rfl,by simp [Go.Sort.putCells,hsz],?_⟩
      · unfold sortWorldK
        rw [Go.Sort.heap_grow_old _ _ (by simpa [Go.Sort.putRowK,Go.Sort.putRow,Go.Sort.mapBlock,Go.Sort.ahead] using hlt)]
        simp [Go.Sort.putRowK,Go.Sort.putRow,Go.Sort.mapBlock,Go.Sort.ahead,Array.getElem?_modify,hob,Go.Sort.onCells]
      · apply List.ext_getElem?
        intro j
        have hlen:(rowsL Aj (d'.toList.map (·.1))).length=n*10:=by rw [An BE,List.length_map,Array.length_toList,hz2]
        by_cases hj:j<n*10
        · have hcs:n*10<=c*10:=Nat.mul_le_mul_right _ hle
          rw [List.getElem?_take_of_lt hj,Array.getElem?_toList,KC (by rw [hz2];exact hj)]
          unfold Go.Sort.putCells
          rw [Array.getElem?_mapIdx,Array.getElem?_eq_getElem Z,Option.map_some,if_pos ⟨Nat.zero_le _,Z⟩]
          rfl
        · rw [List.getElem?_take_eq_none Z,List.getElem?_eq_none Z]
section
variable {P:Program} {ops:Array Oper} {rest:List Oper} {Q:Exit->Act->World->Prop} {n:Nat} {F:List (Nat×Value)} {w0:BL} {L:List As}
theorem AE.callWX {o:Oper} {f:FuncId} {args:Array Value} {v:Value} {α:Type} {K:α->Prop} {cs':α->List Value} (i:Nat) {q:Option Addr} {T:TypeId} {z m c:Nat} {cs:List Value} (hw:Wt ops n F o)
    (he:∀a w,CO n a F->BN w0 w L->(execOp a.eval o).run P w=.ok (.enter f args) w) (hi:L[i]?=some (rowW q T z m c cs))
    (hc:∀w,BN w0 w L->Calls P f args w λe w'=>e=.returned v/\J2 w w' (q.map (·.block))/\∃y,K y/\∀b,q.map (·.block)=some b->∃o,w'.heap[b]?=some o/\(rowW q T z m c (cs' y)).P o)
    (hd:∀d,o.dst=some d->d<n) (next:∀y,K y->AE P ops rest Q n (match o.dst with|some d=>(d,v)::F|none=>F) w0 (L.set i (rowW q T z m c (cs' y)))):AE P ops (o::rest) Q n F w0 L:=λa w ha hW=>by
  unfold wpList
  rw [if_pos (hw a ha)]
  left
  unfold Oper.wp
  rw [he a w ha hW,Oper.upon_enter]
  refine (hc w hW).mono ?_
  rintro e w' ⟨rfl,hg,y,hk,hr⟩
  have hW':=hW.renew hi rfl hg (y:=rowW q T z m c (cs' y)) λb e=>⟨.inl e,hr b e⟩
  have next:=next y hk
  cases hdd:o.dst with
  | none=>rw [hdd] at next;exact next _ _ ha.put_none hW'
  | some d=>rw [hdd] at next;exact next _ _ (ha.put (hd d hdd)) hW'
end
end
end Go.Proofs.YtfbomiejpbchdaaGreatDoor
