import Derived.Test.YtpgncndhhhllfaaGreatDoorPart03
import Derived.Test.YtpgncndhhhllfaaGreatDoorPart26
import Derived.Test.YtpgncndhhhllfaaGreatDoorPart27
import Derived.Test.YtpgncndhhhllfaaGreatDoorPart45
namespace Go.Proofs.YtpgncndhhhllfaaGreatDoor
open Go Go.RowKit Go.Proofs.Tryz
set_option linter.unusedVariables false
set_option linter.unusedSimpArgs false
section
set_option maxRecDepth 100000
theorem YQ {ps:List Pt} {ts ss:List T3} (x:MX ps ts ss) (hv:Jc ps ts ss) (w:World) {S:Nat->Prop} (hx:Ro S w x):Calls prog 68 #[(aG (CI x))] w (An w (Value.bool true)):=by
 have hp:=hv.pl
 have htl:=hv.tl
 have hsl:=hv.sl
 have h0:=hv.t0
 have lx:=Cl (W:=w) hx
 refine Ah (args:=[(aG (CI x))]) (L:=[AQ x.a.p (rowsL Am ps),AQ x.b.p (rowsL Ai ts),AQ x.c.p (rowsL Ai ss)]) func68 O O (AT O) (Ed hx Ax) (AF.subF (sL [0] O) (q4 (BU (cs:=CI x) O λb1=>asg' O (q3 (sL [1,2] O) ?_))))
 refine AH (v:=(pP b1 0)) (AA O underlying30 O sizeOf28 O) O (BA 0 (Value.slice x.a.p ps.length x.a.c) EB O (AH (v:=(vN ps.length)) (AG O underlying28) O (asg' O (q6 (sL [1,2,3] O) (q4 ?_)))))
 refine AH (v:=(pP b1 1)) (AA O underlying30 O sizeOf23 O) O (BA 0 (Value.slice x.b.p ts.length x.b.c) CP O (AH (v:=(vN ts.length)) (AG O underlying23) O (AM O (AE.nil (AC.subF (sL [1,2,3,12,13,14] O) ?_)))))
 refine AC.then_ (AF.block ?_)
 refine AF.lp1 (tg λ(i:Nat)=>i<=ts.length) (tg λ(i:Nat)=>[(1,(pP b1 0)),(3,(vN ps.length)),(12,(Value.slice x.b.p ts.length x.b.c)),(13,(vN ts.length)),(14,(vN i))]) (tg λ(i:Nat)=>[Ag b1 30 (CI x),AQ x.a.p (rowsL Am ps),AQ x.b.p (rowsL Ai ts),AQ x.c.p (rowsL Ai ss)]) (tg λ(i:Nat)=>ts.length-i) 0 (Nat.zero_le _) (sF O) sr (λi hJ=>?_)
 have hi:=hJ
 refine q4 (AH (Ae (c:=(decide (i<ts.length))) O O (CL (a:=i) (b:=ts.length))) O (AE.nil (q1 ?_)))
 refine AF.cond O (λhc0=>?_) (λhc0=>?_)
 ·replace hc0:=of_decide_eq_true hc0
  obtain ⟨T,hT⟩:∃q,q=ts.getD i (0,0,0):=⟨_,rfl⟩
  obtain ⟨g1,g2,g3⟩:=De (Cc hv.num hc0)
  have hps:=hv.pos i hc0
  rw [<-hT] at g1 g2 g3 hps
  have z0:B_ (ps.getD T.1 ⟨0,0⟩)<=1000000:=hv.szM _
  have z1:B_ (ps.getD T.2.1 ⟨0,0⟩)<=1000000:=hv.szM _
  have z2:B_ (ps.getD T.2.2 ⟨0,0⟩)<=1000000:=hv.szM _
  refine AF.skip (q1 (AF.block (q4 (AH (v:=(pP (pB x.b.p) (pO x.b.p+i*3))) (AN (j:=i) O O x.b.ok underlying23 sizeOf53 O Z) O (AH (v:=(aG (Ai (ts.getD i ((0,0,0):Nat×Nat×Nat))))) (AZ (vs:=Ai (ts.getD i ((0,0,0):Nat×Nat×Nat))) (i:=2) O O (BF.ne x.b.ok Z) Gf (A7 Az _ _ _ Z) (Az _)) O ?_)))))
  refine AE.retell (k:=17) (u:=(aG (Ai T))) O (by rw [hT]) (al L1 O λb2=>A8 O sizeOf53 O (q6 (sL [1,3,12,13,14,5] O) (Cd [(0,true),(1,true),(2,true),(3,false),(4,true),(5,true),(6,true),(7,true),(8,true),(9,false),(10,true),(11,true),(12,true),(13,true),(14,true),(15,true),(16,false),(17,true),(18,true),(19,true),(20,true),(21,true),(22,true),(23,true),(24,true),(25,true),(26,true),(27,true),(28,true),(29,true),(30,true),(31,true),(32,true),(33,true),(34,true),(35,true),(36,true),(37,true),(38,false),(39,true),(40,true)] sr (Aq (v:=(pP b2 0)) O (AD (j:=0) O O underlying53 sizeOf3 O (by decide) O) ?_))))
  refine Bd 0 (vN T.1) Bj O (Bb O (OkE.imp O (Cj (args:=[(vN T.1),(vN ps.length)]) (v:=(Value.bool true)) call85 (λw hw=>(by have h9:=CD T.1 ps.length w;rw [decide_eq_true Z] at h9;exact h9)) O (OkE.back sr (Aq O (BQ (c:=false) O O) ?_)))))
  refine Bb O (OkE.pas (v:=(pP b2 1)) O (AB O) (AD (j:=1) O O underlying53 sizeOf3 O (by decide) O) O O (OkE.pas (v:=(vN T.2.1)) O (AB O) (AK (i:=0) (v:=(vN T.2.1)) O O Bj.a O) O O (OkE.pas (v:=(vN ps.length)) O (AB O) (Al O) O O (OkE.imp O (AE.call (v:=(Value.bool true)) (AB O) (Ao (args:=[(vN T.2.1),(vN ps.length)]) O O call85) (λw hw=>(by have h9:=CD T.2.1 ps.length w;rw [decide_eq_true Z] at h9;exact h9)) O (AT O) ?_)))))
  refine OkE.back sr (OkE.pas (v:=(Value.bool false)) O (AB O) (BQ (c:=false) O O) O O (Aq (v:=(Value.bool false)) O (AP O O) (Bb O (OkE.pas (v:=(pP b2 2)) O (AB O) (AD (j:=2) O O underlying53 sizeOf3 O (by decide) O) O O (OkE.pas (v:=(vN T.2.2)) O (AB O) (AK (i:=0) (v:=(vN T.2.2)) O O Bj.a O) O O ?_)))))
  refine OkE.pas (v:=(vN ps.length)) O (AB O) (Al O) O O (OkE.imp O (AE.call (v:=(Value.bool true)) (AB O) (Ao (args:=[(vN T.2.2),(vN ps.length)]) O O call85) (λw hw=>(by have h9:=CD T.2.2 ps.length w;rw [decide_eq_true Z] at h9;exact h9)) O (AT O) (OkE.back sr (OkE.pas (v:=(Value.bool false)) O (AB O) (BQ (c:=false) O O) O O (Aq (v:=(Value.bool false)) O (AP O O) ?_)))))
  refine Bb O (OkE.pas (v:=(pP b1 0)) O (AB O) (AA O underlying30 O sizeOf28 O) O O (OkE.pas (v:=(Value.slice x.a.p ps.length x.a.c)) O (AB O) (AK (i:=1) (v:=(Value.slice x.a.p ps.length x.a.c)) O O EB.a O) O O (OkE.pas (v:=(pP b2 0)) O (AB O) (AD (j:=0) O O underlying53 sizeOf3 O (by decide) O) O O (OkE.pas (v:=(vN T.1)) O (AB O) (AK (i:=0) (v:=(vN T.1)) O O Bj.a O) O O (OkE.pas (v:=(pP (pB x.a.p) (pO x.a.p+T.1*10))) O (AB O) (AN (j:=T.1) O O x.a.ok underlying28 sizeOf51 O Z) O O ?_)))))
  refine OkE.pas (v:=(aG (Am (ps.getD T.1 (⟨0,0⟩:Pt))))) O (AB O) (AZ (vs:=Am (ps.getD T.1 (⟨0,0⟩:Pt))) (i:=2) O O (BF.ne x.a.ok Z) BO (A7 BM _ _ _ Z) (BM _)) O O (OkE.pas (v:=(pP b1 0)) O (AB O) (AA O underlying30 O sizeOf28 O) O O (OkE.pas (v:=(Value.slice x.a.p ps.length x.a.c)) O (AB O) (AK (i:=1) (v:=(Value.slice x.a.p ps.length x.a.c)) O O EB.a O) O O (OkE.pas (v:=(pP b2 1)) O (AB O) (AD (j:=1) O O underlying53 sizeOf3 O (by decide) O) O O (OkE.pas (v:=(vN T.2.1)) O (AB O) (AK (i:=0) (v:=(vN T.2.1)) O O Bj.a O) O O (OkE.pas (v:=(pP (pB x.a.p) (pO x.a.p+T.2.1*10))) O (AB O) (AN (j:=T.2.1) O O x.a.ok underlying28 sizeOf51 O Z) O O ?_)))))
  refine OkE.pas (v:=(aG (Am (ps.getD T.2.1 (⟨0,0⟩:Pt))))) O (AB O) (AZ (vs:=Am (ps.getD T.2.1 (⟨0,0⟩:Pt))) (i:=2) O O (BF.ne x.a.ok Z) BO (A7 BM _ _ _ Z) (BM _)) O O (OkE.pas (v:=(pP b1 0)) O (AB O) (AA O underlying30 O sizeOf28 O) O O (OkE.pas (v:=(Value.slice x.a.p ps.length x.a.c)) O (AB O) (AK (i:=1) (v:=(Value.slice x.a.p ps.length x.a.c)) O O EB.a O) O O (OkE.pas (v:=(pP b2 2)) O (AB O) (AD (j:=2) O O underlying53 sizeOf3 O (by decide) O) O O (OkE.pas (v:=(vN T.2.2)) O (AB O) (AK (i:=0) (v:=(vN T.2.2)) O O Bj.a O) O O (OkE.pas (v:=(pP (pB x.a.p) (pO x.a.p+T.2.2*10))) O (AB O) (AN (j:=T.2.2) O O x.a.ok underlying28 sizeOf51 O Z) O O ?_)))))
  refine OkE.pas (v:=(aG (Am (ps.getD T.2.2 (⟨0,0⟩:Pt))))) O (AB O) (AZ (vs:=Am (ps.getD T.2.2 (⟨0,0⟩:Pt))) (i:=2) O O (BF.ne x.a.ok Z) BO (A7 BM _ _ _ Z) (BM _)) O O (OkE.imp O (AE.call (v:=(vI ((AX (ps.getD T.1 (⟨0,0⟩:Pt)) (ps.getD T.2.1 (⟨0,0⟩:Pt)) (ps.getD T.2.2 (⟨0,0⟩:Pt))).num.sign))) (AB O) (Ao (args:=[(aG (Am (ps.getD T.1 (⟨0,0⟩:Pt)))),(aG (Am (ps.getD T.2.1 (⟨0,0⟩:Pt)))),(aG (Am (ps.getD T.2.2 (⟨0,0⟩:Pt))))]) O O call121) (λw hw=>IC (ps.getD T.1 (⟨0,0⟩:Pt)) (ps.getD T.2.1 (⟨0,0⟩:Pt)) (ps.getD T.2.2 (⟨0,0⟩:Pt)) Z w) O (AT O) (OkE.back sr (OkE.pas (v:=(Value.bool false)) O (AB O) (Bx (c:=false) O O (decide_eq_false (λh9=>h9 hps))) O O (Aq (v:=(Value.bool false)) O (AP O O) ?_)))))
  refine OkE.nil (AC.subF (sL [1,3,12,13,14,5,58] O) (AC.then_ (AF.cond_false O (AF.skip (AC.in_normal ?_)))))
  exact AC.then_ (AF.region (AH (AW (c:=((i+1:Nat):Int)) O O (AU (a:=i) (b:=1) Z)) O (AM O (AE.nil (AC.subF (sL [1,3,12,13,14,5] O) (AC.round1 (i+1) Z Z (sF O) (sl sr)))))))
 ·replace hc0:=of_decide_eq_false hc0
  refine AF.exit (AC.then_exit (AC.round1_exit (AC.in_exit (q1 (q4 ?_)))))
  refine AH (v:=(pP b1 2)) (AA O underlying30 O sizeOf24 O) O (BA 0 (Value.slice x.c.p ss.length x.c.c) WR O (AH (v:=(vN ss.length)) (AG O underlying24) O (AM O (AE.nil (AC.subF (sL [1,3,12,13,14,61,62,63] O) ?_)))))
  refine AC.then_ (AF.block ?_)
  refine AF.lp1 (tg λ(i:Nat)=>i<=ss.length) (tg λ(i:Nat)=>[(1,(pP b1 0)),(3,(vN ps.length)),(61,(Value.slice x.c.p ss.length x.c.c)),(62,(vN ss.length)),(63,(vN i))]) (tg λ(i:Nat)=>[Ag b1 30 (CI x),AQ x.a.p (rowsL Am ps),AQ x.b.p (rowsL Ai ts),AQ x.c.p (rowsL Ai ss)]) (tg λ(i:Nat)=>ss.length-i) 0 (Nat.zero_le _) (sF O) sr (λi hJ=>?_)
  have hi:=hJ
  refine q4 (AH (Ae (c:=(decide (i<ss.length))) O O (CL (a:=i) (b:=ss.length))) O (AE.nil (q1 ?_)))
  refine AF.cond O (λhc2=>?_) (λhc2=>?_)
  ·replace hc2:=of_decide_eq_true hc2
   obtain ⟨sd,hsd⟩:∃q,q=ss.getD i (0,0,0):=⟨_,rfl⟩
   obtain ⟨g1,g2,g3⟩:=hv.sid i hc2
   rw [<-hsd] at g1 g2 g3
   refine AF.skip (q1 (AF.block (q4 (AH (v:=(pP (pB x.c.p) (pO x.c.p+i*3))) (AN (j:=i) O O x.c.ok underlying24 sizeOf55 O Z) O (AH (v:=(aG (Ai (ss.getD i ((0,0,0):Nat×Nat×Nat))))) (AZ (vs:=Ai (ss.getD i ((0,0,0):Nat×Nat×Nat))) (i:=3) O O (BF.ne x.c.ok Z) Zs (A7 Az _ _ _ Z) (Az _)) O ?_)))))
   refine AE.retell (k:=66) (u:=(aG (Ai sd))) O (by rw [hsd]) (al cv O λb2=>A8 O sizeOf55 O (q3 (sL [1,3,61,62,63,7] O) (AH (v:=(pP b2 0)) (AA O underlying55 O sizeOf3 O) O (BA 0 (vN sd.1) Bj O ?_))))
   refine AM O (Cj (args:=[(vN sd.1),(vN ps.length)]) (v:=(Value.bool true)) call85 (λw hw=>(by have h9:=CD sd.1 ps.length w;rw [decide_eq_true Z] at h9;exact h9)) O (AH (BQ (c:=false) O O) O (AM O (AE.step (v:=(pP b2 1)) (AB O) (AA O underlying55 O sizeOf3 O) O (AT O) (AE.step (v:=(vN sd.2.1)) (AB O) (AK (i:=0) (v:=(vN sd.2.1)) O O Bj.a O) O (AT O) ?_)))))
   refine AE.step (v:=(vN ps.length)) (AB O) (Al O) O (AT O) (AE.call (v:=(Value.bool true)) (AB O) (Ao (args:=[(vN sd.2.1),(vN ps.length)]) O O call85) (λw hw=>(by have h9:=CD sd.2.1 ps.length w;rw [decide_eq_true Z] at h9;exact h9)) O (AT O) (AE.step (v:=(Value.bool false)) (AB O) (BQ (c:=false) O O) O (AT O) (AH (v:=(Value.bool false)) (AP O O) O (AM O (AE.step (v:=(pP b2 2)) (AB O) (AA O underlying55 O sizeOf3 O) O (AT O) ?_)))))
   refine AE.step (v:=(vN sd.2.2)) (AB O) (AK (i:=0) (v:=(vN sd.2.2)) O O Bj.a O) O (AT O) (AE.step (v:=(Value.bool false)) (AB O) (Ae (c:=false) O O (decide_eq_false Z)) O (AT O) (AH (v:=(Value.bool false)) (AP O O) O (AM O (AE.step (v:=(pP b2 2)) (AB O) (AA O underlying55 O sizeOf3 O) O (AT O) (AE.step (v:=(vN sd.2.2)) (AB O) (AK (i:=0) (v:=(vN sd.2.2)) O O Bj.a O) O (AT O) ?_)))))
   refine AE.step (v:=(Value.bool false)) (AB O) (B3 (c:=false) O O (decide_eq_false Z)) O (AT O) (AH (v:=(Value.bool false)) (AP O O) O (AE.nil (AC.subF (sL [1,3,61,62,63,7,88] O) (AC.then_ (AF.cond_false O ?_)))))
   refine AF.skip (AC.in_normal (AC.then_ (AF.region (AH (AW (c:=((i+1:Nat):Int)) O O (AU (a:=i) (b:=1) Z)) O (AM O ?_)))))
   exact AE.nil (AC.subF (sL [1,3,61,62,63,7] O) (AC.round1 (i+1) Z Z (sF O) (sl sr)))
  ·replace hc2:=of_decide_eq_false hc2
   refine AF.exit (AC.then_exit (AC.round1_exit (AC.in_exit (q2 (AH (v:=(pP b1 1)) (AA O underlying30 O sizeOf23 O) O ?_)))))
   refine BA 0 (Value.slice x.b.p ts.length x.b.c) CP O (AH (v:=(vN ts.length)) (AG O underlying23) O (AH (B3 (c:=true) O O (decide_eq_true Z)) O (asg' O (AE.nil (AC.subF (sL [1,3,61,62,63,2] O) ?_)))))
   exact AC.then_ (AF.ret (AI O (AY (v:=(Value.bool true)) O) (λw hw=>⟨rfl,hw.out⟩)))
theorem Zg (a b c p:Pt) (hs:B_ a+B_ b+B_ c+B_ p<=268435456) (w:World):Calls prog 129 #[aG (Am a),aG (Am b),aG (Am c),aG (Am p)] w (An w (vN (Qs a b c p))):=by
 unfold Qs
 by_cases h:AX a b c=0
 ·rw [if_pos h];exact SI a b c p hs h w
 ·rw [if_neg h];exact Vx a b c p hs h w
set_option maxHeartbeats 1000000 in
theorem Uh {ps:List Pt} {ts ss:List T3} (x:MX ps ts ss) (hv:Jc ps ts ss) (w:World) {S:Nat->Prop} (hx:Ro S w x):Calls prog 70 #[(aG (CI x))] w (An w (Value.bool true)):=by
 have hp:=hv.pl
 have htl:=hv.tl
 have hsl:=hv.sl
 have h0:=hv.t0
 have hq:∀t:T3,B_ (Bl ps t).1<=1000000/\B_ (Bl ps t).2.1<=1000000/\B_ (Bl ps t).2.2<=1000000:=λt=>⟨hv.szM _,hv.szM _,hv.szM _⟩
 have lx:=Cl (W:=w) hx
 refine Ah (args:=[(aG (CI x))]) (L:=[AQ x.a.p (rowsL Am ps),AQ x.b.p (rowsL Ai ts),AQ x.c.p (rowsL Ai ss)]) func70 O O (AT O) (Ed hx Ax) (AF.subF (sL [0] O) (q4 (BU (cs:=CI x) O λb1=>asg' O (q6 (sL [1,2] O) ?_))))
 refine q4 (AH (v:=(pP b1 1)) (AA O underlying30 O sizeOf23 O) O (BA 0 (Value.slice x.b.p ts.length x.b.c) CP O (AH (v:=(vN ts.length)) (AG O underlying23) O (AM O (AE.nil ?_)))))
 refine AC.subF (sL [1,2,11,12] O) (AC.then_ (AF.block ?_))
 refine AF.lp1 (tg λ(i:Nat)=>i<=ts.length) (tg λ(i:Nat)=>[(1,(pP b1 0)),(11,(vN ts.length)),(12,(vN i))]) (tg λ(i:Nat)=>[Ag b1 30 (CI x),AQ x.a.p (rowsL Am ps),AQ x.b.p (rowsL Ai ts),AQ x.c.p (rowsL Ai ss)]) (tg λ(i:Nat)=>ts.length-i) 0 (Nat.zero_le _) (sF O) sr (λi hJ=>?_)
 have hi:=hJ
 refine q4 (AH (Ae (c:=(decide (i<ts.length))) O O (CL (a:=i) (b:=ts.length))) O (AE.nil (q1 ?_)))
 refine AF.cond O (λhc0=>?_) (λhc0=>?_)
 ·replace hc0:=of_decide_eq_true hc0
  refine AF.skip (q1 (AF.block (q4 (AM O (asg' O ?_)))))
  refine q3 (sL [1,11,12,3] O) (BD 0 Dq O (AM O (Cj call127 (λw hw=>K1 x i Z Z Z (Cc hv.num Z) w (inS hw 1 O lx)) O (al WN O λb2=>A8 O sizeOf207 O ?_))))
  refine q6 (sL [1,11,12,3,4] O) (q4 (AM O (AM O (AE.nil (AC.then_ ?_)))))
  refine AF.block ?_
  refine AF.lp1 (tg λ(k:Nat)=>k<=i) (tg λ(k:Nat)=>[(1,(pP b1 0)),(11,(vN ts.length)),(12,(vN i)),(3,(vN i)),(4,(pP b2 0)),(18,(vN i)),(19,(vN k))]) (tg λ(k:Nat)=>[Ag b2 207 (Hv (Bl ps (ts.getD i (0,0,0)))),Ag b1 30 (CI x),AQ x.a.p (rowsL Am ps),AQ x.b.p (rowsL Ai ts),AQ x.c.p (rowsL Ai ss)]) (tg λ(k:Nat)=>i-k) 0 (Nat.zero_le _) (sF O) sr (λk hJ=>?_)
  have hk:=hJ
  refine q4 (AH (Ae (c:=(decide (k<i))) O O (CL (a:=k) (b:=i))) O (AE.nil (q1 ?_)))
  refine AF.cond O (λhc1=>?_) (λhc1=>?_)
  ·replace hc1:=of_decide_eq_true hc1
   refine AF.skip (q1 (AF.block (q4 (AM O (asg' O ?_)))))
   refine q3 (sL [1,11,12,3,4,18,19,5] O) (BD 1 Dq O (AM O (Cj call127 (λw hw=>K1 x k Z Z Z (Cc hv.num Z) w (inS hw 2 O lx)) O (al WN O λb3=>A8 O sizeOf207 O ?_))))
   refine q3 (sL [1,11,12,3,4,18,19,6] O) (BD 1 Mi O (BD 0 Mi O (ck' call128 (U7 (Bl ps (ts.getD i (0,0,0))) (Bl ps (ts.getD k (0,0,0))) (hq _) (hq _)) O (AH (BQ (c:=(!(EW (Bl ps (ts.getD i (0,0,0))) (Bl ps (ts.getD k (0,0,0)))))) O O) O (AM O ?_)))))
   refine AE.mid (FM:=[(1,(pP b1 0)),(11,(vN ts.length)),(12,(vN i)),(3,(vN i)),(4,(pP b2 0)),(18,(vN i)),(19,(vN k)),(6,(pP b3 0)),(25,(aG (Hv (Bl ps (ts.getD i (0,0,0)))))),(26,(aG (Hv (Bl ps (ts.getD k (0,0,0)))))),(27,(Value.bool (EW (Bl ps (ts.getD i (0,0,0))) (Bl ps (ts.getD k (0,0,0)))))),(28,(Value.bool (!(EW (Bl ps (ts.getD i (0,0,0))) (Bl ps (ts.getD k (0,0,0))))))),(29,(Value.bool (!(EW (Bl ps (ts.getD i (0,0,0))) (Bl ps (ts.getD k (0,0,0))))))),(34,(Value.bool ((!(EW (Bl ps (ts.getD i (0,0,0))) (Bl ps (ts.getD k (0,0,0)))))&&(!(EW (Bl ps (ts.getD k (0,0,0))) (Bl ps (ts.getD i (0,0,0))))))))]) (LM:=[Ag b3 207 (Hv (Bl ps (ts.getD k (0,0,0)))),Ag b2 207 (Hv (Bl ps (ts.getD i (0,0,0)))),Ag b1 30 (CI x),AQ x.a.p (rowsL Am ps),AQ x.b.p (rowsL Ai ts),AQ x.c.p (rowsL Ai ss)]) 5 ?_ ?_
   ·rcases Bool.eq_false_or_eq_true (!(EW (Bl ps (ts.getD i (0,0,0))) (Bl ps (ts.getD k (0,0,0))))) with hg1|hg1
    ·skip
     refine AE.retell (k:=29) (u:=Value.bool true) O (by rw [hg1]) ?_
     have hg1':=hg1
     simp only [Bool.and_eq_true,Bool.or_eq_true,Bool.and_eq_false_iff,Bool.or_eq_false_iff,Bool.not_eq_true',Bool.not_eq_false',decide_eq_true_eq,decide_eq_false_iff_not] at hg1'
     exact AE.step (v:=(aG (Hv (Bl ps (ts.getD k (0,0,0)))))) (AB O) (Aj (i:=0) (vs:=Hv (Bl ps (ts.getD k (0,0,0)))) O O Mi.a Mi.s O O) O (AT O) (AE.step (v:=(aG (Hv (Bl ps (ts.getD i (0,0,0)))))) (AB O) (Aj (i:=1) (vs:=Hv (Bl ps (ts.getD i (0,0,0)))) O O Mi.a Mi.s O O) O (AT O) (AE.call (v:=(Value.bool (EW (Bl ps (ts.getD k (0,0,0))) (Bl ps (ts.getD i (0,0,0)))))) (AB O) (Ao (args:=[(aG (Hv (Bl ps (ts.getD k (0,0,0))))),(aG (Hv (Bl ps (ts.getD i (0,0,0)))))]) O O call128) (λw hw=>U7 (Bl ps (ts.getD k (0,0,0))) (Bl ps (ts.getD i (0,0,0))) (hq _) (hq _) w) O (AT O) (AE.step (v:=(Value.bool (!(EW (Bl ps (ts.getD k (0,0,0))) (Bl ps (ts.getD i (0,0,0))))))) (AB O) (BQ (c:=(!(EW (Bl ps (ts.getD k (0,0,0))) (Bl ps (ts.getD i (0,0,0)))))) O O) O (AT O) (AH (v:=(Value.bool (!(EW (Bl ps (ts.getD k (0,0,0))) (Bl ps (ts.getD i (0,0,0))))))) (Ac O O) O (AE.nil (AC.mid (sS O (sS O (sS O (sS O (sS O (sS O (sS O (sS O (sS O (sS O (sS O (sS O (sS (by first|rfl|(rw [hg1];rfl)|rw [hg1]) (sS (by first|rfl|(rw [hg1];rfl)|rw [hg1]) (sN))))))))))))))) (List.Sublist.refl _)))))))
    ·skip
     refine AE.retell (k:=29) (u:=Value.bool false) O (by rw [hg1]) ?_
     have hg1':=hg1
     simp only [Bool.and_eq_true,Bool.or_eq_true,Bool.and_eq_false_iff,Bool.or_eq_false_iff,Bool.not_eq_true',Bool.not_eq_false',decide_eq_true_eq,decide_eq_false_iff_not] at hg1'
     exact AE.skip (AJ O) O (AT O) (AE.skip (AJ O) O (AT O) (AE.skip (AJ O) O (AT O) (AE.skip (AJ O) O (AT O) (AH (v:=(Value.bool false)) (AP O O) O (AE.nil (AC.mid (sS O (sS O (sS O (sS O (sS O (sS O (sS O (sS O (sS O (sS O (sS O (sS O (sS (by first|rfl|(rw [hg1];rfl)|rw [hg1]) (sS (by first|rfl|(rw [hg1];rfl)|rw [hg1]) (sN))))))))))))))) (List.Sublist.refl _)))))))
   refine AE.nil (AC.subF (sL [1,11,12,3,4,18,19,6,34] O) (AC.then_ ?_))
   refine AF.cond O (λhc2=>?_) (λhc2=>?_)
   ·simp only [Bool.and_eq_true,Bool.or_eq_true,Bool.and_eq_false_iff,Bool.or_eq_false_iff,Bool.not_eq_true',Bool.not_eq_false',decide_eq_true_eq,decide_eq_false_iff_not] at hc2
    have h9:=hv.apart i k Z Z;rw [hc2.1,hc2.2] at h9;cases h9
   ·simp only [Bool.and_eq_true,Bool.or_eq_true,Bool.and_eq_false_iff,Bool.or_eq_false_iff,Bool.not_eq_true',Bool.not_eq_false',decide_eq_true_eq,decide_eq_false_iff_not] at hc2
    refine AF.skip (AC.in_normal (AC.then_ (AF.region (AH (AW (c:=((k+1:Nat):Int)) O O (AU (a:=k) (b:=1) Z)) O (AM O ?_)))))
    exact AE.nil (AC.subF (sL [1,11,12,3,4,18,19,6] O) (AC.round1 (k+1) Z Z (sF O) (sl sr)))
  ·replace hc1:=of_decide_eq_false hc1
   refine AF.exit (AC.then_exit (AC.round1_exit (AC.in_exit (q2 (AH (v:=(pP b1 0)) (AA O underlying30 O sizeOf28 O) O ?_)))))
   refine BA 1 (Value.slice x.a.p ps.length x.a.c) EB O (AH (v:=(vN ps.length)) (AG O underlying28) O (AM O (AE.nil (AC.subF (sL [1,11,12,3,4,18,19,37,38,39] O) (AC.then_ ?_)))))
   refine AF.block ?_
   refine AF.lp1 (tg λ(p:Nat)=>p<=ps.length) (tg λ(p:Nat)=>[(1,(pP b1 0)),(11,(vN ts.length)),(12,(vN i)),(3,(vN i)),(4,(pP b2 0)),(37,(Value.slice x.a.p ps.length x.a.c)),(38,(vN ps.length)),(39,(vN p))]) (tg λ(p:Nat)=>[Ag b2 207 (Hv (Bl ps (ts.getD i (0,0,0)))),Ag b1 30 (CI x),AQ x.a.p (rowsL Am ps),AQ x.b.p (rowsL Ai ts),AQ x.c.p (rowsL Ai ss)]) (tg λ(p:Nat)=>ps.length-p) 0 (Nat.zero_le _) (sF O) sr (λp hJ=>?_)
   have hp:=hJ
   refine q4 (AH (Ae (c:=(decide (p<ps.length))) O O (CL (a:=p) (b:=ps.length))) O (AE.nil (q1 ?_)))
   refine AF.cond O (λhc3=>?_) (λhc3=>?_)
   ·replace hc3:=of_decide_eq_true hc3
    refine AF.skip (q1 (AF.block (q4 (AM O (AH (v:=(pP (pB x.a.p) (pO x.a.p+p*10))) (AN (j:=p) O O x.a.ok underlying28 sizeOf51 O Z) O ?_)))))
    refine AH (v:=(aG (Am (ps.getD p (⟨0,0⟩:Pt))))) (AZ (vs:=Am (ps.getD p (⟨0,0⟩:Pt))) (i:=2) O O (BF.ne x.a.ok Z) BO (A7 BM _ _ _ Z) (BM _)) O (al E8 O λb3=>asg' O (A8 O sizeOf51 O (q3 (sL [1,11,12,3,4,37,38,39,8,7] O) (AH (v:=(pP b1 1)) (AA O underlying30 O sizeOf23 O) O ?_))))
    refine BA 2 (Value.slice x.b.p ts.length x.b.c) CP O (AM O (AH (v:=(pP (pB x.b.p) (pO x.b.p+i*3))) (AN (j:=i) O O x.b.ok underlying23 sizeOf53 O Z) O (AH (v:=(Value.slice (some ⟨(pB x.b.p),pO x.b.p+i*3,none⟩) 3 3)) (NP O underlying53 sizeOf3 (by decide)) O (AM O (Cj call82 (λw hw=>Tu (ts.getD i (0,0,0)) p ⟨some ⟨pB x.b.p,pO x.b.p+i*3,none⟩,3,aI _ _⟩ w (Xa (Wg (inS hw 3 O lx)) Z _)) O ?_)))))
    refine AH (BQ (c:=(!(CS (ts.getD i (0,0,0)) p))) O O) O (AM O ?_)
    refine AE.mid (FM:=[(1,(pP b1 0)),(11,(vN ts.length)),(12,(vN i)),(3,(vN i)),(4,(pP b2 0)),(37,(Value.slice x.a.p ps.length x.a.c)),(38,(vN ps.length)),(39,(vN p)),(8,(pP b3 0)),(7,(vN p)),(44,(pP b1 1)),(45,(Value.slice x.b.p ts.length x.b.c)),(46,(vN i)),(47,(pP (pB x.b.p) (pO x.b.p+i*3))),(48,(Value.slice (some ⟨(pB x.b.p),pO x.b.p+i*3,none⟩) 3 3)),(49,(vN p)),(50,(Value.bool (CS (ts.getD i (0,0,0)) p))),(51,(Value.bool (!(CS (ts.getD i (0,0,0)) p)))),(52,(Value.bool (!(CS (ts.getD i (0,0,0)) p)))),(62,(Value.bool ((!(CS (ts.getD i (0,0,0)) p))&&false)))]) (LM:=[Ag b3 51 (Am (ps.getD p (⟨0,0⟩:Pt))),Ag b2 207 (Hv (Bl ps (ts.getD i (0,0,0)))),Ag b1 30 (CI x),AQ x.a.p (rowsL Am ps),AQ x.b.p (rowsL Ai ts),AQ x.c.p (rowsL Ai ss)]) 10 ?_ ?_
    ·rcases Bool.eq_false_or_eq_true (!(CS (ts.getD i (0,0,0)) p)) with hg2|hg2
     ·skip
      refine AE.retell (k:=52) (u:=Value.bool true) O (by rw [hg2]) ?_
      have hg2':=hg2
      simp only [Bool.and_eq_true,Bool.or_eq_true,Bool.and_eq_false_iff,Bool.or_eq_false_iff,Bool.not_eq_true',Bool.not_eq_false',decide_eq_true_eq,decide_eq_false_iff_not] at hg2'
      refine AE.step (v:=(pP b2 0)) (AB O) (AD (j:=0) O O underlying207 sizeOf51 O (by decide) O) O (AT O) (AE.step (v:=(aG (Am ((Bl ps (ts.getD i (0,0,0))).1)))) (AB O) (Aj (i:=1) (vs:=Am ((Bl ps (ts.getD i (0,0,0))).1)) O O BO.a BO.s O O) O (AT O) (AE.step (v:=(pP b2 10)) (AB O) (AD (j:=1) O O underlying207 sizeOf51 O (by decide) O) O (AT O) (AE.step (v:=(aG (Am ((Bl ps (ts.getD i (0,0,0))).2.1)))) (AB O) (Aj (i:=1) (vs:=Am ((Bl ps (ts.getD i (0,0,0))).2.1)) O O BO.a BO.s O O) O (AT O) (AE.step (v:=(pP b2 20)) (AB O) (AD (j:=2) O O underlying207 sizeOf51 O (by decide) O) O (AT O) (AE.step (v:=(aG (Am ((Bl ps (ts.getD i (0,0,0))).2.2)))) (AB O) (Aj (i:=1) (vs:=Am ((Bl ps (ts.getD i (0,0,0))).2.2)) O O BO.a BO.s O O) O (AT O) ?_)))))
      exact AE.step (v:=(aG (Am (ps.getD p (⟨0,0⟩:Pt))))) (AB O) (Aj (i:=0) (vs:=Am (ps.getD p (⟨0,0⟩:Pt))) O O BO.a BO.s O O) O (AT O) (AE.call (v:=(vN (KF ps (ps.getD p ⟨0,0⟩) (ts.getD i (0,0,0))))) (AB O) (Ao (args:=[(aG (Am ((Bl ps (ts.getD i (0,0,0))).1))),(aG (Am ((Bl ps (ts.getD i (0,0,0))).2.1))),(aG (Am ((Bl ps (ts.getD i (0,0,0))).2.2))),(aG (Am (ps.getD p (⟨0,0⟩:Pt))))]) O O call129) (λw hw=>Zg ((Bl ps (ts.getD i (0,0,0))).1) ((Bl ps (ts.getD i (0,0,0))).2.1) ((Bl ps (ts.getD i (0,0,0))).2.2) (ps.getD p ⟨0,0⟩) (by have z1:=hq (ts.getD i (0,0,0));have z2:B_ (ps.getD p ⟨0,0⟩)<=1000000:=hv.szM p;omega) w) O (AT O) (AE.step (v:=(Value.bool false)) (AB O) (Bx (c:=false) O O (decide_eq_false (by have h8:=hv.crn i p Z Z hg2';unfold cor at h8;omega))) O (AT O) (AH (v:=(Value.bool false)) (Ac O O) O (AE.nil (AC.mid (sS O (sS O (sS O (sS O (sS O (sS O (sS O (sS O (sS O (sS O (sS O (sS O (sS O (sS O (sS O (sS O (sS O (sS O (sS (by first|rfl|(rw [hg2];rfl)|rw [hg2]) (sS (by first|rfl|(rw [hg2];rfl)|rw [hg2]) (sN))))))))))))))))))))) (List.Sublist.refl _))))))
     ·skip
      refine AE.retell (k:=52) (u:=Value.bool false) O (by rw [hg2]) ?_
      have hg2':=hg2
      simp only [Bool.and_eq_true,Bool.or_eq_true,Bool.and_eq_false_iff,Bool.or_eq_false_iff,Bool.not_eq_true',Bool.not_eq_false',decide_eq_true_eq,decide_eq_false_iff_not] at hg2'
      refine AE.skip (AJ O) O (AT O) (AE.skip (AJ O) O (AT O) (AE.skip (AJ O) O (AT O) (AE.skip (AJ O) O (AT O) (AE.skip (AJ O) O (AT O) (AE.skip (AJ O) O (AT O) ?_)))))
      exact AE.skip (AJ O) O (AT O) (AE.skip (AJ O) O (AT O) (AE.skip (AJ O) O (AT O) (AH (v:=(Value.bool false)) (AP O O) O (AE.nil (AC.mid (sS O (sS O (sS O (sS O (sS O (sS O (sS O (sS O (sS O (sS O (sS O (sS O (sS O (sS O (sS O (sS O (sS O (sS O (sS (by first|rfl|(rw [hg2];rfl)|rw [hg2]) (sS (by first|rfl|(rw [hg2];rfl)|rw [hg2]) (sN))))))))))))))))))))) (List.Sublist.refl _))))))
    refine AE.nil (AC.subF (sL [1,11,12,3,4,37,38,39,8,62] O) (AC.then_ ?_))
    refine AF.cond O (λhc4=>?_) (λhc4=>?_)
    ·simp only [Bool.and_eq_true,Bool.or_eq_true,Bool.and_eq_false_iff,Bool.or_eq_false_iff,Bool.not_eq_true',Bool.not_eq_false',decide_eq_true_eq,decide_eq_false_iff_not] at hc4
     simp at hc4
    ·simp only [Bool.and_eq_true,Bool.or_eq_true,Bool.and_eq_false_iff,Bool.or_eq_false_iff,Bool.not_eq_true',Bool.not_eq_false',decide_eq_true_eq,decide_eq_false_iff_not] at hc4
     refine AF.skip (AC.in_normal (AC.then_ (AF.region (AH (AW (c:=((p+1:Nat):Int)) O O (AU (a:=p) (b:=1) Z)) O (AM O ?_)))))
     exact AE.nil (AC.subF (sL [1,11,12,3,4,37,38,39,8] O) (AC.round1 (p+1) Z Z (sF O) (sl sr)))
   ·replace hc3:=of_decide_eq_false hc3
    refine AF.exit (AC.then_exit (AC.round1_exit (AC.in_exit (AC.in_normal (AC.then_ ?_)))))
    exact AF.region (AH (AW (c:=((i+1:Nat):Int)) O O (AU (a:=i) (b:=1) Z)) O (AM O (AE.nil (AC.subF (sL [1,11,12,3,4,37,38,39] O) (AC.round1 (i+1) Z Z (sF O) (sl sr))))))
 ·replace hc0:=of_decide_eq_false hc0
  refine AF.exit (AC.then_exit (AC.round1_exit (AC.in_exit (q2 (asg' O ?_)))))
  exact AE.nil (AC.then_ (AF.ret (AI O (AY (v:=(Value.bool true)) O) (λw hw=>⟨rfl,hw.out⟩))))
end
section
set_option maxRecDepth 100000
theorem Xw (x y:Pt) (hx:B_ x<=1000) (hy:B_ y<=1000) (w:World)  :Calls prog 124 #[(aG (Am x)),(aG (Am y))] w (An w (vI (NT x y))):=by
 refine Af (args:=[(aG (Am x)),(aG (Am y))]) func124 O O (AT O) (AF.subF (sL [0,1] O) (q4 (BU (cs:=Am x) O λb1=>BU (cs:=Am y) O λb2=>asg' O ?_)))
 refine q6 (sL [2,3,4] O) (AF.block (q4 (BD 1 BO O (BD 0 BO O (ck' call125 (MT x y (by assumption) (by assumption)) O ?_)))))
 refine asg' O (AE.nil (AC.subF (sL [2,3,4,5] O) (AC.then_ ?_)))
 refine AF.cond O (λhc0=>?_) (λhc0=>?_)
 ·replace hc0:=of_decide_eq_true hc0
  refine q4 (asg' O (AE.nil (AC.then_ (AF.ret (AC.in_ret ?_)))))
  exact AC.then_ret (AI O (AY (v:=(vI (-1:Int))) O) (λw hw=>⟨by unfold NT;rw [if_pos hc0],hw.out⟩))
 ·replace hc0:=of_decide_eq_false hc0
  refine q4 (BD 0 BO O (BD 1 BO O (ck' call125 (MT y x (by assumption) (by assumption)) O (asg' O (AE.nil ?_)))))
  refine AC.subF (sL [2,3,4,9] O) (AC.then_ ?_)
  refine AF.cond O (λhc1=>?_) (λhc1=>?_)
  ·replace hc1:=of_decide_eq_true hc1
   refine q4 (asg' O (AE.nil (AC.then_ (AF.ret (AC.in_ret ?_)))))
   exact AC.then_ret (AI O (AY (v:=(vI 1)) O) (λw hw=>⟨by unfold NT;rw [if_neg hc0,if_pos hc1],hw.out⟩))
  ·replace hc1:=of_decide_eq_false hc1
   refine AF.skip (AC.in_normal (q2 (asg' O (AE.nil (AC.then_ ?_)))))
   exact AF.ret (AI O (AY (v:=(vI 0)) O) (λw hw=>⟨by unfold NT;rw [if_neg hc0,if_neg hc1],hw.out⟩))
end
section
abbrev aX:={ p:Pt // B_ p<=1000 }
instance:Inhabited aX:=⟨⟨⟨0,0⟩,by decide⟩⟩
theorem dW:∀xs:List Pt,(∀x∈xs,B_ x<=1000)->∃ds:List aX,ds.map (·.1)=xs
  | [],_=>⟨[],rfl⟩
  | x::r,h=>by
    obtain ⟨ds,e⟩:=dW r λy hy=>h y (List.mem_cons_of_mem _ hy)
    exact ⟨⟨x,h x List.mem_cons_self⟩::ds,by rw [List.map_cons,e]⟩
def Lz (x:aX):List Value:=Am x.1
def az (x y:aX):Int:=NT x.1 y.1
theorem cq:Go.Sort.SWO (ltOf az) where
  irrefl x:=decide_eq_false (by unfold az;rw [Ft];unfold Vp;grind)
  trans x y z h1 h2:=by
    have h1:=Ft.1 (of_decide_eq_true h1)
    have h2:=Ft.1 (of_decide_eq_true h2)
    refine decide_eq_true (Ft.2 ?_)
    unfold Vp at *
    grind
  ntrans x y z h1 h2:=by
    have h1:¬NT x.1 y.1<0:=of_decide_eq_false h1
    have h2:¬NT y.1 z.1<0:=of_decide_eq_false h2
    rw [Ft] at h1 h2
    refine decide_eq_false ?_
    unfold az
    rw [Ft]
    unfold Vp at *
    grind
theorem ak (Ag off size:Nat) (w:World):CmpLays prog 124 #[] Lz 10 az Ag off size w:=λm os dk _ x y=>by
  rw [Array.append_empty]
  exact (Xw x.1 y.1 x.2 y.2 _).mono λe w' h=>⟨h.1,Rf h.2⟩
theorem Ma {d:Array aX} {t:Nat} (h:t<d.size*10):(rowsL Am (d.toList.map (·.1)))[t]?=some (Go.Sort.flatK Lz 10 d)[t]!:=by
  rw [Go.Sort.get_flatK _ _ _ _ h]
  have h1:t/10<d.size:=by omega
  have h2:=Bc BM (⟨0,0⟩:Pt) (d.toList.map (·.1)) (t/10) (t%10) (by simpa using h1) (Nat.mod_lt _ (by decide)) (v:=(Lz d[t/10]!)[t%10]!) (by
    rw [List.getD,List.getElem?_map,show d.toList[t/10]?=some d[t/10] from by simp [h1],getElem!_pos d (t/10) h1]
    show (Am (d[t/10]).1)[t%10]?=some (Am (d[t/10]).1)[t%10]!
    have hl:t%10<(Am (d[t/10]).1).length:=by rw [BM];exact Nat.mod_lt _ (by decide)
    rw [List.getElem?_eq_getElem hl,getElem!_pos (Am (d[t/10]).1) (t%10) hl])
  rw [show t/10*10+t%10=t by omega] at h2
  exact h2
theorem Wy (x:aX):∀v∈Lz x,v.oneCell'=true:=λv hv=>by
  unfold Lz Am AO at hv
  simp only [List.mem_cons,List.mem_append,List.not_mem_nil,or_false] at hv
  rcases hv with (rfl|rfl|rfl|rfl|rfl)|(rfl|rfl|rfl|rfl|rfl)<;>rfl
theorem UN (xs:List Pt) (p:Option Addr) (n c:Nat) (T:TypeId) (ho:OwnOk p n c) (hp0:p≠none) (hn:n=xs.length) (hN:n<4611686018427387904) (hb:∀x∈xs,B_ x<=1000) (w:World) (hrow:∀b,p.map (·.block)=some b->∃o,w.heap[b]?=some o/\(rowW p T 10 n c (rowsL Am xs)).P o) :
    Calls prog 123 #[.slice p n c,.func (.func 124) #[] #[]] w λe w'=>e=.returned (.tuple #[])/\Ji w w' (p.map (·.block))/\∃ys:List Pt,ys.Perm xs/\∀b,p.map (·.block)=some b->∃o,w'.heap[b]?=some o/\(rowW p T 10 n c (rowsL Am ys)).P o:=by
  cases hp:p with
  | none=>exact absurd hp hp0
  | some a =>
    subst hp
    obtain ⟨o,hob,cur,rfl,hsz,hcur⟩:=hrow a.block rfl
    have hat:=ho.at0 a rfl
    have hle:=ho.le
    obtain ⟨ds,hds⟩:=dW xs hb
    have hdl:ds.length=n:=by rw [hn,<-hds,List.length_map]
    obtain ⟨d,hd⟩:∃d,d=ds.toArray:=⟨_,rfl⟩
    have hdz:d.size=n:=by rw [hd];simpa using hdl
    have hdx:d.toList.map (·.1)=xs:=by rw [hd];exact hds
    have hH:Go.Sort.HoldsK Lz 10 w a.block 0 d:=λj hj=>by
      have hj':j<d.size*10:=by simpa using hj
      refine ⟨?_,by simp [World.frozen?,hob]⟩
      have h1:(cur.toList.take (n*10))[j]?=(rowsL Am xs)[j]?:=by rw [hcur]
      rw [List.getElem?_take_of_lt Z,Array.getElem?_toList,<-hdx,Ma hj'] at h1
      show w.cell? ⟨a.block,0+j,none⟩=some (id (Go.Sort.flatK Lz 10 d)[j]!)
      unfold World.cell?
      simp only [hob,Nat.zero_add]
      exact h1
    have hlt:a.block<w.heap.size:=by
      rcases Nat.lt_or_ge a.block w.heap.size with h|h
      · exact h
      · rw [Array.getElem?_eq_none h] at hob;cases hob
    have h:=Tryz.slices_SortFunc_Point 10 isAgg51 sizeOf51 Lz (λx=>BM x.1) Wy az cq 124 #[] a.block 0 c d w call124 (ak a.block 0 d.size w) hH hlt Z
    rw [hdz] at h
    rw [hat]
    refine h.mono ?_
    rintro e w' ⟨rfl,d',m,os,⟨hz',_,hperm⟩,_,rfl⟩
    have hz2:d'.size=n:=by rw [hz',hdz]
    have hperm':d'.toList.Perm d.toList:=by
      have e1:d'.extract 0 n=d':=by rw [<-hz2];exact Array.extract_size
      have e2:d.extract 0 n=d:=by rw [<-hdz];exact Array.extract_size
      rw [e1,e2] at hperm
      exact hperm
    have hF:(Go.Sort.flatK Lz 10 d').size=n*10:=by rw [Go.Sort.size_flatK,hz2]
    refine ⟨rfl,⟨⟨rfl,rfl,rfl,by simp [sortWorldK,Go.Sort.grow,Go.Sort.putRowK,Go.Sort.putRow,Go.Sort.mapBlock,Go.Sort.ahead],λj hj hne=>?_⟩,by show w.drawn<=w.drawn+m;omega⟩,d'.toList.map (·.1),by rw [<-hdx];exact hperm'.map _,λb e=>?_⟩
    · have hne':a.block≠j:=λe=>hne (by rw [e];rfl)
      unfold sortWorldK
      rw [Go.Sort.heap_grow_old _ _ (by simpa [Go.Sort.putRowK,Go.Sort.putRow,Go.Sort.mapBlock,Go.Sort.ahead] using hj)]
      simp [Go.Sort.putRowK,Go.Sort.putRow,Go.Sort.mapBlock,Go.Sort.ahead,Array.getElem?_modify,hne']
    · injection e with e
      subst e
      refine ⟨.cells (Go.Sort.putCells id 0 (Go.Sort.flatK Lz 10 d') cur) T (0,0),?_,_,rfl,by simp [Go.Sort.putCells,hsz],?_⟩
      · unfold sortWorldK
        rw [Go.Sort.heap_grow_old _ _ (by simpa [Go.Sort.putRowK,Go.Sort.putRow,Go.Sort.mapBlock,Go.Sort.ahead] using hlt)]
        simp [Go.Sort.putRowK,Go.Sort.putRow,Go.Sort.mapBlock,Go.Sort.ahead,Array.getElem?_modify,hob,Go.Sort.onCells]
      · apply List.ext_getElem?
        intro j
        have hlen:(rowsL Am (d'.toList.map (·.1))).length=n*10:=by rw [Ak BM,List.length_map,Array.length_toList,hz2]
        by_cases hj:j<n*10
        · have hcs:n*10<=c*10:=Nat.mul_le_mul_right _ hle
          rw [List.getElem?_take_of_lt hj,Array.getElem?_toList,Ma (by rw [hz2];exact hj)]
          unfold Go.Sort.putCells
          rw [Array.getElem?_mapIdx,Array.getElem?_eq_getElem Z,Option.map_some,if_pos ⟨Nat.zero_le _,Z⟩]
          rfl
        · rw [List.getElem?_take_eq_none Z,List.getElem?_eq_none Z]
section
variable {P:Program} {ops:Array Oper} {rest:List Oper} {Q:Exit->Act->World->Prop} {n:Nat} {F:List (Nat×Value)} {w0:BJ} {L:List As}
theorem AE.callWX {o:Oper} {f:FuncId} {args:Array Value} {v:Value} {α:Type} {K:α->Prop} {cs':α->List Value} (i:Nat) {q:Option Addr} {T:TypeId} {z m c:Nat} {cs:List Value} (hw:Wt ops n F o)
    (he:∀a w,C6 n a F->BN w0 w L->(execOp a.eval o).run P w=.ok (.enter f args) w) (hi:L[i]?=some (rowW q T z m c cs))
    (hc:∀w,BN w0 w L->Calls P f args w λe w'=>e=.returned v/\Ji w w' (q.map (·.block))/\∃y,K y/\∀b,q.map (·.block)=some b->∃o,w'.heap[b]?=some o/\(rowW q T z m c (cs' y)).P o)
    (hd:∀d,o.dst=some d->d<n) (next:∀y,K y->AE P ops rest Q n (match o.dst with|some d=>(d,v)::F|none=>F) w0 (L.set i (rowW q T z m c (cs' y)))):AE P ops (o::rest) Q n F w0 L:=λa w ha hW=>by
  unfold wpList
  rw [if_pos (hw a ha)]
  left
  unfold Oper.wp
  rw [he a w ha hW,Oper.upon_enter]
  refine (hc w hW).mono ?_
  rintro e w' ⟨rfl,hg,y,hk,hr⟩
  have hW':=hW.renew hi rfl hg (y:=rowW q T z m c (cs' y)) λb e=>⟨.inl e,hr b e⟩
  have next:=next y hk
  cases hdd:o.dst with
  | none=>rw [hdd] at next;exact next _ _ ha.put_none hW'
  | some d=>rw [hdd] at next;exact next _ _ (ha.put (hd d hdd)) hW'
end
end
end Go.Proofs.YtpgncndhhhllfaaGreatDoor
