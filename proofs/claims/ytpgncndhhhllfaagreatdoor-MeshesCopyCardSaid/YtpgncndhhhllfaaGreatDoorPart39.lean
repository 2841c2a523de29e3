import Derived.Test.YtpgncndhhhllfaaGreatDoorPart06
import Derived.Test.YtpgncndhhhllfaaGreatDoorPart31
import Derived.Test.YtpgncndhhhllfaaGreatDoorPart32
import Derived.Test.YtpgncndhhhllfaaGreatDoorPart38
namespace Go.Proofs.YtpgncndhhhllfaaGreatDoor
open Go Go.RowKit Go.Proofs.Tryz
set_option linter.unusedVariables false
set_option linter.unusedSimpArgs false
section
set_option maxRecDepth 100000
theorem Ta {ps:List Pt} {ts ss:List T3} (x:MX ps ts ss) (hv:MM ps ts ss) (w:World) {S:Nat->Prop} (hx:Ro S w x):Calls Tryz.prog 68 #[(aG (DA x))] w (Al w (Value.bool true)):=by
 have hp:=hv.pl
 have htl:=hv.tl
 have hsl:=hv.sl
 have h0:=hv.t0
 have lx:=Cx (W:=w) hx
 refine Aj (args:=[(aG (DA x))]) (L:=[AG x.a.p (rowsL Af ps),AG x.b.p (rowsL BA ts),AG x.c.p (rowsL BA ss)]) Tryz.func68 rfl rfl (AV rfl) (Ds hx Ax) (AE.subF (sL [0] rfl) (q4 (BU (cs:=DA x) rfl λb1=>asg' rfl (q3 (sL [1,2] rfl) ?_))))
 refine AK (v:=(pP b1 0)) (AA rfl Tryz.underlying30 rfl Tryz.sizeOf28 rfl) rfl (BJ 0 (Value.slice x.a.p ps.length x.a.c) CW rfl (AK (v:=(vN ps.length)) (AF rfl Tryz.underlying28) rfl (asg' rfl (q6 (sL [1,2,3] rfl) (q4 ?_)))))
 refine AK (v:=(pP b1 1)) (AA rfl Tryz.underlying30 rfl Tryz.sizeOf23 rfl) rfl (BJ 0 (Value.slice x.b.p ts.length x.b.c) DG rfl (AK (v:=(vN ts.length)) (AF rfl Tryz.underlying23) rfl (AQ rfl (AD.nil (AC.subF (sL [1,2,3,12,13,14] rfl) ?_)))))
 refine AC.then_ (AE.block ?_)
 refine AE.lp1 (tg λ(i:Nat)=>i<=ts.length) (tg λ(i:Nat)=>[(1,(pP b1 0)),(3,(vN ps.length)),(12,(Value.slice x.b.p ts.length x.b.c)),(13,(vN ts.length)),(14,(vN i))]) (tg λ(i:Nat)=>[Ad b1 30 (DA x),AG x.a.p (rowsL Af ps),AG x.b.p (rowsL BA ts),AG x.c.p (rowsL BA ss)]) (tg λ(i:Nat)=>ts.length-i) 0 (Nat.zero_le _) (sF rfl) sr (λi hJ=>?_)
 have hi:=hJ
 refine q4 (AK (Ai (c:=(decide (i<ts.length))) rfl rfl (CI (a:=i) (b:=ts.length))) rfl (AD.nil (q1 ?_)))
 refine AE.cond rfl (λhc0=>?_) (λhc0=>?_)
 ·replace hc0:=of_decide_eq_true hc0
  obtain ⟨T,hT⟩:∃q,q=ts.getD i (0,0,0):=⟨_,rfl⟩
  obtain ⟨g1,g2,g3⟩:=DV (DD hv.num hc0)
  have hps:=hv.pos i hc0
  rw [<-hT] at g1 g2 g3 hps
  have z0:B3 (ps.getD T.1 ⟨0,0⟩)<=1000000:=hv.szM _
  have z1:B3 (ps.getD T.2.1 ⟨0,0⟩)<=1000000:=hv.szM _
  have z2:B3 (ps.getD T.2.2 ⟨0,0⟩)<=1000000:=hv.szM _
  refine AE.skip (q1 (AE.block (q4 (AK (v:=(pP (pB x.b.p) (pO x.b.p+i*3))) (AO (j:=i) rfl rfl x.b.ok Tryz.underlying23 Tryz.sizeOf53 rfl (by omega)) rfl (AK (v:=(aG (BA (ts.getD i ((0,0,0):Nat×Nat×Nat))))) (AT (vs:=BA (ts.getD i ((0,0,0):Nat×Nat×Nat))) (i:=2) rfl rfl (A7.ne x.b.ok (by omega)) Gx (Aq Be _ _ _ (by omega)) (Be _)) rfl ?_)))))
  refine AD.retell (k:=17) (u:=(aG (BA T))) rfl (by rw [hT]) (al Ng rfl λb2=>A8 rfl Tryz.sizeOf53 rfl (q6 (sL [1,3,12,13,14,5] rfl) (CS [(0,true),(1,true),(2,true),(3,false),(4,true),(5,true),(6,true),(7,true),(8,true),(9,false),(10,true),(11,true),(12,true),(13,true),(14,true),(15,true),(16,false),(17,true),(18,true),(19,true),(20,true),(21,true),(22,true),(23,true),(24,true),(25,true),(26,true),(27,true),(28,true),(29,true),(30,true),(31,true),(32,true),(33,true),(34,true),(35,true),(36,true),(37,true),(38,false),(39,true),(40,true)] sr (Ap (v:=(pP b2 0)) rfl (AI (j:=0) rfl rfl Tryz.underlying53 Tryz.sizeOf3 rfl (by decide) rfl) ?_))))
  refine Ba 0 (vN T.1) Bo rfl (BT rfl (OkE.imp rfl (CN (args:=[(vN T.1),(vN ps.length)]) (v:=(Value.bool true)) Tryz.call85 (λw hw=>(by have h9:=By T.1 ps.length w;rw [decide_eq_true (by omega)] at h9;exact h9)) rfl (OkE.back sr (Ap rfl (BF (c:=false) rfl rfl) ?_)))))
  refine BT rfl (OkE.pas (v:=(pP b2 1)) rfl (AB rfl) (AI (j:=1) rfl rfl Tryz.underlying53 Tryz.sizeOf3 rfl (by decide) rfl) rfl rfl (OkE.pas (v:=(vN T.2.1)) rfl (AB rfl) (AL (i:=0) (v:=(vN T.2.1)) rfl rfl Bo.a rfl) rfl rfl (OkE.pas (v:=(vN ps.length)) rfl (AB rfl) (A9 rfl) rfl rfl (OkE.imp rfl (AD.call (v:=(Value.bool true)) (AB rfl) (An (args:=[(vN T.2.1),(vN ps.length)]) rfl rfl Tryz.call85) (λw hw=>(by have h9:=By T.2.1 ps.length w;rw [decide_eq_true (by omega)] at h9;exact h9)) rfl (AV rfl) ?_)))))
  refine OkE.back sr (OkE.pas (v:=(Value.bool false)) rfl (AB rfl) (BF (c:=false) rfl rfl) rfl rfl (Ap (v:=(Value.bool false)) rfl (AR rfl rfl) (BT rfl (OkE.pas (v:=(pP b2 2)) rfl (AB rfl) (AI (j:=2) rfl rfl Tryz.underlying53 Tryz.sizeOf3 rfl (by decide) rfl) rfl rfl (OkE.pas (v:=(vN T.2.2)) rfl (AB rfl) (AL (i:=0) (v:=(vN T.2.2)) rfl rfl Bo.a rfl) rfl rfl ?_)))))
  refine OkE.pas (v:=(vN ps.length)) rfl (AB rfl) (A9 rfl) rfl rfl (OkE.imp rfl (AD.call (v:=(Value.bool true)) (AB rfl) (An (args:=[(vN T.2.2),(vN ps.length)]) rfl rfl Tryz.call85) (λw hw=>(by have h9:=By T.2.2 ps.length w;rw [decide_eq_true (by omega)] at h9;exact h9)) rfl (AV rfl) (OkE.back sr (OkE.pas (v:=(Value.bool false)) rfl (AB rfl) (BF (c:=false) rfl rfl) rfl rfl (Ap (v:=(Value.bool false)) rfl (AR rfl rfl) ?_)))))
  refine BT rfl (OkE.pas (v:=(pP b1 0)) rfl (AB rfl) (AA rfl Tryz.underlying30 rfl Tryz.sizeOf28 rfl) rfl rfl (OkE.pas (v:=(Value.slice x.a.p ps.length x.a.c)) rfl (AB rfl) (AL (i:=1) (v:=(Value.slice x.a.p ps.length x.a.c)) rfl rfl CW.a rfl) rfl rfl (OkE.pas (v:=(pP b2 0)) rfl (AB rfl) (AI (j:=0) rfl rfl Tryz.underlying53 Tryz.sizeOf3 rfl (by decide) rfl) rfl rfl (OkE.pas (v:=(vN T.1)) rfl (AB rfl) (AL (i:=0) (v:=(vN T.1)) rfl rfl Bo.a rfl) rfl rfl (OkE.pas (v:=(pP (pB x.a.p) (pO x.a.p+T.1*10))) rfl (AB rfl) (AO (j:=T.1) rfl rfl x.a.ok Tryz.underlying28 Tryz.sizeOf51 rfl (by omega)) rfl rfl ?_)))))
  refine OkE.pas (v:=(aG (Af (ps.getD T.1 (⟨0,0⟩:Pt))))) rfl (AB rfl) (AT (vs:=Af (ps.getD T.1 (⟨0,0⟩:Pt))) (i:=2) rfl rfl (A7.ne x.a.ok (by omega)) BM (Aq Av _ _ _ (by omega)) (Av _)) rfl rfl (OkE.pas (v:=(pP b1 0)) rfl (AB rfl) (AA rfl Tryz.underlying30 rfl Tryz.sizeOf28 rfl) rfl rfl (OkE.pas (v:=(Value.slice x.a.p ps.length x.a.c)) rfl (AB rfl) (AL (i:=1) (v:=(Value.slice x.a.p ps.length x.a.c)) rfl rfl CW.a rfl) rfl rfl (OkE.pas (v:=(pP b2 1)) rfl (AB rfl) (AI (j:=1) rfl rfl Tryz.underlying53 Tryz.sizeOf3 rfl (by decide) rfl) rfl rfl (OkE.pas (v:=(vN T.2.1)) rfl (AB rfl) (AL (i:=0) (v:=(vN T.2.1)) rfl rfl Bo.a rfl) rfl rfl (OkE.pas (v:=(pP (pB x.a.p) (pO x.a.p+T.2.1*10))) rfl (AB rfl) (AO (j:=T.2.1) rfl rfl x.a.ok Tryz.underlying28 Tryz.sizeOf51 rfl (by omega)) rfl rfl ?_)))))
  refine OkE.pas (v:=(aG (Af (ps.getD T.2.1 (⟨0,0⟩:Pt))))) rfl (AB rfl) (AT (vs:=Af (ps.getD T.2.1 (⟨0,0⟩:Pt))) (i:=2) rfl rfl (A7.ne x.a.ok (by omega)) BM (Aq Av _ _ _ (by omega)) (Av _)) rfl rfl (OkE.pas (v:=(pP b1 0)) rfl (AB rfl) (AA rfl Tryz.underlying30 rfl Tryz.sizeOf28 rfl) rfl rfl (OkE.pas (v:=(Value.slice x.a.p ps.length x.a.c)) rfl (AB rfl) (AL (i:=1) (v:=(Value.slice x.a.p ps.length x.a.c)) rfl rfl CW.a rfl) rfl rfl (OkE.pas (v:=(pP b2 2)) rfl (AB rfl) (AI (j:=2) rfl rfl Tryz.underlying53 Tryz.sizeOf3 rfl (by decide) rfl) rfl rfl (OkE.pas (v:=(vN T.2.2)) rfl (AB rfl) (AL (i:=0) (v:=(vN T.2.2)) rfl rfl Bo.a rfl) rfl rfl (OkE.pas (v:=(pP (pB x.a.p) (pO x.a.p+T.2.2*10))) rfl (AB rfl) (AO (j:=T.2.2) rfl rfl x.a.ok Tryz.underlying28 Tryz.sizeOf51 rfl (by omega)) rfl rfl ?_)))))
  refine OkE.pas (v:=(aG (Af (ps.getD T.2.2 (⟨0,0⟩:Pt))))) rfl (AB rfl) (AT (vs:=Af (ps.getD T.2.2 (⟨0,0⟩:Pt))) (i:=2) rfl rfl (A7.ne x.a.ok (by omega)) BM (Aq Av _ _ _ (by omega)) (Av _)) rfl rfl (OkE.imp rfl (AD.call (v:=(vI ((Am (ps.getD T.1 (⟨0,0⟩:Pt)) (ps.getD T.2.1 (⟨0,0⟩:Pt)) (ps.getD T.2.2 (⟨0,0⟩:Pt))).num.sign))) (AB rfl) (An (args:=[(aG (Af (ps.getD T.1 (⟨0,0⟩:Pt)))),(aG (Af (ps.getD T.2.1 (⟨0,0⟩:Pt)))),(aG (Af (ps.getD T.2.2 (⟨0,0⟩:Pt))))]) rfl rfl Tryz.call121) (λw hw=>Gz (ps.getD T.1 (⟨0,0⟩:Pt)) (ps.getD T.2.1 (⟨0,0⟩:Pt)) (ps.getD T.2.2 (⟨0,0⟩:Pt)) (by omega) w) rfl (AV rfl) (OkE.back sr (OkE.pas (v:=(Value.bool false)) rfl (AB rfl) (Bk (c:=false) rfl rfl (decide_eq_false (λh9=>h9 hps))) rfl rfl (Ap (v:=(Value.bool false)) rfl (AR rfl rfl) ?_)))))
  refine OkE.nil (AC.subF (sL [1,3,12,13,14,5,58] rfl) (AC.then_ (AE.cond_false rfl (AE.skip (AC.in_normal ?_)))))
  exact AC.then_ (AE.region (AK (Ac (c:=((i+1:Nat):Int)) rfl rfl (Ae (a:=i) (b:=1) (by omega))) rfl (AQ rfl (AD.nil (AC.subF (sL [1,3,12,13,14,5] rfl) (AC.round1 (i+1) (by omega) (by omega) (sF rfl) (sl sr)))))))
 ·replace hc0:=of_decide_eq_false hc0
  refine AE.exit (AC.then_exit (AC.round1_exit (AC.in_exit (q1 (q4 ?_)))))
  refine AK (v:=(pP b1 2)) (AA rfl Tryz.underlying30 rfl Tryz.sizeOf24 rfl) rfl (BJ 0 (Value.slice x.c.p ss.length x.c.c) D5 rfl (AK (v:=(vN ss.length)) (AF rfl Tryz.underlying24) rfl (AQ rfl (AD.nil (AC.subF (sL [1,3,12,13,14,61,62,63] rfl) ?_)))))
  refine AC.then_ (AE.block ?_)
  refine AE.lp1 (tg λ(i:Nat)=>i<=ss.length) (tg λ(i:Nat)=>[(1,(pP b1 0)),(3,(vN ps.length)),(61,(Value.slice x.c.p ss.length x.c.c)),(62,(vN ss.length)),(63,(vN i))]) (tg λ(i:Nat)=>[Ad b1 30 (DA x),AG x.a.p (rowsL Af ps),AG x.b.p (rowsL BA ts),AG x.c.p (rowsL BA ss)]) (tg λ(i:Nat)=>ss.length-i) 0 (Nat.zero_le _) (sF rfl) sr (λi hJ=>?_)
  have hi:=hJ
  refine q4 (AK (Ai (c:=(decide (i<ss.length))) rfl rfl (CI (a:=i) (b:=ss.length))) rfl (AD.nil (q1 ?_)))
  refine AE.cond rfl (λhc2=>?_) (λhc2=>?_)
  ·replace hc2:=of_decide_eq_true hc2
   obtain ⟨sd,hsd⟩:∃q,q=ss.getD i (0,0,0):=⟨_,rfl⟩
   obtain ⟨g1,g2,g3⟩:=hv.sid i hc2
   rw [<-hsd] at g1 g2 g3
   refine AE.skip (q1 (AE.block (q4 (AK (v:=(pP (pB x.c.p) (pO x.c.p+i*3))) (AO (j:=i) rfl rfl x.c.ok Tryz.underlying24 Tryz.sizeOf55 rfl (by omega)) rfl (AK (v:=(aG (BA (ss.getD i ((0,0,0):Nat×Nat×Nat))))) (AT (vs:=BA (ss.getD i ((0,0,0):Nat×Nat×Nat))) (i:=3) rfl rfl (A7.ne x.c.ok (by omega)) NB (Aq Be _ _ _ (by omega)) (Be _)) rfl ?_)))))
   refine AD.retell (k:=66) (u:=(aG (BA sd))) rfl (by rw [hsd]) (al Xr rfl λb2=>A8 rfl Tryz.sizeOf55 rfl (q3 (sL [1,3,61,62,63,7] rfl) (AK (v:=(pP b2 0)) (AA rfl Tryz.underlying55 rfl Tryz.sizeOf3 rfl) rfl (BJ 0 (vN sd.1) Bo rfl ?_))))
   refine AQ rfl (CN (args:=[(vN sd.1),(vN ps.length)]) (v:=(Value.bool true)) Tryz.call85 (λw hw=>(by have h9:=By sd.1 ps.length w;rw [decide_eq_true (by omega)] at h9;exact h9)) rfl (AK (BF (c:=false) rfl rfl) rfl (AQ rfl (AD.step (v:=(pP b2 1)) (AB rfl) (AA rfl Tryz.underlying55 rfl Tryz.sizeOf3 rfl) rfl (AV rfl) (AD.step (v:=(vN sd.2.1)) (AB rfl) (AL (i:=0) (v:=(vN sd.2.1)) rfl rfl Bo.a rfl) rfl (AV rfl) ?_)))))
   refine AD.step (v:=(vN ps.length)) (AB rfl) (A9 rfl) rfl (AV rfl) (AD.call (v:=(Value.bool true)) (AB rfl) (An (args:=[(vN sd.2.1),(vN ps.length)]) rfl rfl Tryz.call85) (λw hw=>(by have h9:=By sd.2.1 ps.length w;rw [decide_eq_true (by omega)] at h9;exact h9)) rfl (AV rfl) (AD.step (v:=(Value.bool false)) (AB rfl) (BF (c:=false) rfl rfl) rfl (AV rfl) (AK (v:=(Value.bool false)) (AR rfl rfl) rfl (AQ rfl (AD.step (v:=(pP b2 2)) (AB rfl) (AA rfl Tryz.underlying55 rfl Tryz.sizeOf3 rfl) rfl (AV rfl) ?_)))))
   refine AD.step (v:=(vN sd.2.2)) (AB rfl) (AL (i:=0) (v:=(vN sd.2.2)) rfl rfl Bo.a rfl) rfl (AV rfl) (AD.step (v:=(Value.bool false)) (AB rfl) (Ai (c:=false) rfl rfl (decide_eq_false (by omega))) rfl (AV rfl) (AK (v:=(Value.bool false)) (AR rfl rfl) rfl (AQ rfl (AD.step (v:=(pP b2 2)) (AB rfl) (AA rfl Tryz.underlying55 rfl Tryz.sizeOf3 rfl) rfl (AV rfl) (AD.step (v:=(vN sd.2.2)) (AB rfl) (AL (i:=0) (v:=(vN sd.2.2)) rfl rfl Bo.a rfl) rfl (AV rfl) ?_)))))
   refine AD.step (v:=(Value.bool false)) (AB rfl) (Bb (c:=false) rfl rfl (decide_eq_false (by omega))) rfl (AV rfl) (AK (v:=(Value.bool false)) (AR rfl rfl) rfl (AD.nil (AC.subF (sL [1,3,61,62,63,7,88] rfl) (AC.then_ (AE.cond_false rfl ?_)))))
   refine AE.skip (AC.in_normal (AC.then_ (AE.region (AK (Ac (c:=((i+1:Nat):Int)) rfl rfl (Ae (a:=i) (b:=1) (by omega))) rfl (AQ rfl ?_)))))
   exact AD.nil (AC.subF (sL [1,3,61,62,63,7] rfl) (AC.round1 (i+1) (by omega) (by omega) (sF rfl) (sl sr)))
  ·replace hc2:=of_decide_eq_false hc2
   refine AE.exit (AC.then_exit (AC.round1_exit (AC.in_exit (q2 (AK (v:=(pP b1 1)) (AA rfl Tryz.underlying30 rfl Tryz.sizeOf23 rfl) rfl ?_)))))
   refine BJ 0 (Value.slice x.b.p ts.length x.b.c) DG rfl (AK (v:=(vN ts.length)) (AF rfl Tryz.underlying23) rfl (AK (Bb (c:=true) rfl rfl (decide_eq_true (by omega))) rfl (asg' rfl (AD.nil (AC.subF (sL [1,3,61,62,63,2] rfl) ?_)))))
   exact AC.then_ (AE.ret (AJ rfl (AS (v:=(Value.bool true)) rfl) (λw hw=>⟨rfl,hw.out⟩)))
theorem VO (a b c p:Pt) (hs:B3 a+B3 b+B3 c+B3 p<=268435456) (w:World):Calls Tryz.prog 129 #[aG (Af a),aG (Af b),aG (Af c),aG (Af p)] w (Al w (vN (Nl a b c p))):=by
 unfold Nl
 by_cases h:Am a b c=0
 ·rw [if_pos h];exact Pj a b c p hs h w
 ·rw [if_neg h];exact Rz a b c p hs h w
set_option maxHeartbeats 1000000 in
theorem RO {ps:List Pt} {ts ss:List T3} (x:MX ps ts ss) (hv:MM ps ts ss) (w:World) {S:Nat->Prop} (hx:Ro S w x):Calls Tryz.prog 70 #[(aG (DA x))] w (Al w (Value.bool true)):=by
 have hp:=hv.pl
 have htl:=hv.tl
 have hsl:=hv.sl
 have h0:=hv.t0
 have hq:∀t:T3,B3 (Bd ps t).1<=1000000/\B3 (Bd ps t).2.1<=1000000/\B3 (Bd ps t).2.2<=1000000:=λt=>⟨hv.szM _,hv.szM _,hv.szM _⟩
 have lx:=Cx (W:=w) hx
 refine Aj (args:=[(aG (DA x))]) (L:=[AG x.a.p (rowsL Af ps),AG x.b.p (rowsL BA ts),AG x.c.p (rowsL BA ss)]) Tryz.func70 rfl rfl (AV rfl) (Ds hx Ax) (AE.subF (sL [0] rfl) (q4 (BU (cs:=DA x) rfl λb1=>asg' rfl (q6 (sL [1,2] rfl) ?_))))
 refine q4 (AK (v:=(pP b1 1)) (AA rfl Tryz.underlying30 rfl Tryz.sizeOf23 rfl) rfl (BJ 0 (Value.slice x.b.p ts.length x.b.c) DG rfl (AK (v:=(vN ts.length)) (AF rfl Tryz.underlying23) rfl (AQ rfl (AD.nil ?_)))))
 refine AC.subF (sL [1,2,11,12] rfl) (AC.then_ (AE.block ?_))
 refine AE.lp1 (tg λ(i:Nat)=>i<=ts.length) (tg λ(i:Nat)=>[(1,(pP b1 0)),(11,(vN ts.length)),(12,(vN i))]) (tg λ(i:Nat)=>[Ad b1 30 (DA x),AG x.a.p (rowsL Af ps),AG x.b.p (rowsL BA ts),AG x.c.p (rowsL BA ss)]) (tg λ(i:Nat)=>ts.length-i) 0 (Nat.zero_le _) (sF rfl) sr (λi hJ=>?_)
 have hi:=hJ
 refine q4 (AK (Ai (c:=(decide (i<ts.length))) rfl rfl (CI (a:=i) (b:=ts.length))) rfl (AD.nil (q1 ?_)))
 refine AE.cond rfl (λhc0=>?_) (λhc0=>?_)
 ·replace hc0:=of_decide_eq_true hc0
  refine AE.skip (q1 (AE.block (q4 (AQ rfl (asg' rfl ?_)))))
  refine q3 (sL [1,11,12,3] rfl) (BG 0 Bi rfl (AQ rfl (CN Tryz.call127 (λw hw=>Is x i (by omega) (by omega) (by omega) (DD hv.num (by omega)) w (inS hw 1 rfl lx)) rfl (al SP rfl λb2=>A8 rfl Tryz.sizeOf207 rfl ?_))))
  refine q6 (sL [1,11,12,3,4] rfl) (q4 (AQ rfl (AQ rfl (AD.nil (AC.then_ ?_)))))
  refine AE.block ?_
  refine AE.lp1 (tg λ(k:Nat)=>k<=i) (tg λ(k:Nat)=>[(1,(pP b1 0)),(11,(vN ts.length)),(12,(vN i)),(3,(vN i)),(4,(pP b2 0)),(18,(vN i)),(19,(vN k))]) (tg λ(k:Nat)=>[Ad b2 207 (Gi (Bd ps (ts.getD i (0,0,0)))),Ad b1 30 (DA x),AG x.a.p (rowsL Af ps),AG x.b.p (rowsL BA ts),AG x.c.p (rowsL BA ss)]) (tg λ(k:Nat)=>i-k) 0 (Nat.zero_le _) (sF rfl) sr (λk hJ=>?_)
  have hk:=hJ
  refine q4 (AK (Ai (c:=(decide (k<i))) rfl rfl (CI (a:=k) (b:=i))) rfl (AD.nil (q1 ?_)))
  refine AE.cond rfl (λhc1=>?_) (λhc1=>?_)
  ·replace hc1:=of_decide_eq_true hc1
   refine AE.skip (q1 (AE.block (q4 (AQ rfl (asg' rfl ?_)))))
   refine q3 (sL [1,11,12,3,4,18,19,5] rfl) (BG 1 Bi rfl (AQ rfl (CN Tryz.call127 (λw hw=>Is x k (by omega) (by omega) (by omega) (DD hv.num (by omega)) w (inS hw 2 rfl lx)) rfl (al SP rfl λb3=>A8 rfl Tryz.sizeOf207 rfl ?_))))
   refine q3 (sL [1,11,12,3,4,18,19,6] rfl) (BG 1 KX rfl (BG 0 KX rfl (ck' Tryz.call128 (Qr (Bd ps (ts.getD i (0,0,0))) (Bd ps (ts.getD k (0,0,0))) (hq _) (hq _)) rfl (AK (BF (c:=(!(Dx (Bd ps (ts.getD i (0,0,0))) (Bd ps (ts.getD k (0,0,0)))))) rfl rfl) rfl (AQ rfl ?_)))))
   refine AD.mid (FM:=[(1,(pP b1 0)),(11,(vN ts.length)),(12,(vN i)),(3,(vN i)),(4,(pP b2 0)),(18,(vN i)),(19,(vN k)),(6,(pP b3 0)),(25,(aG (Gi (Bd ps (ts.getD i (0,0,0)))))),(26,(aG (Gi (Bd ps (ts.getD k (0,0,0)))))),(27,(Value.bool (Dx (Bd ps (ts.getD i (0,0,0))) (Bd ps (ts.getD k (0,0,0)))))),(28,(Value.bool (!(Dx (Bd ps (ts.getD i (0,0,0))) (Bd ps (ts.getD k (0,0,0))))))),(29,(Value.bool (!(Dx (Bd ps (ts.getD i (0,0,0))) (Bd ps (ts.getD k (0,0,0))))))),(34,(Value.bool ((!(Dx (Bd ps (ts.getD i (0,0,0))) (Bd ps (ts.getD k (0,0,0)))))&&(!(Dx (Bd ps (ts.getD k (0,0,0))) (Bd ps (ts.getD i (0,0,0))))))))]) (LM:=[Ad b3 207 (Gi (Bd ps (ts.getD k (0,0,0)))),Ad b2 207 (Gi (Bd ps (ts.getD i (0,0,0)))),Ad b1 30 (DA x),AG x.a.p (rowsL Af ps),AG x.b.p (rowsL BA ts),AG x.c.p (rowsL BA ss)]) 5 ?_ ?_
   ·rcases Bool.eq_false_or_eq_true (!(Dx (Bd ps (ts.getD i (0,0,0))) (Bd ps (ts.getD k (0,0,0))))) with hg1|hg1
    ·skip
     refine AD.retell (k:=29) (u:=Value.bool true) rfl (by rw [hg1]) ?_
     have hg1':=hg1
     simp only [Bool.and_eq_true,Bool.or_eq_true,Bool.and_eq_false_iff,Bool.or_eq_false_iff,Bool.not_eq_true',Bool.not_eq_false',decide_eq_true_eq,decide_eq_false_iff_not] at hg1'
     exact AD.step (v:=(aG (Gi (Bd ps (ts.getD k (0,0,0)))))) (AB rfl) (Ak (i:=0) (vs:=Gi (Bd ps (ts.getD k (0,0,0)))) rfl rfl KX.a KX.s rfl rfl) rfl (AV rfl) (AD.step (v:=(aG (Gi (Bd ps (ts.getD i (0,0,0)))))) (AB rfl) (Ak (i:=1) (vs:=Gi (Bd ps (ts.getD i (0,0,0)))) rfl rfl KX.a KX.s rfl rfl) rfl (AV rfl) (AD.call (v:=(Value.bool (Dx (Bd ps (ts.getD k (0,0,0))) (Bd ps (ts.getD i (0,0,0)))))) (AB rfl) (An (args:=[(aG (Gi (Bd ps (ts.getD k (0,0,0))))),(aG (Gi (Bd ps (ts.getD i (0,0,0)))))]) rfl rfl Tryz.call128) (λw hw=>Qr (Bd ps (ts.getD k (0,0,0))) (Bd ps (ts.getD i (0,0,0))) (hq _) (hq _) w) rfl (AV rfl) (AD.step (v:=(Value.bool (!(Dx (Bd ps (ts.getD k (0,0,0))) (Bd ps (ts.getD i (0,0,0))))))) (AB rfl) (BF (c:=(!(Dx (Bd ps (ts.getD k (0,0,0))) (Bd ps (ts.getD i (0,0,0)))))) rfl rfl) rfl (AV rfl) (AK (v:=(Value.bool (!(Dx (Bd ps (ts.getD k (0,0,0))) (Bd ps (ts.getD i (0,0,0))))))) (AX rfl rfl) rfl (AD.nil (AC.mid (sS rfl (sS rfl (sS rfl (sS rfl (sS rfl (sS rfl (sS rfl (sS rfl (sS rfl (sS rfl (sS rfl (sS rfl (sS (by first|rfl|(rw [hg1];rfl)|rw [hg1]) (sS (by first|rfl|(rw [hg1];rfl)|rw [hg1]) (sN))))))))))))))) (List.Sublist.refl _)))))))
    ·skip
     refine AD.retell (k:=29) (u:=Value.bool false) rfl (by rw [hg1]) ?_
     have hg1':=hg1
     simp only [Bool.and_eq_true,Bool.or_eq_true,Bool.and_eq_false_iff,Bool.or_eq_false_iff,Bool.not_eq_true',Bool.not_eq_false',decide_eq_true_eq,decide_eq_false_iff_not] at hg1'
     exact AD.skip (AH rfl) rfl (AV rfl) (AD.skip (AH rfl) rfl (AV rfl) (AD.skip (AH rfl) rfl (AV rfl) (AD.skip (AH rfl) rfl (AV rfl) (AK (v:=(Value.bool false)) (AR rfl rfl) rfl (AD.nil (AC.mid (sS rfl (sS rfl (sS rfl (sS rfl (sS rfl (sS rfl (sS rfl (sS rfl (sS rfl (sS rfl (sS rfl (sS rfl (sS (by first|rfl|(rw [hg1];rfl)|rw [hg1]) (sS (by first|rfl|(rw [hg1];rfl)|rw [hg1]) (sN))))))))))))))) (List.Sublist.refl _)))))))
   refine AD.nil (AC.subF (sL [1,11,12,3,4,18,19,6,34] rfl) (AC.then_ ?_))
   refine AE.cond rfl (λhc2=>?_) (λhc2=>?_)
   ·simp only [Bool.and_eq_true,Bool.or_eq_true,Bool.and_eq_false_iff,Bool.or_eq_false_iff,Bool.not_eq_true',Bool.not_eq_false',decide_eq_true_eq,decide_eq_false_iff_not] at hc2
    have h9:=hv.apart i k (by omega) (by omega);rw [hc2.1,hc2.2] at h9;cases h9
   ·simp only [Bool.and_eq_true,Bool.or_eq_true,Bool.and_eq_false_iff,Bool.or_eq_false_iff,Bool.not_eq_true',Bool.not_eq_false',decide_eq_true_eq,decide_eq_false_iff_not] at hc2
    refine AE.skip (AC.in_normal (AC.then_ (AE.region (AK (Ac (c:=((k+1:Nat):Int)) rfl rfl (Ae (a:=k) (b:=1) (by omega))) rfl (AQ rfl ?_)))))
    exact AD.nil (AC.subF (sL [1,11,12,3,4,18,19,6] rfl) (AC.round1 (k+1) (by omega) (by omega) (sF rfl) (sl sr)))
  ·replace hc1:=of_decide_eq_false hc1
   refine AE.exit (AC.then_exit (AC.round1_exit (AC.in_exit (q2 (AK (v:=(pP b1 0)) (AA rfl Tryz.underlying30 rfl Tryz.sizeOf28 rfl) rfl ?_)))))
   refine BJ 1 (Value.slice x.a.p ps.length x.a.c) CW rfl (AK (v:=(vN ps.length)) (AF rfl Tryz.underlying28) rfl (AQ rfl (AD.nil (AC.subF (sL [1,11,12,3,4,18,19,37,38,39] rfl) (AC.then_ ?_)))))
   refine AE.block ?_
   refine AE.lp1 (tg λ(p:Nat)=>p<=ps.length) (tg λ(p:Nat)=>[(1,(pP b1 0)),(11,(vN ts.length)),(12,(vN i)),(3,(vN i)),(4,(pP b2 0)),(37,(Value.slice x.a.p ps.length x.a.c)),(38,(vN ps.length)),(39,(vN p))]) (tg λ(p:Nat)=>[Ad b2 207 (Gi (Bd ps (ts.getD i (0,0,0)))),Ad b1 30 (DA x),AG x.a.p (rowsL Af ps),AG x.b.p (rowsL BA ts),AG x.c.p (rowsL BA ss)]) (tg λ(p:Nat)=>ps.length-p) 0 (Nat.zero_le _) (sF rfl) sr (λp hJ=>?_)
   have hp:=hJ
   refine q4 (AK (Ai (c:=(decide (p<ps.length))) rfl rfl (CI (a:=p) (b:=ps.length))) rfl (AD.nil (q1 ?_)))
   refine AE.cond rfl (λhc3=>?_) (λhc3=>?_)
   ·replace hc3:=of_decide_eq_true hc3
    refine AE.skip (q1 (AE.block (q4 (AQ rfl (AK (v:=(pP (pB x.a.p) (pO x.a.p+p*10))) (AO (j:=p) rfl rfl x.a.ok Tryz.underlying28 Tryz.sizeOf51 rfl (by omega)) rfl ?_)))))
    refine AK (v:=(aG (Af (ps.getD p (⟨0,0⟩:Pt))))) (AT (vs:=Af (ps.getD p (⟨0,0⟩:Pt))) (i:=2) rfl rfl (A7.ne x.a.ok (by omega)) BM (Aq Av _ _ _ (by omega)) (Av _)) rfl (al G8 rfl λb3=>asg' rfl (A8 rfl Tryz.sizeOf51 rfl (q3 (sL [1,11,12,3,4,37,38,39,8,7] rfl) (AK (v:=(pP b1 1)) (AA rfl Tryz.underlying30 rfl Tryz.sizeOf23 rfl) rfl ?_))))
    refine BJ 2 (Value.slice x.b.p ts.length x.b.c) DG rfl (AQ rfl (AK (v:=(pP (pB x.b.p) (pO x.b.p+i*3))) (AO (j:=i) rfl rfl x.b.ok Tryz.underlying23 Tryz.sizeOf53 rfl (by omega)) rfl (AK (v:=(Value.slice (some ⟨(pB x.b.p),pO x.b.p+i*3,none⟩) 3 3)) (K8 rfl Tryz.underlying53 Tryz.sizeOf3 (by decide)) rfl (AQ rfl (CN Tryz.call82 (λw hw=>QZ (ts.getD i (0,0,0)) p ⟨some ⟨pB x.b.p,pO x.b.p+i*3,none⟩,3,VQ _ _⟩ w (UV (TD (inS hw 3 rfl lx)) (by omega) _)) rfl ?_)))))
    refine AK (BF (c:=(!(FF (ts.getD i (0,0,0)) p))) rfl rfl) rfl (AQ rfl ?_)
    refine AD.mid (FM:=[(1,(pP b1 0)),(11,(vN ts.length)),(12,(vN i)),(3,(vN i)),(4,(pP b2 0)),(37,(Value.slice x.a.p ps.length x.a.c)),(38,(vN ps.length)),(39,(vN p)),(8,(pP b3 0)),(7,(vN p)),(44,(pP b1 1)),(45,(Value.slice x.b.p ts.length x.b.c)),(46,(vN i)),(47,(pP (pB x.b.p) (pO x.b.p+i*3))),(48,(Value.slice (some ⟨(pB x.b.p),pO x.b.p+i*3,none⟩) 3 3)),(49,(vN p)),(50,(Value.bool (FF (ts.getD i (0,0,0)) p))),(51,(Value.bool (!(FF (ts.getD i (0,0,0)) p)))),(52,(Value.bool (!(FF (ts.getD i (0,0,0)) p)))),(62,(Value.bool ((!(FF (ts.getD i (0,0,0)) p))&&false)))]) (LM:=[Ad b3 51 (Af (ps.getD p (⟨0,0⟩:Pt))),Ad b2 207 (Gi (Bd ps (ts.getD i (0,0,0)))),Ad b1 30 (DA x),AG x.a.p (rowsL Af ps),AG x.b.p (rowsL BA ts),AG x.c.p (rowsL BA ss)]) 10 ?_ ?_
    ·rcases Bool.eq_false_or_eq_true (!(FF (ts.getD i (0,0,0)) p)) with hg2|hg2
     ·skip
      refine AD.retell (k:=52) (u:=Value.bool true) rfl (by rw [hg2]) ?_
      have hg2':=hg2
      simp only [Bool.and_eq_true,Bool.or_eq_true,Bool.and_eq_false_iff,Bool.or_eq_false_iff,Bool.not_eq_true',Bool.not_eq_false',decide_eq_true_eq,decide_eq_false_iff_not] at hg2'
      refine AD.step (v:=(pP b2 0)) (AB rfl) (AI (j:=0) rfl rfl Tryz.underlying207 Tryz.sizeOf51 rfl (by decide) rfl) rfl (AV rfl) (AD.step (v:=(aG (Af ((Bd ps (ts.getD i (0,0,0))).1)))) (AB rfl) (Ak (i:=1) (vs:=Af ((Bd ps (ts.getD i (0,0,0))).1)) rfl rfl BM.a BM.s rfl rfl) rfl (AV rfl) (AD.step (v:=(pP b2 10)) (AB rfl) (AI (j:=1) rfl rfl Tryz.underlying207 Tryz.sizeOf51 rfl (by decide) rfl) rfl (AV rfl) (AD.step (v:=(aG (Af ((Bd ps (ts.getD i (0,0,0))).2.1)))) (AB rfl) (Ak (i:=1) (vs:=Af ((Bd ps (ts.getD i (0,0,0))).2.1)) rfl rfl BM.a BM.s rfl rfl) rfl (AV rfl) (AD.step (v:=(pP b2 20)) (AB rfl) (AI (j:=2) rfl rfl Tryz.underlying207 Tryz.sizeOf51 rfl (by decide) rfl) rfl (AV rfl) (AD.step (v:=(aG (Af ((Bd ps (ts.getD i (0,0,0))).2.2)))) (AB rfl) (Ak (i:=1) (vs:=Af ((Bd ps (ts.getD i (0,0,0))).2.2)) rfl rfl BM.a BM.s rfl rfl) rfl (AV rfl) ?_)))))
      exact AD.step (v:=(aG (Af (ps.getD p (⟨0,0⟩:Pt))))) (AB rfl) (Ak (i:=0) (vs:=Af (ps.getD p (⟨0,0⟩:Pt))) rfl rfl BM.a BM.s rfl rfl) rfl (AV rfl) (AD.call (v:=(vN (NE ps (ps.getD p ⟨0,0⟩) (ts.getD i (0,0,0))))) (AB rfl) (An (args:=[(aG (Af ((Bd ps (ts.getD i (0,0,0))).1))),(aG (Af ((Bd ps (ts.getD i (0,0,0))).2.1))),(aG (Af ((Bd ps (ts.getD i (0,0,0))).2.2))),(aG (Af (ps.getD p (⟨0,0⟩:Pt))))]) rfl rfl Tryz.call129) (λw hw=>VO ((Bd ps (ts.getD i (0,0,0))).1) ((Bd ps (ts.getD i (0,0,0))).2.1) ((Bd ps (ts.getD i (0,0,0))).2.2) (ps.getD p ⟨0,0⟩) (by have z1:=hq (ts.getD i (0,0,0));have z2:B3 (ps.getD p ⟨0,0⟩)<=1000000:=hv.szM p;omega) w) rfl (AV rfl) (AD.step (v:=(Value.bool false)) (AB rfl) (Bk (c:=false) rfl rfl (decide_eq_false (by have h8:=hv.crn i p (by omega) (by omega) hg2';unfold C2 at h8;omega))) rfl (AV rfl) (AK (v:=(Value.bool false)) (AX rfl rfl) rfl (AD.nil (AC.mid (sS rfl (sS rfl (sS rfl (sS rfl (sS rfl (sS rfl (sS rfl (sS rfl (sS rfl (sS rfl (sS rfl (sS rfl (sS rfl (sS rfl (sS rfl (sS rfl (sS rfl (sS rfl (sS (by first|rfl|(rw [hg2];rfl)|rw [hg2]) (sS (by first|rfl|(rw [hg2];rfl)|rw [hg2]) (sN))))))))))))))))))))) (List.Sublist.refl _))))))
     ·skip
      refine AD.retell (k:=52) (u:=Value.bool false) rfl (by rw [hg2]) ?_
      have hg2':=hg2
      simp only [Bool.and_eq_true,Bool.or_eq_true,Bool.and_eq_false_iff,Bool.or_eq_false_iff,Bool.not_eq_true',Bool.not_eq_false',decide_eq_true_eq,decide_eq_false_iff_not] at hg2'
      refine AD.skip (AH rfl) rfl (AV rfl) (AD.skip (AH rfl) rfl (AV rfl) (AD.skip (AH rfl) rfl (AV rfl) (AD.skip (AH rfl) rfl (AV rfl) (AD.skip (AH rfl) rfl (AV rfl) (AD.skip (AH rfl) rfl (AV rfl) ?_)))))
      exact AD.skip (AH rfl) rfl (AV rfl) (AD.skip (AH rfl) rfl (AV rfl) (AD.skip (AH rfl) rfl (AV rfl) (AK (v:=(Value.bool false)) (AR rfl rfl) rfl (AD.nil (AC.mid (sS rfl (sS rfl (sS rfl (sS rfl (sS rfl (sS rfl (sS rfl (sS rfl (sS rfl (sS rfl (sS rfl (sS rfl (sS rfl (sS rfl (sS rfl (sS rfl (sS rfl (sS rfl (sS (by first|rfl|(rw [hg2];rfl)|rw [hg2]) (sS (by first|rfl|(rw [hg2];rfl)|rw [hg2]) (sN))))))))))))))))))))) (List.Sublist.refl _))))))
    refine AD.nil (AC.subF (sL [1,11,12,3,4,37,38,39,8,62] rfl) (AC.then_ ?_))
    refine AE.cond rfl (λhc4=>?_) (λhc4=>?_)
    ·simp only [Bool.and_eq_true,Bool.or_eq_true,Bool.and_eq_false_iff,Bool.or_eq_false_iff,Bool.not_eq_true',Bool.not_eq_false',decide_eq_true_eq,decide_eq_false_iff_not] at hc4
     simp at hc4
    ·simp only [Bool.and_eq_true,Bool.or_eq_true,Bool.and_eq_false_iff,Bool.or_eq_false_iff,Bool.not_eq_true',Bool.not_eq_false',decide_eq_true_eq,decide_eq_false_iff_not] at hc4
     refine AE.skip (AC.in_normal (AC.then_ (AE.region (AK (Ac (c:=((p+1:Nat):Int)) rfl rfl (Ae (a:=p) (b:=1) (by omega))) rfl (AQ rfl ?_)))))
     exact AD.nil (AC.subF (sL [1,11,12,3,4,37,38,39,8] rfl) (AC.round1 (p+1) (by omega) (by omega) (sF rfl) (sl sr)))
   ·replace hc3:=of_decide_eq_false hc3
    refine AE.exit (AC.then_exit (AC.round1_exit (AC.in_exit (AC.in_normal (AC.then_ ?_)))))
    exact AE.region (AK (Ac (c:=((i+1:Nat):Int)) rfl rfl (Ae (a:=i) (b:=1) (by omega))) rfl (AQ rfl (AD.nil (AC.subF (sL [1,11,12,3,4,37,38,39] rfl) (AC.round1 (i+1) (by omega) (by omega) (sF rfl) (sl sr))))))
 ·replace hc0:=of_decide_eq_false hc0
  refine AE.exit (AC.then_exit (AC.round1_exit (AC.in_exit (q2 (asg' rfl ?_)))))
  exact AD.nil (AC.then_ (AE.ret (AJ rfl (AS (v:=(Value.bool true)) rfl) (λw hw=>⟨rfl,hw.out⟩))))
end
section
set_option maxRecDepth 100000
theorem Un (x y:Pt) (hx:B3 x<=1000) (hy:B3 y<=1000) (w:World)  :Calls Tryz.prog 124 #[(aG (Af x)),(aG (Af y))] w (Al w (vI (Kp x y))):=by
 refine Aa (args:=[(aG (Af x)),(aG (Af y))]) Tryz.func124 rfl rfl (AV rfl) (AE.subF (sL [0,1] rfl) (q4 (BU (cs:=Af x) rfl λb1=>BU (cs:=Af y) rfl λb2=>asg' rfl ?_)))
 refine q6 (sL [2,3,4] rfl) (AE.block (q4 (BG 1 BM rfl (BG 0 BM rfl (ck' Tryz.call125 (J8 x y (by assumption) (by assumption)) rfl ?_)))))
 refine asg' rfl (AD.nil (AC.subF (sL [2,3,4,5] rfl) (AC.then_ ?_)))
 refine AE.cond rfl (λhc0=>?_) (λhc0=>?_)
 ·replace hc0:=of_decide_eq_true hc0
  refine q4 (asg' rfl (AD.nil (AC.then_ (AE.ret (AC.in_ret ?_)))))
  exact AC.then_ret (AJ rfl (AS (v:=(vI (-1:Int))) rfl) (λw hw=>⟨by unfold Kp;rw [if_pos hc0],hw.out⟩))
 ·replace hc0:=of_decide_eq_false hc0
  refine q4 (BG 0 BM rfl (BG 1 BM rfl (ck' Tryz.call125 (J8 y x (by assumption) (by assumption)) rfl (asg' rfl (AD.nil ?_)))))
  refine AC.subF (sL [2,3,4,9] rfl) (AC.then_ ?_)
  refine AE.cond rfl (λhc1=>?_) (λhc1=>?_)
  ·replace hc1:=of_decide_eq_true hc1
   refine q4 (asg' rfl (AD.nil (AC.then_ (AE.ret (AC.in_ret ?_)))))
   exact AC.then_ret (AJ rfl (AS (v:=(vI 1)) rfl) (λw hw=>⟨by unfold Kp;rw [if_neg hc0,if_pos hc1],hw.out⟩))
  ·replace hc1:=of_decide_eq_false hc1
   refine AE.skip (AC.in_normal (q2 (asg' rfl (AD.nil (AC.then_ ?_)))))
   exact AE.ret (AJ rfl (AS (v:=(vI 0)) rfl) (λw hw=>⟨by unfold Kp;rw [if_neg hc0,if_neg hc1],hw.out⟩))
end
section
abbrev WV:={ p:Pt // B3 p<=1000 }
instance:Inhabited WV:=⟨⟨⟨0,0⟩,by decide⟩⟩
theorem YJ:∀xs:List Pt,(∀x∈xs,B3 x<=1000)->∃ds:List WV,ds.map (·.1)=xs
  | [],_=>⟨[],rfl⟩
  | x::r,h=>by
    obtain ⟨ds,e⟩:=YJ r λy hy=>h y (List.mem_cons_of_mem _ hy)
    exact ⟨⟨x,h x List.mem_cons_self⟩::ds,by rw [List.map_cons,e]⟩
def Jh (x:WV):List Value:=Af x.1
def Ws (x y:WV):Int:=Kp x.1 y.1
theorem Xv:Go.Sort.SWO (ltOf Ws) where
  irrefl x:=decide_eq_false (by unfold Ws;rw [E5];unfold Sk;grind)
  trans x y z h1 h2:=by
    have h1:=E5.1 (of_decide_eq_true h1)
    have h2:=E5.1 (of_decide_eq_true h2)
    refine decide_eq_true (E5.2 ?_)
    unfold Sk at *
    grind
  ntrans x y z h1 h2:=by
    have h1:¬Kp x.1 y.1<0:=of_decide_eq_false h1
    have h2:¬Kp y.1 z.1<0:=of_decide_eq_false h2
    rw [E5] at h1 h2
    refine decide_eq_false ?_
    unfold Ws
    rw [E5]
    unfold Sk at *
    grind
theorem Wf (Ad off size:Nat) (w:World):CmpLays Tryz.prog 124 #[] Jh 10 Ws Ad off size w:=λm os dk _ x y=>by
  rw [Array.append_empty]
  exact (Un x.1 y.1 x.2 y.2 _).mono λe w' h=>⟨h.1,OH h.2⟩
theorem KY {d:Array WV} {t:Nat} (h:t<d.size*10):(rowsL Af (d.toList.map (·.1)))[t]?=some (Go.Sort.flatK Jh 10 d)[t]!:=by
  rw [Go.Sort.get_flatK _ _ _ _ h]
  have h1:t/10<d.size:=by omega
  have h2:=Bn Av (⟨0,0⟩:Pt) (d.toList.map (·.1)) (t/10) (t%10) (by simpa using h1) (Nat.mod_lt _ (by decide)) (v:=(Jh d[t/10]!)[t%10]!) (by
    rw [List.getD,List.getElem?_map,show d.toList[t/10]?=some d[t/10] from by simp [h1],getElem!_pos d (t/10) h1]
    show (Af (d[t/10]).1)[t%10]?=some (Af (d[t/10]).1)[t%10]!
    have hl:t%10<(Af (d[t/10]).1).length:=by rw [Av];exact Nat.mod_lt _ (by decide)
    rw [List.getElem?_eq_getElem hl,getElem!_pos (Af (d[t/10]).1) (t%10) hl])
  rw [show t/10*10+t%10=t by omega] at h2
  exact h2
theorem Ty (x:WV):∀v∈Jh x,v.oneCell'=true:=λv hv=>by
  unfold Jh Af AN at hv
  simp only [List.mem_cons,List.mem_append,List.not_mem_nil,or_false] at hv
  rcases hv with (rfl|rfl|rfl|rfl|rfl)|(rfl|rfl|rfl|rfl|rfl)<;>rfl
theorem Rm (xs:List Pt) (p:Option Addr) (n c:Nat) (T:TypeId) (ho:OwnOk p n c) (hp0:p≠none) (hn:n=xs.length) (hN:n<4611686018427387904) (hb:∀x∈xs,B3 x<=1000) (w:World) (hrow:∀b,p.map (·.block)=some b->∃o,w.heap[b]?=some o/\(rowW p T 10 n c (rowsL Af xs)).P o) :
    Calls Tryz.prog 123 #[.slice p n c,.func (.func 124) #[] #[]] w λe w'=>e=.returned (.tuple #[])/\JF w w' (p.map (·.block))/\∃ys:List Pt,ys.Perm xs/\∀b,p.map (·.block)=some b->∃o,w'.heap[b]?=some o/\(rowW p T 10 n c (rowsL Af ys)).P o:=by
  cases hp:p with
  | none=>exact absurd hp hp0
  | some a =>
    subst hp
    obtain ⟨o,hob,cur,rfl,hsz,hcur⟩:=hrow a.block rfl
    have hat:=ho.at0 a rfl
    have hle:=ho.le
    obtain ⟨ds,hds⟩:=YJ xs hb
    have hdl:ds.length=n:=by rw [hn,<-hds,List.length_map]
    obtain ⟨d,hd⟩:∃d,d=ds.toArray:=⟨_,rfl⟩
    have hdz:d.size=n:=by rw [hd];simpa using hdl
    have hdx:d.toList.map (·.1)=xs:=by rw [hd];exact hds
    have hH:Go.Sort.HoldsK Jh 10 w a.block 0 d:=λj hj=>by
      have hj':j<d.size*10:=by simpa using hj
      refine ⟨?_,by simp [World.frozen?,hob]⟩
      have h1:(cur.toList.take (n*10))[j]?=(rowsL Af xs)[j]?:=by rw [hcur]
      rw [List.getElem?_take_of_lt (by omega),Array.getElem?_toList,<-hdx,KY hj'] at h1
      show w.cell? ⟨a.block,0+j,none⟩=some (id (Go.Sort.flatK Jh 10 d)[j]!)
      unfold World.cell?
      simp only [hob,Nat.zero_add]
      exact h1
    have hlt:a.block<w.heap.size:=by
      rcases Nat.lt_or_ge a.block w.heap.size with h|h
      · exact h
      · rw [Array.getElem?_eq_none h] at hob;cases hob
    have h:=Tryz.slices_SortFunc_Point 10 Tryz.isAgg51 Tryz.sizeOf51 Jh (λx=>Av x.1) Ty Ws Xv 124 #[] a.block 0 c d w Tryz.call124 (Wf a.block 0 d.size w) hH hlt (by omega)
    rw [hdz] at h
    rw [hat]
    refine h.mono ?_
    rintro e w' ⟨rfl,d',m,os,⟨hz',_,hperm⟩,_,rfl⟩
    have hz2:d'.size=n:=by rw [hz',hdz]
    have hperm':d'.toList.Perm d.toList:=by
      have e1:d'.extract 0 n=d':=by rw [<-hz2];exact Array.extract_size
      have e2:d.extract 0 n=d:=by rw [<-hdz];exact Array.extract_size
      rw [e1,e2] at hperm
      exact hperm
    have hF:(Go.Sort.flatK Jh 10 d').size=n*10:=by rw [Go.Sort.size_flatK,hz2]
    refine ⟨rfl,⟨⟨rfl,rfl,rfl,by simp [sortWorldK,Go.Sort.grow,Go.Sort.putRowK,Go.Sort.putRow,Go.Sort.mapBlock,Go.Sort.ahead],λj hj hne=>?_⟩,by show w.drawn<=w.drawn+m;omega⟩,d'.toList.map (·.1),by rw [<-hdx];exact hperm'.map _,λb e=>?_⟩
    · have hne':a.block≠j:=λe=>hne (by rw [e];rfl)
      unfold sortWorldK
      rw [Go.Sort.heap_grow_old _ _ (by simpa [Go.Sort.putRowK,Go.Sort.putRow,Go.Sort.mapBlock,Go.Sort.ahead] using hj)]
      simp [Go.Sort.putRowK,Go.Sort.putRow,Go.Sort.mapBlock,Go.Sort.ahead,Array.getElem?_modify,hne']
    · injection e with e
      subst e
      refine ⟨.cells (Go.Sort.putCells id 0 (Go.Sort.flatK Jh 10 d') cur) T (0,0),?_,_,rfl,by simp [Go.Sort.putCells,hsz],?_⟩
      · unfold sortWorldK
        rw [Go.Sort.heap_grow_old _ _ (by simpa [Go.Sort.putRowK,Go.Sort.putRow,Go.Sort.mapBlock,Go.Sort.ahead] using hlt)]
        simp [Go.Sort.putRowK,Go.Sort.putRow,Go.Sort.mapBlock,Go.Sort.ahead,Array.getElem?_modify,hob,Go.Sort.onCells]
      · apply List.ext_getElem?
        intro j
        have hlen:(rowsL Af (d'.toList.map (·.1))).length=n*10:=by rw [Ab Av,List.length_map,Array.length_toList,hz2]
        by_cases hj:j<n*10
        · have hcs:n*10<=c*10:=Nat.mul_le_mul_right _ hle
          rw [List.getElem?_take_of_lt hj,Array.getElem?_toList,KY (by rw [hz2];exact hj)]
          unfold Go.Sort.putCells
          rw [Array.getElem?_mapIdx,Array.getElem?_eq_getElem (by omega),Option.map_some,if_pos ⟨Nat.zero_le _,by omega⟩]
          rfl
        · rw [List.getElem?_take_eq_none (by omega),List.getElem?_eq_none (by omega)]
section
variable {P:Program} {ops:Array Oper} {rest:List Oper} {Q:Exit->Act->World->Prop} {n:Nat} {F:List (Nat×Value)} {w0:A_} {L:List As}
theorem AD.callWX {o:Oper} {f:FuncId} {args:Array Value} {v:Value} {α:Type} {K:α->Prop} {cs':α->List Value} (i:Nat) {q:Option Addr} {T:TypeId} {z m c:Nat} {cs:List Value} (hw:Wt ops n F o)
    (he:∀a w,CG n a F->BE w0 w L->(execOp a.eval o).run P w=.ok (.enter f args) w) (hi:L[i]?=some (rowW q T z m c cs))
    (hc:∀w,BE w0 w L->Calls P f args w λe w'=>e=.returned v/\JF w w' (q.map (·.block))/\∃y,K y/\∀b,q.map (·.block)=some b->∃o,w'.heap[b]?=some o/\(rowW q T z m c (cs' y)).P o)
    (hd:∀d,o.dst=some d->d<n) (next:∀y,K y->AD P ops rest Q n (match o.dst with|some d=>(d,v)::F|none=>F) w0 (L.set i (rowW q T z m c (cs' y)))):AD P ops (o::rest) Q n F w0 L:=λa w ha hW=>by
  unfold wpList
  rw [if_pos (hw a ha)]
  left
  unfold Oper.wp
  rw [he a w ha hW,Oper.upon_enter]
  refine (hc w hW).mono ?_
  rintro e w' ⟨rfl,hg,y,hk,hr⟩
  have hW':=hW.renew hi rfl hg (y:=rowW q T z m c (cs' y)) λb e=>⟨.inl e,hr b e⟩
  have next:=next y hk
  cases hdd:o.dst with
  | none=>rw [hdd] at next;exact next _ _ ha.put_none hW'
  | some d=>rw [hdd] at next;exact next _ _ (ha.put (hd d hdd)) hW'
end
end
end Go.Proofs.YtpgncndhhhllfaaGreatDoor
