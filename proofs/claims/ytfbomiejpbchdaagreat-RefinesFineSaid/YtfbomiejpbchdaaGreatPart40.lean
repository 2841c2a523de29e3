import Derived.Test.YtfbomiejpbchdaaGreatPart06
import Derived.Test.YtfbomiejpbchdaaGreatPart30
import Derived.Test.YtfbomiejpbchdaaGreatPart31
import Derived.Test.YtfbomiejpbchdaaGreatPart39
namespace Go.Proofs.YtfbomiejpbchdaaGreat
open Go Go.RowKit
set_option linter.unusedVariables false
set_option linter.unusedSimpArgs false
section
set_option maxRecDepth 100000
theorem WY {ps:List Pt} {ts ss:List T3} (x:MX ps ts ss) (hv:Kk ps ts ss) (w:World) {S:Nat->Prop} (hx:Ro S w x):Calls Tryz.prog 57 #[(aG (CG x))] w (Am w (Value.bool true)):=by
 have hp:=hv.pl
 have htl:=hv.tl
 have hsl:=hv.sl
 have h0:=hv.t0
 have lx:=FS (W:=w) hx
 refine BH (args:=[(aG (CG x))]) (L:=[Ag x.a.p (rowsL Ae ps),Ag x.b.p (rowsL Al ts),Ag x.c.p (rowsL Al ss)]) Tryz.func57 rfl rfl (Ad rfl) (FP hx BY) (AG.subF (sL [0] rfl) (q4 (Bl (cs:=CG x) rfl λb1=>AK rfl (q3 (sL [1,2] rfl) ?_))))
 refine AJ (v:=(pP b1 0)) (AA rfl Tryz.underlying31 rfl Tryz.sizeOf27 rfl) rfl (BL 0 (Value.slice x.a.p ps.length x.a.c) C2 rfl (AJ (v:=(vN ps.length)) (AI rfl Tryz.underlying27) rfl (AK rfl (q6 (sL [1,2,3] rfl) (q4 ?_)))))
 refine AJ (v:=(pP b1 1)) (AA rfl Tryz.underlying31 rfl Tryz.sizeOf28 rfl) rfl (BL 0 (Value.slice x.b.p ts.length x.b.c) Dc rfl (AJ (v:=(vN ts.length)) (AI rfl Tryz.underlying28) rfl (AO rfl (AF.nil (AC.subF (sL [1,2,3,12,13,14] rfl) ?_)))))
 refine AC.then_ (AG.block ?_)
 refine AG.lp1 (tg λ(i:Nat)=>i<=ts.length) (tg λ(i:Nat)=>[(1,(pP b1 0)),(3,(vN ps.length)),(12,(Value.slice x.b.p ts.length x.b.c)),(13,(vN ts.length)),(14,(vN i))]) (tg λ(i:Nat)=>[Ah b1 31 (CG x),Ag x.a.p (rowsL Ae ps),Ag x.b.p (rowsL Al ts),Ag x.c.p (rowsL Al ss)]) (tg λ(i:Nat)=>ts.length-i) 0 (Nat.zero_le _) (sF rfl) sr (λi hJ=>?_)
 have hi:=hJ
 refine q4 (AJ (Af (c:=(decide (i<ts.length))) rfl rfl (DL (a:=i) (b:=ts.length))) rfl (AF.nil (q1 ?_)))
 refine AG.cond rfl (λhc0=>?_) (λhc0=>?_)
 ·replace hc0:=of_decide_eq_true hc0
  obtain ⟨T,hT⟩:∃q,q=ts.getD i (0,0,0):=⟨_,rfl⟩
  obtain ⟨g1,g2,g3⟩:=DH (Cv hv.num hc0)
  have hps:=hv.pos i hc0
  rw [<-hT] at g1 g2 g3 hps
  have z0:Bo (ps.getD T.1 ⟨0,0⟩)<=1000000:=hv.szM _
  have z1:Bo (ps.getD T.2.1 ⟨0,0⟩)<=1000000:=hv.szM _
  have z2:Bo (ps.getD T.2.2 ⟨0,0⟩)<=1000000:=hv.szM _
  refine AG.skip (q1 (AG.block (q4 (AJ (v:=(pP (pB x.b.p) (pO x.b.p+i*3))) (AW (j:=i) rfl rfl x.b.ok Tryz.underlying28 Tryz.sizeOf76 rfl (by omega)) rfl (AJ (v:=(aG (Al (ts.getD i ((0,0,0):Nat×Nat×Nat))))) (AU (vs:=Al (ts.getD i ((0,0,0):Nat×Nat×Nat))) (i:=2) rfl rfl (BQ.ne x.b.ok (by omega)) Ip (Au A6 _ _ _ (by omega)) (A6 _)) rfl ?_)))))
  refine AF.retell (k:=17) (u:=(aG (Al T))) rfl (by rw [hT]) (al ON rfl λb2=>Ap rfl Tryz.sizeOf76 rfl (q6 (sL [1,3,12,13,14,5] rfl) (Cq [(0,true),(1,true),(2,true),(3,false),(4,true),(5,true),(6,true),(7,true),(8,true),(9,false),(10,true),(11,true),(12,true),(13,true),(14,true),(15,true),(16,false),(17,true),(18,true),(19,true),(20,true),(21,true),(22,true),(23,true),(24,true),(25,true),(26,true),(27,true),(28,true),(29,true),(30,true),(31,true),(32,true),(33,true),(34,true),(35,true),(36,true),(37,true),(38,false),(39,true),(40,true)] sr (Av (v:=(pP b2 0)) rfl (AE (j:=0) rfl rfl Tryz.underlying76 Tryz.sizeOf3 rfl (by decide) rfl) ?_))))
  refine Bg 0 (vN T.1) B4 rfl (Bc rfl (AS.imp rfl (Ey (args:=[(vN T.1),(vN ps.length)]) (v:=(Value.bool true)) Tryz.call61 (λw hw=>(by have h9:=DG T.1 ps.length w;rw [decide_eq_true (by omega)] at h9;exact h9)) rfl (AS.back sr (Av rfl (Bi (c:=false) rfl rfl) ?_)))))
  refine Bc rfl (AS.pas (v:=(pP b2 1)) rfl (AB rfl) (AE (j:=1) rfl rfl Tryz.underlying76 Tryz.sizeOf3 rfl (by decide) rfl) rfl rfl (AS.pas (v:=(vN T.2.1)) rfl (AB rfl) (AM (i:=0) (v:=(vN T.2.1)) rfl rfl B4.a rfl) rfl rfl (AS.pas (v:=(vN ps.length)) rfl (AB rfl) (A9 rfl) rfl rfl (AS.imp rfl (AF.call (v:=(Value.bool true)) (AB rfl) (Aq (args:=[(vN T.2.1),(vN ps.length)]) rfl rfl Tryz.call61) (λw hw=>(by have h9:=DG T.2.1 ps.length w;rw [decide_eq_true (by omega)] at h9;exact h9)) rfl (Ad rfl) ?_)))))
  refine AS.back sr (AS.pas (v:=(Value.bool false)) rfl (AB rfl) (Bi (c:=false) rfl rfl) rfl rfl (Av (v:=(Value.bool false)) rfl (AV rfl rfl) (Bc rfl (AS.pas (v:=(pP b2 2)) rfl (AB rfl) (AE (j:=2) rfl rfl Tryz.underlying76 Tryz.sizeOf3 rfl (by decide) rfl) rfl rfl (AS.pas (v:=(vN T.2.2)) rfl (AB rfl) (AM (i:=0) (v:=(vN T.2.2)) rfl rfl B4.a rfl) rfl rfl ?_)))))
  refine AS.pas (v:=(vN ps.length)) rfl (AB rfl) (A9 rfl) rfl rfl (AS.imp rfl (AF.call (v:=(Value.bool true)) (AB rfl) (Aq (args:=[(vN T.2.2),(vN ps.length)]) rfl rfl Tryz.call61) (λw hw=>(by have h9:=DG T.2.2 ps.length w;rw [decide_eq_true (by omega)] at h9;exact h9)) rfl (Ad rfl) (AS.back sr (AS.pas (v:=(Value.bool false)) rfl (AB rfl) (Bi (c:=false) rfl rfl) rfl rfl (Av (v:=(Value.bool false)) rfl (AV rfl rfl) ?_)))))
  refine Bc rfl (AS.pas (v:=(pP b1 0)) rfl (AB rfl) (AA rfl Tryz.underlying31 rfl Tryz.sizeOf27 rfl) rfl rfl (AS.pas (v:=(Value.slice x.a.p ps.length x.a.c)) rfl (AB rfl) (AM (i:=1) (v:=(Value.slice x.a.p ps.length x.a.c)) rfl rfl C2.a rfl) rfl rfl (AS.pas (v:=(pP b2 0)) rfl (AB rfl) (AE (j:=0) rfl rfl Tryz.underlying76 Tryz.sizeOf3 rfl (by decide) rfl) rfl rfl (AS.pas (v:=(vN T.1)) rfl (AB rfl) (AM (i:=0) (v:=(vN T.1)) rfl rfl B4.a rfl) rfl rfl (AS.pas (v:=(pP (pB x.a.p) (pO x.a.p+T.1*10))) rfl (AB rfl) (AW (j:=T.1) rfl rfl x.a.ok Tryz.underlying27 Tryz.sizeOf55 rfl (by omega)) rfl rfl ?_)))))
  refine AS.pas (v:=(aG (Ae (ps.getD T.1 (⟨0,0⟩:Pt))))) rfl (AB rfl) (AU (vs:=Ae (ps.getD T.1 (⟨0,0⟩:Pt))) (i:=2) rfl rfl (BQ.ne x.a.ok (by omega)) BC (Au BI _ _ _ (by omega)) (BI _)) rfl rfl (AS.pas (v:=(pP b1 0)) rfl (AB rfl) (AA rfl Tryz.underlying31 rfl Tryz.sizeOf27 rfl) rfl rfl (AS.pas (v:=(Value.slice x.a.p ps.length x.a.c)) rfl (AB rfl) (AM (i:=1) (v:=(Value.slice x.a.p ps.length x.a.c)) rfl rfl C2.a rfl) rfl rfl (AS.pas (v:=(pP b2 1)) rfl (AB rfl) (AE (j:=1) rfl rfl Tryz.underlying76 Tryz.sizeOf3 rfl (by decide) rfl) rfl rfl (AS.pas (v:=(vN T.2.1)) rfl (AB rfl) (AM (i:=0) (v:=(vN T.2.1)) rfl rfl B4.a rfl) rfl rfl (AS.pas (v:=(pP (pB x.a.p) (pO x.a.p+T.2.1*10))) rfl (AB rfl) (AW (j:=T.2.1) rfl rfl x.a.ok Tryz.underlying27 Tryz.sizeOf55 rfl (by omega)) rfl rfl ?_)))))
  refine AS.pas (v:=(aG (Ae (ps.getD T.2.1 (⟨0,0⟩:Pt))))) rfl (AB rfl) (AU (vs:=Ae (ps.getD T.2.1 (⟨0,0⟩:Pt))) (i:=2) rfl rfl (BQ.ne x.a.ok (by omega)) BC (Au BI _ _ _ (by omega)) (BI _)) rfl rfl (AS.pas (v:=(pP b1 0)) rfl (AB rfl) (AA rfl Tryz.underlying31 rfl Tryz.sizeOf27 rfl) rfl rfl (AS.pas (v:=(Value.slice x.a.p ps.length x.a.c)) rfl (AB rfl) (AM (i:=1) (v:=(Value.slice x.a.p ps.length x.a.c)) rfl rfl C2.a rfl) rfl rfl (AS.pas (v:=(pP b2 2)) rfl (AB rfl) (AE (j:=2) rfl rfl Tryz.underlying76 Tryz.sizeOf3 rfl (by decide) rfl) rfl rfl (AS.pas (v:=(vN T.2.2)) rfl (AB rfl) (AM (i:=0) (v:=(vN T.2.2)) rfl rfl B4.a rfl) rfl rfl (AS.pas (v:=(pP (pB x.a.p) (pO x.a.p+T.2.2*10))) rfl (AB rfl) (AW (j:=T.2.2) rfl rfl x.a.ok Tryz.underlying27 Tryz.sizeOf55 rfl (by omega)) rfl rfl ?_)))))
  refine AS.pas (v:=(aG (Ae (ps.getD T.2.2 (⟨0,0⟩:Pt))))) rfl (AB rfl) (AU (vs:=Ae (ps.getD T.2.2 (⟨0,0⟩:Pt))) (i:=2) rfl rfl (BQ.ne x.a.ok (by omega)) BC (Au BI _ _ _ (by omega)) (BI _)) rfl rfl (AS.imp rfl (AF.call (v:=(vI ((AQ (ps.getD T.1 (⟨0,0⟩:Pt)) (ps.getD T.2.1 (⟨0,0⟩:Pt)) (ps.getD T.2.2 (⟨0,0⟩:Pt))).num.sign))) (AB rfl) (Aq (args:=[(aG (Ae (ps.getD T.1 (⟨0,0⟩:Pt)))),(aG (Ae (ps.getD T.2.1 (⟨0,0⟩:Pt)))),(aG (Ae (ps.getD T.2.2 (⟨0,0⟩:Pt))))]) rfl rfl Tryz.call52) (λw hw=>Ns (ps.getD T.1 (⟨0,0⟩:Pt)) (ps.getD T.2.1 (⟨0,0⟩:Pt)) (ps.getD T.2.2 (⟨0,0⟩:Pt)) (by omega) w) rfl (Ad rfl) (AS.back sr (AS.pas (v:=(Value.bool false)) rfl (AB rfl) (B8 (c:=false) rfl rfl (decide_eq_false (λh9=>h9 hps))) rfl rfl (Av (v:=(Value.bool false)) rfl (AV rfl rfl) ?_)))))
  refine AS.nil (AC.subF (sL [1,3,12,13,14,5,58] rfl) (AC.then_ (AG.cond_false rfl (AG.skip (AC.in_normal ?_)))))
  exact AC.then_ (AG.region (AJ (AX (c:=((i+1:Nat):Int)) rfl rfl (Ab (a:=i) (b:=1) (by omega))) rfl (AO rfl (AF.nil (AC.subF (sL [1,3,12,13,14,5] rfl) (AC.round1 (i+1) (by omega) (by omega) (sF rfl) (sl sr)))))))
 ·replace hc0:=of_decide_eq_false hc0
  refine AG.exit (AC.then_exit (AC.round1_exit (AC.in_exit (q1 (q4 ?_)))))
  refine AJ (v:=(pP b1 2)) (AA rfl Tryz.underlying31 rfl Tryz.sizeOf29 rfl) rfl (BL 0 (Value.slice x.c.p ss.length x.c.c) IY rfl (AJ (v:=(vN ss.length)) (AI rfl Tryz.underlying29) rfl (AO rfl (AF.nil (AC.subF (sL [1,3,12,13,14,61,62,63] rfl) ?_)))))
  refine AC.then_ (AG.block ?_)
  refine AG.lp1 (tg λ(i:Nat)=>i<=ss.length) (tg λ(i:Nat)=>[(1,(pP b1 0)),(3,(vN ps.length)),(61,(Value.slice x.c.p ss.length x.c.c)),(62,(vN ss.length)),(63,(vN i))]) (tg λ(i:Nat)=>[Ah b1 31 (CG x),Ag x.a.p (rowsL Ae ps),Ag x.b.p (rowsL Al ts),Ag x.c.p (rowsL Al ss)]) (tg λ(i:Nat)=>ss.length-i) 0 (Nat.zero_le _) (sF rfl) sr (λi hJ=>?_)
  have hi:=hJ
  refine q4 (AJ (Af (c:=(decide (i<ss.length))) rfl rfl (DL (a:=i) (b:=ss.length))) rfl (AF.nil (q1 ?_)))
  refine AG.cond rfl (λhc2=>?_) (λhc2=>?_)
  ·replace hc2:=of_decide_eq_true hc2
   obtain ⟨sd,hsd⟩:∃q,q=ss.getD i (0,0,0):=⟨_,rfl⟩
   obtain ⟨g1,g2,g3⟩:=hv.sid i hc2
   rw [<-hsd] at g1 g2 g3
   refine AG.skip (q1 (AG.block (q4 (AJ (v:=(pP (pB x.c.p) (pO x.c.p+i*3))) (AW (j:=i) rfl rfl x.c.ok Tryz.underlying29 Tryz.sizeOf44 rfl (by omega)) rfl (AJ (v:=(aG (Al (ss.getD i ((0,0,0):Nat×Nat×Nat))))) (AU (vs:=Al (ss.getD i ((0,0,0):Nat×Nat×Nat))) (i:=3) rfl rfl (BQ.ne x.c.ok (by omega)) OI (Au A6 _ _ _ (by omega)) (A6 _)) rfl ?_)))))
   refine AF.retell (k:=66) (u:=(aG (Al sd))) rfl (by rw [hsd]) (al XV rfl λb2=>Ap rfl Tryz.sizeOf44 rfl (q3 (sL [1,3,61,62,63,7] rfl) (AJ (v:=(pP b2 0)) (AA rfl Tryz.underlying44 rfl Tryz.sizeOf3 rfl) rfl (BL 0 (vN sd.1) B4 rfl ?_))))
   refine AO rfl (Ey (args:=[(vN sd.1),(vN ps.length)]) (v:=(Value.bool true)) Tryz.call61 (λw hw=>(by have h9:=DG sd.1 ps.length w;rw [decide_eq_true (by omega)] at h9;exact h9)) rfl (AJ (Bi (c:=false) rfl rfl) rfl (AO rfl (AF.step (v:=(pP b2 1)) (AB rfl) (AA rfl Tryz.underlying44 rfl Tryz.sizeOf3 rfl) rfl (Ad rfl) (AF.step (v:=(vN sd.2.1)) (AB rfl) (AM (i:=0) (v:=(vN sd.2.1)) rfl rfl B4.a rfl) rfl (Ad rfl) ?_)))))
   refine AF.step (v:=(vN ps.length)) (AB rfl) (A9 rfl) rfl (Ad rfl) (AF.call (v:=(Value.bool true)) (AB rfl) (Aq (args:=[(vN sd.2.1),(vN ps.length)]) rfl rfl Tryz.call61) (λw hw=>(by have h9:=DG sd.2.1 ps.length w;rw [decide_eq_true (by omega)] at h9;exact h9)) rfl (Ad rfl) (AF.step (v:=(Value.bool false)) (AB rfl) (Bi (c:=false) rfl rfl) rfl (Ad rfl) (AJ (v:=(Value.bool false)) (AV rfl rfl) rfl (AO rfl (AF.step (v:=(pP b2 2)) (AB rfl) (AA rfl Tryz.underlying44 rfl Tryz.sizeOf3 rfl) rfl (Ad rfl) ?_)))))
   refine AF.step (v:=(vN sd.2.2)) (AB rfl) (AM (i:=0) (v:=(vN sd.2.2)) rfl rfl B4.a rfl) rfl (Ad rfl) (AF.step (v:=(Value.bool false)) (AB rfl) (Af (c:=false) rfl rfl (decide_eq_false (by omega))) rfl (Ad rfl) (AJ (v:=(Value.bool false)) (AV rfl rfl) rfl (AO rfl (AF.step (v:=(pP b2 2)) (AB rfl) (AA rfl Tryz.underlying44 rfl Tryz.sizeOf3 rfl) rfl (Ad rfl) (AF.step (v:=(vN sd.2.2)) (AB rfl) (AM (i:=0) (v:=(vN sd.2.2)) rfl rfl B4.a rfl) rfl (Ad rfl) ?_)))))
   refine AF.step (v:=(Value.bool false)) (AB rfl) (CK (c:=false) rfl rfl (decide_eq_false (by omega))) rfl (Ad rfl) (AJ (v:=(Value.bool false)) (AV rfl rfl) rfl (AF.nil (AC.subF (sL [1,3,61,62,63,7,88] rfl) (AC.then_ (AG.cond_false rfl ?_)))))
   refine AG.skip (AC.in_normal (AC.then_ (AG.region (AJ (AX (c:=((i+1:Nat):Int)) rfl rfl (Ab (a:=i) (b:=1) (by omega))) rfl (AO rfl ?_)))))
   exact AF.nil (AC.subF (sL [1,3,61,62,63,7] rfl) (AC.round1 (i+1) (by omega) (by omega) (sF rfl) (sl sr)))
  ·replace hc2:=of_decide_eq_false hc2
   refine AG.exit (AC.then_exit (AC.round1_exit (AC.in_exit (q2 (AJ (v:=(pP b1 1)) (AA rfl Tryz.underlying31 rfl Tryz.sizeOf28 rfl) rfl ?_)))))
   refine BL 0 (Value.slice x.b.p ts.length x.b.c) Dc rfl (AJ (v:=(vN ts.length)) (AI rfl Tryz.underlying28) rfl (AJ (CK (c:=true) rfl rfl (decide_eq_true (by omega))) rfl (AK rfl (AF.nil (AC.subF (sL [1,3,61,62,63,2] rfl) ?_)))))
   exact AC.then_ (AG.ret (AR rfl (Ai (v:=(Value.bool true)) rfl) (λw hw=>⟨rfl,hw.out⟩)))
theorem NI (a b c p:Pt) (hs:Bo a+Bo b+Bo c+Bo p<=268435456) (w:World):Calls Tryz.prog 22 #[aG (Ae a),aG (Ae b),aG (Ae c),aG (Ae p)] w (Am w (vN (GA a b c p))):=by
 unfold GA
 by_cases h:AQ a b c=0
 ·rw [if_pos h];exact Rx a b c p hs h w
 ·rw [if_neg h];exact TZ a b c p hs h w
set_option maxHeartbeats 1000000 in
theorem ST {ps:List Pt} {ts ss:List T3} (x:MX ps ts ss) (hv:Kk ps ts ss) (w:World) {S:Nat->Prop} (hx:Ro S w x):Calls Tryz.prog 59 #[(aG (CG x))] w (Am w (Value.bool true)):=by
 have hp:=hv.pl
 have htl:=hv.tl
 have hsl:=hv.sl
 have h0:=hv.t0
 have hq:∀t:T3,Bo (Br ps t).1<=1000000/\Bo (Br ps t).2.1<=1000000/\Bo (Br ps t).2.2<=1000000:=λt=>⟨hv.szM _,hv.szM _,hv.szM _⟩
 have lx:=FS (W:=w) hx
 refine BH (args:=[(aG (CG x))]) (L:=[Ag x.a.p (rowsL Ae ps),Ag x.b.p (rowsL Al ts),Ag x.c.p (rowsL Al ss)]) Tryz.func59 rfl rfl (Ad rfl) (FP hx BY) (AG.subF (sL [0] rfl) (q4 (Bl (cs:=CG x) rfl λb1=>AK rfl (q6 (sL [1,2] rfl) ?_))))
 refine q4 (AJ (v:=(pP b1 1)) (AA rfl Tryz.underlying31 rfl Tryz.sizeOf28 rfl) rfl (BL 0 (Value.slice x.b.p ts.length x.b.c) Dc rfl (AJ (v:=(vN ts.length)) (AI rfl Tryz.underlying28) rfl (AO rfl (AF.nil ?_)))))
 refine AC.subF (sL [1,2,11,12] rfl) (AC.then_ (AG.block ?_))
 refine AG.lp1 (tg λ(i:Nat)=>i<=ts.length) (tg λ(i:Nat)=>[(1,(pP b1 0)),(11,(vN ts.length)),(12,(vN i))]) (tg λ(i:Nat)=>[Ah b1 31 (CG x),Ag x.a.p (rowsL Ae ps),Ag x.b.p (rowsL Al ts),Ag x.c.p (rowsL Al ss)]) (tg λ(i:Nat)=>ts.length-i) 0 (Nat.zero_le _) (sF rfl) sr (λi hJ=>?_)
 have hi:=hJ
 refine q4 (AJ (Af (c:=(decide (i<ts.length))) rfl rfl (DL (a:=i) (b:=ts.length))) rfl (AF.nil (q1 ?_)))
 refine AG.cond rfl (λhc0=>?_) (λhc0=>?_)
 ·replace hc0:=of_decide_eq_true hc0
  refine AG.skip (q1 (AG.block (q4 (AO rfl (AK rfl ?_)))))
  refine q3 (sL [1,11,12,3] rfl) (A7 0 DU rfl (AO rfl (Ey Tryz.call133 (λw hw=>J_ x i (by omega) (by omega) (by omega) (Cv hv.num (by omega)) w (Dn hw 1 rfl lx)) rfl (al St rfl λb2=>Ap rfl Tryz.sizeOf212 rfl ?_))))
  refine q6 (sL [1,11,12,3,4] rfl) (q4 (AO rfl (AO rfl (AF.nil (AC.then_ ?_)))))
  refine AG.block ?_
  refine AG.lp1 (tg λ(k:Nat)=>k<=i) (tg λ(k:Nat)=>[(1,(pP b1 0)),(11,(vN ts.length)),(12,(vN i)),(3,(vN i)),(4,(pP b2 0)),(18,(vN i)),(19,(vN k))]) (tg λ(k:Nat)=>[Ah b2 212 (Hk (Br ps (ts.getD i (0,0,0)))),Ah b1 31 (CG x),Ag x.a.p (rowsL Ae ps),Ag x.b.p (rowsL Al ts),Ag x.c.p (rowsL Al ss)]) (tg λ(k:Nat)=>i-k) 0 (Nat.zero_le _) (sF rfl) sr (λk hJ=>?_)
  have hk:=hJ
  refine q4 (AJ (Af (c:=(decide (k<i))) rfl rfl (DL (a:=k) (b:=i))) rfl (AF.nil (q1 ?_)))
  refine AG.cond rfl (λhc1=>?_) (λhc1=>?_)
  ·replace hc1:=of_decide_eq_true hc1
   refine AG.skip (q1 (AG.block (q4 (AO rfl (AK rfl ?_)))))
   refine q3 (sL [1,11,12,3,4,18,19,5] rfl) (A7 1 DU rfl (AO rfl (Ey Tryz.call133 (λw hw=>J_ x k (by omega) (by omega) (by omega) (Cv hv.num (by omega)) w (Dn hw 2 rfl lx)) rfl (al St rfl λb3=>Ap rfl Tryz.sizeOf212 rfl ?_))))
   refine q3 (sL [1,11,12,3,4,18,19,6] rfl) (A7 1 Ly rfl (A7 0 Ly rfl (BU Tryz.call134 (SP (Br ps (ts.getD i (0,0,0))) (Br ps (ts.getD k (0,0,0))) (hq _) (hq _)) rfl (AJ (Bi (c:=(!(Ep (Br ps (ts.getD i (0,0,0))) (Br ps (ts.getD k (0,0,0)))))) rfl rfl) rfl (AO rfl ?_)))))
   refine AF.mid (FM:=[(1,(pP b1 0)),(11,(vN ts.length)),(12,(vN i)),(3,(vN i)),(4,(pP b2 0)),(18,(vN i)),(19,(vN k)),(6,(pP b3 0)),(25,(aG (Hk (Br ps (ts.getD i (0,0,0)))))),(26,(aG (Hk (Br ps (ts.getD k (0,0,0)))))),(27,(Value.bool (Ep (Br ps (ts.getD i (0,0,0))) (Br ps (ts.getD k (0,0,0)))))),(28,(Value.bool (!(Ep (Br ps (ts.getD i (0,0,0))) (Br ps (ts.getD k (0,0,0))))))),(29,(Value.bool (!(Ep (Br ps (ts.getD i (0,0,0))) (Br ps (ts.getD k (0,0,0))))))),(34,(Value.bool ((!(Ep (Br ps (ts.getD i (0,0,0))) (Br ps (ts.getD k (0,0,0)))))&&(!(Ep (Br ps (ts.getD k (0,0,0))) (Br ps (ts.getD i (0,0,0))))))))]) (LM:=[Ah b3 212 (Hk (Br ps (ts.getD k (0,0,0)))),Ah b2 212 (Hk (Br ps (ts.getD i (0,0,0)))),Ah b1 31 (CG x),Ag x.a.p (rowsL Ae ps),Ag x.b.p (rowsL Al ts),Ag x.c.p (rowsL Al ss)]) 5 ?_ ?_
   ·rcases Bool.eq_false_or_eq_true (!(Ep (Br ps (ts.getD i (0,0,0))) (Br ps (ts.getD k (0,0,0))))) with hg1|hg1
    ·skip
     refine AF.retell (k:=29) (u:=Value.bool true) rfl (by rw [hg1]) ?_
     have hg1':=hg1
     simp only [Bool.and_eq_true,Bool.or_eq_true,Bool.and_eq_false_iff,Bool.or_eq_false_iff,Bool.not_eq_true',Bool.not_eq_false',decide_eq_true_eq,decide_eq_false_iff_not] at hg1'
     exact AF.step (v:=(aG (Hk (Br ps (ts.getD k (0,0,0)))))) (AB rfl) (Aa (i:=0) (vs:=Hk (Br ps (ts.getD k (0,0,0)))) rfl rfl Ly.a Ly.s rfl rfl) rfl (Ad rfl) (AF.step (v:=(aG (Hk (Br ps (ts.getD i (0,0,0)))))) (AB rfl) (Aa (i:=1) (vs:=Hk (Br ps (ts.getD i (0,0,0)))) rfl rfl Ly.a Ly.s rfl rfl) rfl (Ad rfl) (AF.call (v:=(Value.bool (Ep (Br ps (ts.getD k (0,0,0))) (Br ps (ts.getD i (0,0,0)))))) (AB rfl) (Aq (args:=[(aG (Hk (Br ps (ts.getD k (0,0,0))))),(aG (Hk (Br ps (ts.getD i (0,0,0)))))]) rfl rfl Tryz.call134) (λw hw=>SP (Br ps (ts.getD k (0,0,0))) (Br ps (ts.getD i (0,0,0))) (hq _) (hq _) w) rfl (Ad rfl) (AF.step (v:=(Value.bool (!(Ep (Br ps (ts.getD k (0,0,0))) (Br ps (ts.getD i (0,0,0))))))) (AB rfl) (Bi (c:=(!(Ep (Br ps (ts.getD k (0,0,0))) (Br ps (ts.getD i (0,0,0)))))) rfl rfl) rfl (Ad rfl) (AJ (v:=(Value.bool (!(Ep (Br ps (ts.getD k (0,0,0))) (Br ps (ts.getD i (0,0,0))))))) (Aj rfl rfl) rfl (AF.nil (AC.mid (sS rfl (sS rfl (sS rfl (sS rfl (sS rfl (sS rfl (sS rfl (sS rfl (sS rfl (sS rfl (sS rfl (sS rfl (sS (by first|rfl|(rw [hg1];rfl)|rw [hg1]) (sS (by first|rfl|(rw [hg1];rfl)|rw [hg1]) (sN))))))))))))))) (List.Sublist.refl _)))))))
    ·skip
     refine AF.retell (k:=29) (u:=Value.bool false) rfl (by rw [hg1]) ?_
     have hg1':=hg1
     simp only [Bool.and_eq_true,Bool.or_eq_true,Bool.and_eq_false_iff,Bool.or_eq_false_iff,Bool.not_eq_true',Bool.not_eq_false',decide_eq_true_eq,decide_eq_false_iff_not] at hg1'
     exact AF.skip (AP rfl) rfl (Ad rfl) (AF.skip (AP rfl) rfl (Ad rfl) (AF.skip (AP rfl) rfl (Ad rfl) (AF.skip (AP rfl) rfl (Ad rfl) (AJ (v:=(Value.bool false)) (AV rfl rfl) rfl (AF.nil (AC.mid (sS rfl (sS rfl (sS rfl (sS rfl (sS rfl (sS rfl (sS rfl (sS rfl (sS rfl (sS rfl (sS rfl (sS rfl (sS (by first|rfl|(rw [hg1];rfl)|rw [hg1]) (sS (by first|rfl|(rw [hg1];rfl)|rw [hg1]) (sN))))))))))))))) (List.Sublist.refl _)))))))
   refine AF.nil (AC.subF (sL [1,11,12,3,4,18,19,6,34] rfl) (AC.then_ ?_))
   refine AG.cond rfl (λhc2=>?_) (λhc2=>?_)
   ·simp only [Bool.and_eq_true,Bool.or_eq_true,Bool.and_eq_false_iff,Bool.or_eq_false_iff,Bool.not_eq_true',Bool.not_eq_false',decide_eq_true_eq,decide_eq_false_iff_not] at hc2
    have h9:=hv.apart i k (by omega) (by omega);rw [hc2.1,hc2.2] at h9;cases h9
   ·simp only [Bool.and_eq_true,Bool.or_eq_true,Bool.and_eq_false_iff,Bool.or_eq_false_iff,Bool.not_eq_true',Bool.not_eq_false',decide_eq_true_eq,decide_eq_false_iff_not] at hc2
    refine AG.skip (AC.in_normal (AC.then_ (AG.region (AJ (AX (c:=((k+1:Nat):Int)) rfl rfl (Ab (a:=k) (b:=1) (by omega))) rfl (AO rfl ?_)))))
    exact AF.nil (AC.subF (sL [1,11,12,3,4,18,19,6] rfl) (AC.round1 (k+1) (by omega) (by omega) (sF rfl) (sl sr)))
  ·replace hc1:=of_decide_eq_false hc1
   refine AG.exit (AC.then_exit (AC.round1_exit (AC.in_exit (q2 (AJ (v:=(pP b1 0)) (AA rfl Tryz.underlying31 rfl Tryz.sizeOf27 rfl) rfl ?_)))))
   refine BL 1 (Value.slice x.a.p ps.length x.a.c) C2 rfl (AJ (v:=(vN ps.length)) (AI rfl Tryz.underlying27) rfl (AO rfl (AF.nil (AC.subF (sL [1,11,12,3,4,18,19,37,38,39] rfl) (AC.then_ ?_)))))
   refine AG.block ?_
   refine AG.lp1 (tg λ(p:Nat)=>p<=ps.length) (tg λ(p:Nat)=>[(1,(pP b1 0)),(11,(vN ts.length)),(12,(vN i)),(3,(vN i)),(4,(pP b2 0)),(37,(Value.slice x.a.p ps.length x.a.c)),(38,(vN ps.length)),(39,(vN p))]) (tg λ(p:Nat)=>[Ah b2 212 (Hk (Br ps (ts.getD i (0,0,0)))),Ah b1 31 (CG x),Ag x.a.p (rowsL Ae ps),Ag x.b.p (rowsL Al ts),Ag x.c.p (rowsL Al ss)]) (tg λ(p:Nat)=>ps.length-p) 0 (Nat.zero_le _) (sF rfl) sr (λp hJ=>?_)
   have hp:=hJ
   refine q4 (AJ (Af (c:=(decide (p<ps.length))) rfl rfl (DL (a:=p) (b:=ps.length))) rfl (AF.nil (q1 ?_)))
   refine AG.cond rfl (λhc3=>?_) (λhc3=>?_)
   ·replace hc3:=of_decide_eq_true hc3
    refine AG.skip (q1 (AG.block (q4 (AO rfl (AJ (v:=(pP (pB x.a.p) (pO x.a.p+p*10))) (AW (j:=p) rfl rfl x.a.ok Tryz.underlying27 Tryz.sizeOf55 rfl (by omega)) rfl ?_)))))
    refine AJ (v:=(aG (Ae (ps.getD p (⟨0,0⟩:Pt))))) (AU (vs:=Ae (ps.getD p (⟨0,0⟩:Pt))) (i:=2) rfl rfl (BQ.ne x.a.ok (by omega)) BC (Au BI _ _ _ (by omega)) (BI _)) rfl (al EM rfl λb3=>AK rfl (Ap rfl Tryz.sizeOf55 rfl (q3 (sL [1,11,12,3,4,37,38,39,8,7] rfl) (AJ (v:=(pP b1 1)) (AA rfl Tryz.underlying31 rfl Tryz.sizeOf28 rfl) rfl ?_))))
    refine BL 2 (Value.slice x.b.p ts.length x.b.c) Dc rfl (AO rfl (AJ (v:=(pP (pB x.b.p) (pO x.b.p+i*3))) (AW (j:=i) rfl rfl x.b.ok Tryz.underlying28 Tryz.sizeOf76 rfl (by omega)) rfl (AJ (v:=(Value.slice (some ⟨(pB x.b.p),pO x.b.p+i*3,none⟩) 3 3)) (NE rfl Tryz.underlying76 Tryz.sizeOf3 (by decide)) rfl (AO rfl (Ey Tryz.call135 (λw hw=>S6 (ts.getD i (0,0,0)) p ⟨some ⟨pB x.b.p,pO x.b.p+i*3,none⟩,3,Xb _ _⟩ w (V1 (VV (Dn hw 3 rfl lx)) (by omega) _)) rfl ?_)))))
    refine AJ (Bi (c:=(!(CW (ts.getD i (0,0,0)) p))) rfl rfl) rfl (AO rfl ?_)
    refine AF.mid (FM:=[(1,(pP b1 0)),(11,(vN ts.length)),(12,(vN i)),(3,(vN i)),(4,(pP b2 0)),(37,(Value.slice x.a.p ps.length x.a.c)),(38,(vN ps.length)),(39,(vN p)),(8,(pP b3 0)),(7,(vN p)),(44,(pP b1 1)),(45,(Value.slice x.b.p ts.length x.b.c)),(46,(vN i)),(47,(pP (pB x.b.p) (pO x.b.p+i*3))),(48,(Value.slice (some ⟨(pB x.b.p),pO x.b.p+i*3,none⟩) 3 3)),(49,(vN p)),(50,(Value.bool (CW (ts.getD i (0,0,0)) p))),(51,(Value.bool (!(CW (ts.getD i (0,0,0)) p)))),(52,(Value.bool (!(CW (ts.getD i (0,0,0)) p)))),(62,(Value.bool ((!(CW (ts.getD i (0,0,0)) p))&&false)))]) (LM:=[Ah b3 55 (Ae (ps.getD p (⟨0,0⟩:Pt))),Ah b2 212 (Hk (Br ps (ts.getD i (0,0,0)))),Ah b1 31 (CG x),Ag x.a.p (rowsL Ae ps),Ag x.b.p (rowsL Al ts),Ag x.c.p (rowsL Al ss)]) 10 ?_ ?_
    ·rcases Bool.eq_false_or_eq_true (!(CW (ts.getD i (0,0,0)) p)) with hg2|hg2
     ·skip
      refine AF.retell (k:=52) (u:=Value.bool true) rfl (by rw [hg2]) ?_
      have hg2':=hg2
      simp only [Bool.and_eq_true,Bool.or_eq_true,Bool.and_eq_false_iff,Bool.or_eq_false_iff,Bool.not_eq_true',Bool.not_eq_false',decide_eq_true_eq,decide_eq_false_iff_not] at hg2'
      refine AF.step (v:=(pP b2 0)) (AB rfl) (AE (j:=0) rfl rfl Tryz.underlying212 Tryz.sizeOf55 rfl (by decide) rfl) rfl (Ad rfl) (AF.step (v:=(aG (Ae ((Br ps (ts.getD i (0,0,0))).1)))) (AB rfl) (Aa (i:=1) (vs:=Ae ((Br ps (ts.getD i (0,0,0))).1)) rfl rfl BC.a BC.s rfl rfl) rfl (Ad rfl) (AF.step (v:=(pP b2 10)) (AB rfl) (AE (j:=1) rfl rfl Tryz.underlying212 Tryz.sizeOf55 rfl (by decide) rfl) rfl (Ad rfl) (AF.step (v:=(aG (Ae ((Br ps (ts.getD i (0,0,0))).2.1)))) (AB rfl) (Aa (i:=1) (vs:=Ae ((Br ps (ts.getD i (0,0,0))).2.1)) rfl rfl BC.a BC.s rfl rfl) rfl (Ad rfl) (AF.step (v:=(pP b2 20)) (AB rfl) (AE (j:=2) rfl rfl Tryz.underlying212 Tryz.sizeOf55 rfl (by decide) rfl) rfl (Ad rfl) (AF.step (v:=(aG (Ae ((Br ps (ts.getD i (0,0,0))).2.2)))) (AB rfl) (Aa (i:=1) (vs:=Ae ((Br ps (ts.getD i (0,0,0))).2.2)) rfl rfl BC.a BC.s rfl rfl) rfl (Ad rfl) ?_)))))
      exact AF.step (v:=(aG (Ae (ps.getD p (⟨0,0⟩:Pt))))) (AB rfl) (Aa (i:=0) (vs:=Ae (ps.getD p (⟨0,0⟩:Pt))) rfl rfl BC.a BC.s rfl rfl) rfl (Ad rfl) (AF.call (v:=(vN (KT ps (ps.getD p ⟨0,0⟩) (ts.getD i (0,0,0))))) (AB rfl) (Aq (args:=[(aG (Ae ((Br ps (ts.getD i (0,0,0))).1))),(aG (Ae ((Br ps (ts.getD i (0,0,0))).2.1))),(aG (Ae ((Br ps (ts.getD i (0,0,0))).2.2))),(aG (Ae (ps.getD p (⟨0,0⟩:Pt))))]) rfl rfl Tryz.call22) (λw hw=>NI ((Br ps (ts.getD i (0,0,0))).1) ((Br ps (ts.getD i (0,0,0))).2.1) ((Br ps (ts.getD i (0,0,0))).2.2) (ps.getD p ⟨0,0⟩) (by have z1:=hq (ts.getD i (0,0,0));have z2:Bo (ps.getD p ⟨0,0⟩)<=1000000:=hv.szM p;omega) w) rfl (Ad rfl) (AF.step (v:=(Value.bool false)) (AB rfl) (B8 (c:=false) rfl rfl (decide_eq_false (by have h8:=hv.crn i p (by omega) (by omega) hg2';unfold cor at h8;omega))) rfl (Ad rfl) (AJ (v:=(Value.bool false)) (Aj rfl rfl) rfl (AF.nil (AC.mid (sS rfl (sS rfl (sS rfl (sS rfl (sS rfl (sS rfl (sS rfl (sS rfl (sS rfl (sS rfl (sS rfl (sS rfl (sS rfl (sS rfl (sS rfl (sS rfl (sS rfl (sS rfl (sS (by first|rfl|(rw [hg2];rfl)|rw [hg2]) (sS (by first|rfl|(rw [hg2];rfl)|rw [hg2]) (sN))))))))))))))))))))) (List.Sublist.refl _))))))
     ·skip
      refine AF.retell (k:=52) (u:=Value.bool false) rfl (by rw [hg2]) ?_
      have hg2':=hg2
      simp only [Bool.and_eq_true,Bool.or_eq_true,Bool.and_eq_false_iff,Bool.or_eq_false_iff,Bool.not_eq_true',Bool.not_eq_false',decide_eq_true_eq,decide_eq_false_iff_not] at hg2'
      refine AF.skip (AP rfl) rfl (Ad rfl) (AF.skip (AP rfl) rfl (Ad rfl) (AF.skip (AP rfl) rfl (Ad rfl) (AF.skip (AP rfl) rfl (Ad rfl) (AF.skip (AP rfl) rfl (Ad rfl) (AF.skip (AP rfl) rfl (Ad rfl) ?_)))))
      exact AF.skip (AP rfl) rfl (Ad rfl) (AF.skip (AP rfl) rfl (Ad rfl) (AF.skip (AP rfl) rfl (Ad rfl) (AJ (v:=(Value.bool false)) (AV rfl rfl) rfl (AF.nil (AC.mid (sS rfl (sS rfl (sS rfl (sS rfl (sS rfl (sS rfl (sS rfl (sS rfl (sS rfl (sS rfl (sS rfl (sS rfl (sS rfl (sS rfl (sS rfl (sS rfl (sS rfl (sS rfl (sS (by first|rfl|(rw [hg2];rfl)|rw [hg2]) (sS (by first|rfl|(rw [hg2];rfl)|rw [hg2]) (sN))))))))))))))))))))) (List.Sublist.refl _))))))
    refine AF.nil (AC.subF (sL [1,11,12,3,4,37,38,39,8,62] rfl) (AC.then_ ?_))
    refine AG.cond rfl (λhc4=>?_) (λhc4=>?_)
    ·simp only [Bool.and_eq_true,Bool.or_eq_true,Bool.and_eq_false_iff,Bool.or_eq_false_iff,Bool.not_eq_true',Bool.not_eq_false',decide_eq_true_eq,decide_eq_false_iff_not] at hc4
     simp at hc4
    ·simp only [Bool.and_eq_true,Bool.or_eq_true,Bool.and_eq_false_iff,Bool.or_eq_false_iff,Bool.not_eq_true',Bool.not_eq_false',decide_eq_true_eq,decide_eq_false_iff_not] at hc4
     refine AG.skip (AC.in_normal (AC.then_ (AG.region (AJ (AX (c:=((p+1:Nat):Int)) rfl rfl (Ab (a:=p) (b:=1) (by omega))) rfl (AO rfl ?_)))))
     exact AF.nil (AC.subF (sL [1,11,12,3,4,37,38,39,8] rfl) (AC.round1 (p+1) (by omega) (by omega) (sF rfl) (sl sr)))
   ·replace hc3:=of_decide_eq_false hc3
    refine AG.exit (AC.then_exit (AC.round1_exit (AC.in_exit (AC.in_normal (AC.then_ ?_)))))
    exact AG.region (AJ (AX (c:=((i+1:Nat):Int)) rfl rfl (Ab (a:=i) (b:=1) (by omega))) rfl (AO rfl (AF.nil (AC.subF (sL [1,11,12,3,4,37,38,39] rfl) (AC.round1 (i+1) (by omega) (by omega) (sF rfl) (sl sr))))))
 ·replace hc0:=of_decide_eq_false hc0
  refine AG.exit (AC.then_exit (AC.round1_exit (AC.in_exit (q2 (AK rfl ?_)))))
  exact AF.nil (AC.then_ (AG.ret (AR rfl (Ai (v:=(Value.bool true)) rfl) (λw hw=>⟨rfl,hw.out⟩))))
end
section
set_option maxRecDepth 100000
theorem V_ (x y:Pt) (hx:Bo x<=1000) (hy:Bo y<=1000) (w:World)  :Calls Tryz.prog 131 #[(aG (Ae x)),(aG (Ae y))] w (Am w (vI (NZ x y))):=by
 refine Ac (args:=[(aG (Ae x)),(aG (Ae y))]) Tryz.func131 rfl rfl (Ad rfl) (AG.subF (sL [0,1] rfl) (q4 (Bl (cs:=Ae x) rfl λb1=>Bl (cs:=Ae y) rfl λb2=>AK rfl ?_)))
 refine q6 (sL [2,3,4] rfl) (AG.block (q4 (A7 1 BC rfl (A7 0 BC rfl (BU Tryz.call53 (MO x y (by assumption) (by assumption)) rfl ?_)))))
 refine AK rfl (AF.nil (AC.subF (sL [2,3,4,5] rfl) (AC.then_ ?_)))
 refine AG.cond rfl (λhc0=>?_) (λhc0=>?_)
 ·replace hc0:=of_decide_eq_true hc0
  refine q4 (AK rfl (AF.nil (AC.then_ (AG.ret (AC.in_ret ?_)))))
  exact AC.then_ret (AR rfl (Ai (v:=(vI (-1:Int))) rfl) (λw hw=>⟨by unfold NZ;rw [if_pos hc0],hw.out⟩))
 ·replace hc0:=of_decide_eq_false hc0
  refine q4 (A7 0 BC rfl (A7 1 BC rfl (BU Tryz.call53 (MO y x (by assumption) (by assumption)) rfl (AK rfl (AF.nil ?_)))))
  refine AC.subF (sL [2,3,4,9] rfl) (AC.then_ ?_)
  refine AG.cond rfl (λhc1=>?_) (λhc1=>?_)
  ·replace hc1:=of_decide_eq_true hc1
   refine q4 (AK rfl (AF.nil (AC.then_ (AG.ret (AC.in_ret ?_)))))
   exact AC.then_ret (AR rfl (Ai (v:=(vI 1)) rfl) (λw hw=>⟨by unfold NZ;rw [if_neg hc0,if_pos hc1],hw.out⟩))
  ·replace hc1:=of_decide_eq_false hc1
   refine AG.skip (AC.in_normal (q2 (AK rfl (AF.nil (AC.then_ ?_)))))
   exact AG.ret (AR rfl (Ai (v:=(vI 0)) rfl) (λw hw=>⟨by unfold NZ;rw [if_neg hc0,if_neg hc1],hw.out⟩))
end
section
abbrev YT:={ p:Pt // Bo p<=1000 }
instance:Inhabited YT:=⟨⟨⟨0,0⟩,by decide⟩⟩
theorem Z5:∀xs:List Pt,(∀x∈xs,Bo x<=1000)->∃ds:List YT,ds.map (·.1)=xs
  | [],_=>⟨[],rfl⟩
  | x::r,h=>by
    obtain ⟨ds,e⟩:=Z5 r λy hy=>h y (List.mem_cons_of_mem _ hy)
    exact ⟨⟨x,h x List.mem_cons_self⟩::ds,by rw [List.map_cons,e]⟩
def LK (x:YT):List Value:=Ae x.1
def Yh (x y:YT):Int:=NZ x.1 y.1
theorem Zi:Go.Sort.SWO (ltOf Yh) where
  irrefl x:=decide_eq_false (by unfold Yh;rw [Fq];unfold Pj;grind)
  trans x y z h1 h2:=by
    have h1:=Fq.1 (of_decide_eq_true h1)
    have h2:=Fq.1 (of_decide_eq_true h2)
    refine decide_eq_true (Fq.2 ?_)
    unfold Pj at *
    grind
  ntrans x y z h1 h2:=by
    have h1:¬NZ x.1 y.1<0:=of_decide_eq_false h1
    have h2:¬NZ y.1 z.1<0:=of_decide_eq_false h2
    rw [Fq] at h1 h2
    refine decide_eq_false ?_
    unfold Yh
    rw [Fq]
    unfold Pj at *
    grind
theorem Y4 (Ah off size:Nat) (w:World):CmpLays Tryz.prog 131 #[] LK 10 Yh Ah off size w:=λm os dk _ x y=>by
  rw [Array.append_empty]
  exact (V_ x.1 y.1 x.2 y.2 _).mono λe w' h=>⟨h.1,QZ h.2⟩
theorem Lo {d:Array YT} {t:Nat} (h:t<d.size*10):(rowsL Ae (d.toList.map (·.1)))[t]?=some (Go.Sort.flatK LK 10 d)[t]!:=by
  rw [Go.Sort.get_flatK _ _ _ _ h]
  have h1:t/10<d.size:=by omega
  have h2:=ER BI (⟨0,0⟩:Pt) (d.toList.map (·.1)) (t/10) (t%10) (by simpa using h1) (Nat.mod_lt _ (by decide)) (v:=(LK d[t/10]!)[t%10]!) (by
    rw [List.getD,List.getElem?_map,show d.toList[t/10]?=some d[t/10] from by simp [h1],getElem!_pos d (t/10) h1]
    show (Ae (d[t/10]).1)[t%10]?=some (Ae (d[t/10]).1)[t%10]!
    have hl:t%10<(Ae (d[t/10]).1).length:=by rw [BI];exact Nat.mod_lt _ (by decide)
    rw [List.getElem?_eq_getElem hl,getElem!_pos (Ae (d[t/10]).1) (t%10) hl])
  rw [show t/10*10+t%10=t by omega] at h2
  exact h2
theorem V7 (x:YT):∀v∈LK x,v.oneCell'=true:=λv hv=>by
  unfold LK Ae AD at hv
  simp only [List.mem_cons,List.mem_append,List.not_mem_nil,or_false] at hv
  rcases hv with (rfl|rfl|rfl|rfl|rfl)|(rfl|rfl|rfl|rfl|rfl)<;>rfl
theorem U7 (xs:List Pt) (p:Option Addr) (n c:Nat) (T:TypeId) (ho:OwnOk p n c) (hp0:p≠none) (hn:n=xs.length) (hN:n<4611686018427387904) (hb:∀x∈xs,Bo x<=1000) (w:World) (hrow:∀b,p.map (·.block)=some b->∃o,w.heap[b]?=some o/\(rowW p T 10 n c (rowsL Ae xs)).P o) :
    Calls Tryz.prog 130 #[.slice p n c,.func (.func 131) #[] #[]] w λe w'=>e=.returned (.tuple #[])/\KZ w w' (p.map (·.block))/\∃ys:List Pt,ys.Perm xs/\∀b,p.map (·.block)=some b->∃o,w'.heap[b]?=some o/\(rowW p T 10 n c (rowsL Ae ys)).P o:=by
  cases hp:p with
  | none=>exact absurd hp hp0
  | some a =>
    subst hp
    obtain ⟨o,hob,cur,rfl,hsz,hcur⟩:=hrow a.block rfl
    have hat:=ho.at0 a rfl
    have hle:=ho.le
    obtain ⟨ds,hds⟩:=Z5 xs hb
    have hdl:ds.length=n:=by rw [hn,<-hds,List.length_map]
    obtain ⟨d,hd⟩:∃d,d=ds.toArray:=⟨_,rfl⟩
    have hdz:d.size=n:=by rw [hd];simpa using hdl
    have hdx:d.toList.map (·.1)=xs:=by rw [hd];exact hds
    have hH:Go.Sort.HoldsK LK 10 w a.block 0 d:=λj hj=>by
      have hj':j<d.size*10:=by simpa using hj
      refine ⟨?_,by simp [World.frozen?,hob]⟩
      have h1:(cur.toList.take (n*10))[j]?=(rowsL Ae xs)[j]?:=by rw [hcur]
      rw [List.getElem?_take_of_lt (by omega),Array.getElem?_toList,<-hdx,Lo hj'] at h1
      show w.cell? ⟨a.block,0+j,none⟩=some (id (Go.Sort.flatK LK 10 d)[j]!)
      unfold World.cell?
      simp only [hob,Nat.zero_add]
      exact h1
    have hlt:a.block<w.heap.size:=by
      rcases Nat.lt_or_ge a.block w.heap.size with h|h
      · exact h
      · rw [Array.getElem?_eq_none h] at hob;cases hob
    have h:=Tryz.slices_SortFunc_Point 10 Tryz.isAgg55 Tryz.sizeOf55 LK (λx=>BI x.1) V7 Yh Zi 131 #[] a.block 0 c d w Tryz.call131 (Y4 a.block 0 d.size w) hH hlt (by omega)
    rw [hdz] at h
    rw [hat]
    refine h.mono ?_
    rintro e w' ⟨rfl,d',m,os,⟨hz',_,hperm⟩,_,rfl⟩
    have hz2:d'.size=n:=by rw [hz',hdz]
    have hperm':d'.toList.Perm d.toList:=by
      have e1:d'.extract 0 n=d':=by rw [<-hz2];exact Array.extract_size
      have e2:d.extract 0 n=d:=by rw [<-hdz];exact Array.extract_size
      rw [e1,e2] at hperm
      exact hperm
    have hF:(Go.Sort.flatK LK 10 d').size=n*10:=by rw [Go.Sort.size_flatK,hz2]
    refine ⟨rfl,⟨⟨rfl,rfl,rfl,by simp [sortWorldK,Go.Sort.grow,Go.Sort.putRowK,Go.Sort.putRow,Go.Sort.mapBlock,Go.Sort.ahead],λj hj hne=>?_⟩,by show w.drawn<=w.drawn+m;omega⟩,d'.toList.map (·.1),by rw [<-hdx];exact hperm'.map _,λb e=>?_⟩
    · have hne':a.block≠j:=λe=>hne (by rw [e];rfl)
      unfold sortWorldK
      rw [Go.Sort.heap_grow_old _ _ (by simpa [Go.Sort.putRowK,Go.Sort.putRow,Go.Sort.mapBlock,Go.Sort.ahead] using hj)]
      simp [Go.Sort.putRowK,Go.Sort.putRow,Go.Sort.mapBlock,Go.Sort.ahead,Array.getElem?_modify,hne']
    · injection e with e
      subst e
      refine ⟨.cells (Go.Sort.putCells id 0 (Go.Sort.flatK LK 10 d') cur) T (0,0),?_,_,rfl,by simp [Go.Sort.putCells,hsz],?_⟩
      · unfold sortWorldK
        rw [Go.Sort.heap_grow_old _ _ (by simpa [Go.Sort.putRowK,Go.Sort.putRow,Go.Sort.mapBlock,Go.Sort.ahead] using hlt)]
        simp [Go.Sort.putRowK,Go.Sort.putRow,Go.Sort.mapBlock,Go.Sort.ahead,Array.getElem?_modify,hob,Go.Sort.onCells]
      · apply List.ext_getElem?
        intro j
        have hlen:(rowsL Ae (d'.toList.map (·.1))).length=n*10:=by rw [Ak BI,List.length_map,Array.length_toList,hz2]
        by_cases hj:j<n*10
        · have hcs:n*10<=c*10:=Nat.mul_le_mul_right _ hle
          rw [List.getElem?_take_of_lt hj,Array.getElem?_toList,Lo (by rw [hz2];exact hj)]
          unfold Go.Sort.putCells
          rw [Array.getElem?_mapIdx,Array.getElem?_eq_getElem (by omega),Option.map_some,if_pos ⟨Nat.zero_le _,by omega⟩]
          rfl
        · rw [List.getElem?_take_eq_none (by omega),List.getElem?_eq_none (by omega)]
section
variable {P:Program} {ops:Array Oper} {rest:List Oper} {Q:Exit->Act->World->Prop} {n:Nat} {F:List (Nat×Value)} {w0:BP} {L:List As}
theorem AF.callWX {o:Oper} {f:FuncId} {args:Array Value} {v:Value} {α:Type} {K:α->Prop} {cs':α->List Value} (i:Nat) {q:Option Addr} {T:TypeId} {z m c:Nat} {cs:List Value} (hw:Wt ops n F o)
    (he:∀a w,Cd n a F->BR w0 w L->(execOp a.eval o).run P w=.ok (.enter f args) w) (hi:L[i]?=some (rowW q T z m c cs))
    (hc:∀w,BR w0 w L->Calls P f args w λe w'=>e=.returned v/\KZ w w' (q.map (·.block))/\∃y,K y/\∀b,q.map (·.block)=some b->∃o,w'.heap[b]?=some o/\(rowW q T z m c (cs' y)).P o)
    (hd:∀d,o.dst=some d->d<n) (next:∀y,K y->AF P ops rest Q n (match o.dst with|some d=>(d,v)::F|none=>F) w0 (L.set i (rowW q T z m c (cs' y)))):AF P ops (o::rest) Q n F w0 L:=λa w ha hW=>by
  unfold wpList
  rw [if_pos (hw a ha)]
  left
  unfold Oper.wp
  rw [he a w ha hW,Oper.upon_enter]
  refine (hc w hW).mono ?_
  rintro e w' ⟨rfl,hg,y,hk,hr⟩
  have hW':=hW.renew hi rfl hg (y:=rowW q T z m c (cs' y)) λb e=>⟨.inl e,hr b e⟩
  have next:=next y hk
  cases hdd:o.dst with
  | none=>rw [hdd] at next;exact next _ _ ha.put_none hW'
  | some d=>rw [hdd] at next;exact next _ _ (ha.put (hd d hdd)) hW'
end
end
end Go.Proofs.YtfbomiejpbchdaaGreat
