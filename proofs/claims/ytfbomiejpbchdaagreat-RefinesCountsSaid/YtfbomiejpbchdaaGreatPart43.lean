import Derived.ProofKit
import Derived.LaidMore
import Derived.Carry
import Derived.Stop.Joined
import Derived.SevenTiedAt
import Derived.Test.YtfbomiejpbchdaaGreatPart06
import Derived.Test.YtfbomiejpbchdaaGreatPart19
import Derived.Test.YtfbomiejpbchdaaGreatPart24
import Derived.Test.YtfbomiejpbchdaaGreatPart35
import Derived.Test.YtfbomiejpbchdaaGreatPart37
import Derived.Test.YtfbomiejpbchdaaGreatPart41
import Derived.Test.YtfbomiejpbchdaaGreatPart42
namespace Go.Proofs.YtfbomiejpbchdaaGreat
open Go Go.RowKit
set_option linter.unusedVariables false
set_option linter.unusedSimpArgs false
section
set_option maxRecDepth 100000
set_option maxHeartbeats 1000000 in
theorem H1 (m:MQ) (w:World) {S:Nat->Prop} (hm:Ro S w m):Calls Tryz.prog 3 #[(aG (EJ m))] w (Ax w (Value.bool true)):=by
 have lm:=H0 (W:=w) hm
 refine BQ (args:=[(aG (EJ m))]) (L:=[AX m.p (Cp m.cs)]) Tryz.func3 rfl rfl (Af rfl) (Hy hm Bo) (AE.subF (sL [0] rfl) (q4 (CB (cs:=EJ m) rfl λb1=>AL rfl (q3 (sL [1,2] rfl) ?_))))
 refine BF 0 Mr rfl (AD.callR (S:=S) (α:=MG) (args:=[(aG (EJ m))]) Tryz.call11 (λw hw=>Sg m w (Eu hw 1 rfl lm)) rfl rfl rfl λg lg=>?_)
 have hG:=g.good
 have hnb:Ba g.ps.length g.ts=true:=QL hG
 have htl:=hG.tl
 have hpl:=hG.pl
 have hne:0<g.ts.length:=List.length_pos_iff.2 hG.ne
 have hz:∀i,DT (RP g.ps i)<=1000000:=λi=>Nat.le_trans (hG.sz i) (by decide)
 have hsl:=g.sl
 have hel0:(A_ g.ts).length<=3*g.ts.length:=MH g.ts
 have D:=VZ hG hnb g.sd
 obtain ⟨PA,hPA⟩:∃q,q=Ds g.ps (A_ g.ts):=⟨_,rfl⟩
 obtain ⟨TA,hTA⟩:∃q,q=CF g.ps.length (A_ g.ts) g.ts:=⟨_,rfl⟩
 obtain ⟨SA,hSA⟩:∃q,q=Nx g.ps.length g.ss (A_ g.ts) TA:=⟨_,rfl⟩
 have hpa:PA.length=g.ps.length+(A_ g.ts).length:=by rw [hPA,Nk]
 have hta:TA.length=4*g.ts.length:=by rw [hTA,Cf]
 have hneA:0<TA.length:=by omega
 have hnA:Ba PA.length TA=true:=by rw [hpa,hTA];exact GU hnb (by omega)
 have hedg:(A_ TA).length=2*(A_ g.ts).length+3*g.ts.length:=by rw [hTA];exact Lr hnb (by omega) (Lj hG hnb)
 have heul:HD TA=HD g.ts:=by rw [hTA];exact VR hnb (by omega) (Lj hG hnb)
 have hsa:SA.length=2*g.ss.length:=by rw [hSA,hTA];exact Tf D
 have hmk:∀k,(ED SA k SA.length).length=2*(ED g.ss k g.ss.length).length:=by rw [hSA,hTA];exact SH D
 have hfd:∀s∈SA,G2 g.ps PA g.ss s g.ss.length=1:=by rw [hSA,hTA,hPA];exact λs hs=>OL D hs
 have hbd:∀s∈SA,s.1<PA.length/\s.2.1<PA.length:=by rw [hpa,hSA,hTA];exact λs hs=>(D.s_fs_mem hs).2
 have hzA:∀i,DT (PA.getD i ⟨0,0⟩)<=100:=by rw [hPA];exact D.s_sz
 have redA:∀(x:MX g.ps g.ts g.ss) (w:World) {S:Nat->Prop} (hx:Ro S w x),Calls Tryz.prog 12 #[aG (B5 x)] w (Bc (U7 PA TA SA (GJ g.ts.length) 0) S w):=λx w S hx=>by have h9:=R1 x hnb hz (by omega) (by omega) (by omega) ⟨by omega,by omega⟩ w hx;rw [<-hPA,<-hTA,<-hSA] at h9;exact h9
 refine al Ml rfl λb2=>A6 rfl Tryz.sizeOf31 rfl (q3 (sL [2,3] rfl) (BF 0 DW rfl (YW (S:=S) (args:=[aG (B5 g.mx)]) Tryz.call12 (λw hw=>redA g.mx w (Eu hw 1 rfl lg:Ro _ w g.mx)) rfl λra hmra hqra=>AO rfl ?_)))
 refine AH (AY (v:=(aG (B5 ra.m))) rfl rfl) rfl (AH (AY (v:=(Value.slice ra.q.p ((GJ g.ts.length).length) ra.q.c)) rfl rfl) rfl (AH (AY (v:=(vI 0)) rfl rfl) rfl (al Ml rfl λb3=>A6 rfl Tryz.sizeOf31 rfl (AL rfl ?_))))
 refine AL rfl (q3 (sL [2,3,4,6] rfl) (BF 5 DW rfl (cX (S:=S) (cs:=rowsL B4 (A_ g.ts)) (k:=(A_ g.ts).length) (args:=[(aG (B5 g.mx))]) Tryz.call13 (λw hw=>HR g.mx (by omega) (by omega) hnb w (Eu hw 6 rfl lg:Ro _ w g.mx)) rfl rfl rfl λea lea=>AH (v:=(vN ((A_ g.ts).length))) (AF rfl Tryz.underlying37) rfl (AL rfl ?_))))
 refine q3 (sL [2,3,4,6,7] rfl) (BF 6 DW rfl (AD.callR (S:=S) (α:=XH g.ts) (args:=[(aG (B5 g.mx))]) Tryz.call14 (λw hw=>Jk g.mx hnb hne (by omega) (by omega) w (Eu hw 7 rfl lg:Ro _ w g.mx)) rfl rfl rfl λpa lpa=>AO rfl (AH (AY (v:=(Value.slice pa.r.p pa.l.length pa.r.c)) rfl rfl) rfl (AH (AY (v:=(vN pa.n)) rfl rfl) rfl ?_))))
 refine AL rfl (AL rfl (q3 (sL [2,3,4,6,7,9] rfl) (BF 2 DW rfl (AD.callR (S:=S) (α:=XH TA) (args:=[(aG (B5 ra.m))]) Tryz.call14 (λw hw=>Jk ra.m hnA hneA (by omega) (by omega) w (Eu hw 3 rfl hmra)) rfl rfl rfl λpb lpb=>?_))))
 have hab:pb.n=pa.n:=(V9 (by rw [hTA];exact U6 hnb (by omega) pa.pts) pb.pts).symm
 refine AO rfl (AH (AY (v:=(Value.slice pb.r.p pb.l.length pb.r.c)) rfl rfl) rfl (AH (AY (v:=(vN pb.n)) rfl rfl) rfl (AL rfl (AL rfl (q6 (sL [2,3,4,6,7,9,11] rfl) ?_)))))
 refine AE.seq (C7 [(0,true),(1,true),(2,true),(3,true),(4,true),(5,true),(6,true),(7,true),(8,true),(9,true),(10,true),(11,true),(12,true),(13,true),(14,true),(17,true),(18,true),(19,true),(20,true),(21,true),(22,true),(23,true),(15,false),(16,true),(24,true),(25,true),(26,true),(27,true),(28,true),(29,true),(30,true),(31,true),(32,true),(33,true),(34,true),(35,true),(36,true),(37,true),(38,true),(39,true),(40,true),(41,true),(42,true),(44,true),(43,false),(45,false),(46,true),(47,true),(48,true),(49,true),(50,true),(51,true),(52,true),(53,true),(54,true),(55,true),(56,true),(57,true)] sr (Bl rfl (Au rfl (CX (c:=false) rfl rfl (decide_eq_false (by omega))) (Bl rfl (AP.pas (v:=(pP b3 0)) rfl (AB rfl) (AA rfl Tryz.underlying31 rfl Tryz.sizeOf27 rfl) rfl rfl ?_)))))
 refine AP.pas (v:=(Value.slice ra.m.a.p PA.length ra.m.a.c)) rfl (AB rfl) (AK (i:=3) (v:=(Value.slice ra.m.a.p PA.length ra.m.a.c)) rfl rfl Dr.a rfl) rfl rfl (AP.pas (v:=(vN PA.length)) rfl (AB rfl) (AF rfl Tryz.underlying27) rfl rfl (AP.pas (v:=(pP b2 0)) rfl (AB rfl) (AA rfl Tryz.underlying31 rfl Tryz.sizeOf27 rfl) rfl rfl (AP.pas (v:=(Value.slice g.mx.a.p g.ps.length g.mx.a.c)) rfl (AB rfl) (AK (i:=8) (v:=(Value.slice g.mx.a.p g.ps.length g.mx.a.c)) rfl rfl Dr.a rfl) rfl rfl (AP.pas (v:=(vN g.ps.length)) rfl (AB rfl) (AF rfl Tryz.underlying27) rfl rfl (AP.pas (v:=(vN ((A_ g.ts).length))) rfl (AB rfl) (BU rfl) rfl rfl ?_)))))
 refine AP.pas (v:=(vN (g.ps.length+((A_ g.ts).length)))) rfl (AB rfl) (AT (c:=((g.ps.length+((A_ g.ts).length):Nat):Int)) rfl rfl (AR (a:=g.ps.length) (b:=(A_ g.ts).length) (by omega))) rfl rfl (AP.pas (v:=(Value.bool false)) rfl (AB rfl) (CX (c:=false) rfl rfl (decide_eq_false (by omega))) rfl rfl (Au (v:=(Value.bool false)) rfl (Aa rfl rfl) (Bl rfl (AP.pas (v:=(aG (B5 ra.m))) rfl (AB rfl) (Ak (i:=3) (vs:=B5 ra.m) rfl rfl DW.a DW.s rfl rfl) rfl rfl (AP.pas (v:=(vN ((A_ g.ts).length))) rfl (AB rfl) (BU rfl) rfl rfl ?_)))))
 refine AP.pas (v:=(vN (2*((A_ g.ts).length)))) rfl (AB rfl) (BZ (c:=((2*((A_ g.ts).length):Nat):Int)) rfl rfl (Bq (a:=2) (b:=(A_ g.ts).length) (by omega))) rfl rfl (AP.pas (v:=(pP b2 1)) rfl (AB rfl) (AA rfl Tryz.underlying31 rfl Tryz.sizeOf28 rfl) rfl rfl (AP.pas (v:=(Value.slice g.mx.b.p g.ts.length g.mx.b.c)) rfl (AB rfl) (AK (i:=8) (v:=(Value.slice g.mx.b.p g.ts.length g.mx.b.c)) rfl rfl Di.a rfl) rfl rfl (AP.pas (v:=(vN g.ts.length)) rfl (AB rfl) (AF rfl Tryz.underlying28) rfl rfl (AP.pas (v:=(vN (3*g.ts.length))) rfl (AB rfl) (BZ (c:=((3*g.ts.length:Nat):Int)) rfl rfl (Bq (a:=3) (b:=g.ts.length) (by omega))) rfl rfl (AP.pas (v:=(vN ((2*((A_ g.ts).length))+(3*g.ts.length)))) rfl (AB rfl) (AT (c:=(((2*((A_ g.ts).length))+(3*g.ts.length):Nat):Int)) rfl rfl (AR (a:=2*((A_ g.ts).length)) (b:=3*g.ts.length) (by omega))) rfl rfl ?_)))))
 refine AP.imp rfl (AD.unguard (AB rfl) (cX (S:=S) (cs:=rowsL B4 (A_ TA)) (k:=(A_ TA).length) (args:=[(aG (B5 ra.m))]) Tryz.call13 (λw hw=>HR ra.m (by omega) (by omega) hnA w (Eu hw 4 rfl hmra)) rfl rfl rfl λeb leb=>AP.back (sl sr) (AP.pas (v:=(vN ((A_ TA).length))) rfl (AB rfl) (AF rfl Tryz.underlying37) rfl rfl (AP.pas (v:=(Value.bool false)) rfl (AB rfl) (CX (c:=false) rfl rfl (decide_eq_false (by omega))) rfl rfl ?_))))
 refine Au (v:=(Value.bool false)) rfl (Aa rfl rfl) (Bl rfl (AP.pas (v:=(pP b3 1)) rfl (AB rfl) (AA rfl Tryz.underlying31 rfl Tryz.sizeOf28 rfl) rfl rfl (AP.pas (v:=(Value.slice ra.m.b.p TA.length ra.m.b.c)) rfl (AB rfl) (AK (i:=3) (v:=(Value.slice ra.m.b.p TA.length ra.m.b.c)) rfl rfl Di.a rfl) rfl rfl (AP.pas (v:=(vN TA.length)) rfl (AB rfl) (AF rfl Tryz.underlying28) rfl rfl (AP.pas (v:=(pP b2 1)) rfl (AB rfl) (AA rfl Tryz.underlying31 rfl Tryz.sizeOf28 rfl) rfl rfl ?_)))))
 refine AP.pas (v:=(Value.slice g.mx.b.p g.ts.length g.mx.b.c)) rfl (AB rfl) (AK (i:=8) (v:=(Value.slice g.mx.b.p g.ts.length g.mx.b.c)) rfl rfl Di.a rfl) rfl rfl (AP.pas (v:=(vN g.ts.length)) rfl (AB rfl) (AF rfl Tryz.underlying28) rfl rfl (AP.pas (v:=(vN (4*g.ts.length))) rfl (AB rfl) (BZ (c:=((4*g.ts.length:Nat):Int)) rfl rfl (Bq (a:=4) (b:=g.ts.length) (by omega))) rfl rfl (AP.pas (v:=(Value.bool false)) rfl (AB rfl) (CX (c:=false) rfl rfl (decide_eq_false (by omega))) rfl rfl (Au (v:=(Value.bool false)) rfl (Aa rfl rfl) (Bl rfl ?_)))))
 refine AP.pas (v:=(vN pa.n)) rfl (AB rfl) (BU rfl) rfl rfl (AP.pas (v:=(vN pb.n)) rfl (AB rfl) (BU rfl) rfl rfl (AP.pas (v:=(Value.bool false)) rfl (AB rfl) (CX (c:=false) rfl rfl (decide_eq_false (by omega))) rfl rfl (Au (v:=(Value.bool false)) rfl (Aa rfl rfl) (Bl rfl (AP.pas (v:=(aG (B5 g.mx))) rfl (AB rfl) (Ak (i:=8) (vs:=B5 g.mx) rfl rfl DW.a DW.s rfl rfl) rfl rfl ?_)))))
 refine AP.pas (v:=(aG (B5 ra.m))) rfl (AB rfl) (Ak (i:=3) (vs:=B5 ra.m) rfl rfl DW.a DW.s rfl rfl) rfl rfl (AP.imp rfl (AD.call (v:=(vI (((pa.n:Nat):Int)-HD g.ts))) (AB rfl) (A8 (args:=[(aG (B5 g.mx))]) rfl rfl Tryz.call15) (λw hw=>NQ g.mx pa.l pa.n pa.pts hnb hne (by omega) (by omega) w (Eu hw 10 rfl lg:Ro _ w g.mx)) rfl (Af rfl) (AP.back (sl sr) (AP.imp rfl (AD.call (v:=(vI (((pb.n:Nat):Int)-HD TA))) (AB rfl) (A8 (args:=[(aG (B5 ra.m))]) rfl rfl Tryz.call15) (λw hw=>NQ ra.m pb.l pb.n pb.pts hnA hneA (by omega) (by omega) w (Eu hw 5 rfl hmra)) rfl (Af rfl) ?_)))))
 refine AP.back (sl sr) (AP.pas (v:=(Value.bool false)) rfl (AB rfl) (CX (c:=false) rfl rfl (decide_eq_false (λh9=>h9 (by rw [hab,heul])))) rfl rfl (Au (v:=(Value.bool false)) rfl (Aa rfl rfl) (Bl rfl (AP.pas (v:=(pP b3 2)) rfl (AB rfl) (AA rfl Tryz.underlying31 rfl Tryz.sizeOf29 rfl) rfl rfl (AP.pas (v:=(Value.slice ra.m.c.p SA.length ra.m.c.c)) rfl (AB rfl) (AK (i:=3) (v:=(Value.slice ra.m.c.p SA.length ra.m.c.c)) rfl rfl FT.a rfl) rfl rfl ?_)))))
 refine AP.pas (v:=(vN SA.length)) rfl (AB rfl) (AF rfl Tryz.underlying29) rfl rfl (AP.pas (v:=(pP b2 2)) rfl (AB rfl) (AA rfl Tryz.underlying31 rfl Tryz.sizeOf29 rfl) rfl rfl (AP.pas (v:=(Value.slice g.mx.c.p g.ss.length g.mx.c.c)) rfl (AB rfl) (AK (i:=8) (v:=(Value.slice g.mx.c.p g.ss.length g.mx.c.c)) rfl rfl FT.a rfl) rfl rfl (AP.pas (v:=(vN g.ss.length)) rfl (AB rfl) (AF rfl Tryz.underlying29) rfl rfl (AP.pas (v:=(vN (2*g.ss.length))) rfl (AB rfl) (BZ (c:=((2*g.ss.length:Nat):Int)) rfl rfl (Bq (a:=2) (b:=g.ss.length) (by omega))) rfl rfl (AP.pas (v:=(Value.bool false)) rfl (AB rfl) (CX (c:=false) rfl rfl (decide_eq_false (by omega))) rfl rfl ?_)))))
 refine Au (v:=(Value.bool false)) rfl (Aa rfl rfl) (AP.nil (AC.subF (sL [2,3,4,97] rfl) (AC.then_ (AE.cond_false rfl (AE.skip ?_)))))
 refine q1 (q4 (AL rfl (AD.nil (AC.subF (sL [2,3,4,12] rfl) (AC.then_ ?_)))))
 refine AE.block ?_
 refine AE.lp1 (tg λ(q:Nat)=>q<=6) (tg λ(q:Nat)=>[(3,(pP b2 0)),(4,(pP b3 0)),(12,(vN q))]) (tg λ(q:Nat)=>[AX eb.p (rowsL B4 (A_ TA)),AX pb.r.p (zL pb.l),AX pa.r.p (zL pa.l),AX ea.p (rowsL B4 (A_ g.ts)),Ac b3 31 (B5 ra.m),AX ra.m.a.p (rowsL An PA),AX ra.m.b.p (rowsL Ai TA),AX ra.m.c.p (rowsL Ai SA),AX ra.q.p (inL (GJ g.ts.length)),Ac b2 31 (B5 g.mx),AX g.mx.a.p (rowsL An g.ps),AX g.mx.b.p (rowsL Ai g.ts),AX g.mx.c.p (rowsL Ai g.ss),Ac b1 26 (EJ m),AX m.p (Cp m.cs)]) (tg λ(q:Nat)=>6-q) 0 (Nat.zero_le _) (sF rfl) sr (λq hJ=>?_)
 have hql:=hJ
 refine AE.seq (q4 (AO rfl (AH (Ag (c:=(decide (q<6))) rfl rfl (DA (a:=q) (b:=6))) rfl (AD.nil (AC.subF (sL [3,4,12,99] rfl) ?_)))))
 refine AC.then_ ?_
 refine AE.cond rfl (λhc1=>?_) (λhc1=>?_)
 ·replace hc1:=of_decide_eq_true hc1
  have hmq:=hmk q
  have hmq2:(ED g.ss q g.ss.length).length<=g.ss.length:=Nd _
  refine AE.skip (q1 (AE.block (AE.seq (C7 [(0,true),(1,true),(4,true),(5,true),(2,false),(3,true),(6,false),(7,true),(8,true),(9,true)] sr (Db 4 DW rfl ?_)))))
  refine Bl rfl (Db 9 DW rfl (Bl rfl (AP.imp rfl (cX (S:=S) (cs:=rowsL Ai (ED SA q SA.length)) (k:=(ED SA q SA.length).length) (args:=[(aG (B5 ra.m)),(vN q)]) Tryz.call16 (λw hw=>Li ra.m q (by omega) (by omega) w (Eu hw 5 rfl hmra)) rfl rfl rfl λmb lmb=>AP.back (sl sr) ?_))))
  refine Au (v:=(vN ((ED SA q SA.length).length))) rfl (AF rfl Tryz.underlying29) (AP.imp rfl (cX (S:=S) (cs:=rowsL Ai (ED g.ss q g.ss.length)) (k:=(ED g.ss q g.ss.length).length) (args:=[(aG (B5 g.mx)),(vN q)]) Tryz.call16 (λw hw=>Li g.mx q (by omega) (by omega) w (Eu hw 11 rfl lg:Ro _ w g.mx)) rfl rfl rfl λma lma=>AP.back (sl (sl sr)) (Au (v:=(vN ((ED g.ss q g.ss.length).length))) rfl (AF rfl Tryz.underlying29) (Au rfl (BZ (c:=((2*((ED g.ss q g.ss.length).length):Nat):Int)) rfl rfl (Bq (a:=2) (b:=(ED g.ss q g.ss.length).length) (by omega))) ?_))))
  refine Au rfl (CX (c:=false) rfl rfl (decide_eq_false (by omega))) (AP.nil (AC.subF (sL [3,4,12,111] rfl) (AC.then_ (AE.cond_false rfl (AE.skip ?_)))))
  refine AC.in_normal (AC.then_ (AE.region (AO rfl (AH (AT (c:=((q+1:Nat):Int)) rfl rfl (AR (a:=q) (b:=1) (by omega))) rfl (AL rfl ?_)))))
  exact AD.nil (AC.subF (sL [3,4,12] rfl) (AC.round1 (q+1) (by omega) (by omega) (sF rfl) (sl (sl sr))))
 ·replace hc1:=of_decide_eq_false hc1
  refine AE.exit (AC.then_exit (AC.round1_exit (AC.in_exit (q1 (q4 ?_)))))
  refine AL rfl (AD.nil (AC.then_ (AE.block ?_)))
  refine AE.lp1 (tg λ(i:Nat)=>i<=SA.length) (tg λ(i:Nat)=>[(3,(pP b2 0)),(4,(pP b3 0)),(13,(vN i))]) (tg λ(i:Nat)=>[AX eb.p (rowsL B4 (A_ TA)),AX pb.r.p (zL pb.l),AX pa.r.p (zL pa.l),AX ea.p (rowsL B4 (A_ g.ts)),Ac b3 31 (B5 ra.m),AX ra.m.a.p (rowsL An PA),AX ra.m.b.p (rowsL Ai TA),AX ra.m.c.p (rowsL Ai SA),AX ra.q.p (inL (GJ g.ts.length)),Ac b2 31 (B5 g.mx),AX g.mx.a.p (rowsL An g.ps),AX g.mx.b.p (rowsL Ai g.ts),AX g.mx.c.p (rowsL Ai g.ss),Ac b1 26 (EJ m),AX m.p (Cp m.cs)]) (tg λ(i:Nat)=>SA.length-i) 0 (Nat.zero_le _) (sF rfl) sr (λi hJ=>?_)
  have hil:=hJ
  refine AE.seq (q4 (AO rfl (AH (v:=(pP b3 2)) (AA rfl Tryz.underlying31 rfl Tryz.sizeOf29 rfl) rfl (BI 4 (Value.slice ra.m.c.p SA.length ra.m.c.c) FT rfl (AH (v:=(vN SA.length)) (AF rfl Tryz.underlying29) rfl ?_)))))
  refine AH (Ag (c:=(decide (i<SA.length))) rfl rfl (DA (a:=i) (b:=SA.length))) rfl (AD.nil (AC.subF (sL [3,4,13,116] rfl) (AC.then_ ?_)))
  refine AE.cond rfl (λhc3=>?_) (λhc3=>?_)
  ·replace hc3:=of_decide_eq_true hc3
   obtain ⟨s,hs⟩:∃q,q=SA.getD i (0,0,0):=⟨_,rfl⟩
   have hsm:s∈SA:=by rw [hs,List.getD,List.getElem?_eq_getElem hc3];exact List.getElem_mem hc3
   obtain ⟨hb1,hb2⟩:=hbd s hsm
   refine AE.skip (q1 (AE.block (q4 (AH (v:=(pP b3 2)) (AA rfl Tryz.underlying31 rfl Tryz.sizeOf29 rfl) rfl (BI 4 (Value.slice ra.m.c.p SA.length ra.m.c.c) FT rfl ?_)))))
   refine AO rfl (AH (v:=(pP (pB ra.m.c.p) (pO ra.m.c.p+i*3))) (AQ (j:=i) rfl rfl ra.m.c.ok Tryz.underlying29 Tryz.sizeOf44 rfl (by omega)) rfl (AH (v:=(aG (Ai (SA.getD i (0,0,0))))) (AZ (vs:=Ai (SA.getD i (0,0,0))) (i:=7) rfl rfl (BL.ne ra.m.c.ok (by omega)) N3 (A7 Aq _ _ _ (by omega)) (Aq _)) rfl (AD.retell (k:=123) (u:=(aG (Ai s))) rfl (by rw [hs]) (al UT rfl λb4=>A6 rfl Tryz.sizeOf44 rfl ?_))))
   refine q3 (sL [3,4,13,14] rfl) (AL rfl (AD.nil (q1 (q4 (AL rfl ?_)))))
   refine AD.nil (AC.then_ (AE.block ?_))
   refine AE.lp1 (tg λ(k:Nat)=>k<=g.ss.length) (tg λ(k:Nat)=>[(3,(pP b2 0)),(4,(pP b3 0)),(13,(vN i)),(14,(pP b4 0)),(16,(vN k)),(15,(vN (G2 g.ps PA g.ss s k)))]) (tg λ(k:Nat)=>[Ac b4 44 (Ai s),AX eb.p (rowsL B4 (A_ TA)),AX pb.r.p (zL pb.l),AX pa.r.p (zL pa.l),AX ea.p (rowsL B4 (A_ g.ts)),Ac b3 31 (B5 ra.m),AX ra.m.a.p (rowsL An PA),AX ra.m.b.p (rowsL Ai TA),AX ra.m.c.p (rowsL Ai SA),AX ra.q.p (inL (GJ g.ts.length)),Ac b2 31 (B5 g.mx),AX g.mx.a.p (rowsL An g.ps),AX g.mx.b.p (rowsL Ai g.ts),AX g.mx.c.p (rowsL Ai g.ss),Ac b1 26 (EJ m),AX m.p (Cp m.cs)]) (tg λ(k:Nat)=>g.ss.length-k) 0 (Nat.zero_le _) (sF rfl) sr (λk hJ=>?_)
   have hk:=hJ
   refine AE.seq (q4 (AO rfl (AH (v:=(pP b2 2)) (AA rfl Tryz.underlying31 rfl Tryz.sizeOf29 rfl) rfl (BI 10 (Value.slice g.mx.c.p g.ss.length g.mx.c.c) FT rfl (AH (v:=(vN g.ss.length)) (AF rfl Tryz.underlying29) rfl ?_)))))
   refine AH (Ag (c:=(decide (k<g.ss.length))) rfl rfl (DA (a:=k) (b:=g.ss.length))) rfl (AD.nil (AC.subF (sL [3,4,13,14,16,15,128] rfl) (AC.then_ ?_)))
   refine AE.cond rfl (λhc4=>?_) (λhc4=>?_)
   ·replace hc4:=of_decide_eq_true hc4
    have hkm:(g.ss.getD k (0,0,0))∈g.ss:=GD hc4
    obtain ⟨_,hks1,hks2⟩:=D.s_side hkm
    have hfl:=Wp (ps:=g.ps) (pf:=PA) (ss:=g.ss) (s:=s) k
    refine AE.skip (q1 (AE.block (AE.seq (C7 [(0,true),(1,true),(2,true),(3,true),(4,true),(5,true),(6,true),(7,true),(8,true),(9,true),(10,false),(11,false)] sr (Au (v:=(pP b2 0)) rfl (AA rfl Tryz.underlying31 rfl Tryz.sizeOf27 rfl) ?_)))))
    refine Bk 10 (Value.slice g.mx.a.p g.ps.length g.mx.a.c) Dr rfl (Au (v:=(pP b2 2)) rfl (AA rfl Tryz.underlying31 rfl Tryz.sizeOf29 rfl) (Bk 10 (Value.slice g.mx.c.p g.ss.length g.mx.c.c) FT rfl (Bl rfl (Au (v:=(pP (pB g.mx.c.p) (pO g.mx.c.p+k*3))) rfl (AQ (j:=k) rfl rfl g.mx.c.ok Tryz.underlying29 Tryz.sizeOf44 rfl (by omega)) (Au (v:=(pP (pB g.mx.c.p) (pO g.mx.c.p+(k*3+0)))) rfl (AA rfl Tryz.underlying44 rfl Tryz.sizeOf3 (Nat.add_assoc _ _ _)) ?_)))))
    refine Au rfl (BD (v:=(vN ((g.ss.getD k (0,0,0)).1))) (i:=13) rfl rfl (BL.ne g.mx.c.ok (by omega)) B_ (Cx Aq (0,0,0) _ _ 0 (by omega) (by decide) rfl)) (Au (v:=(pP (pB g.mx.a.p) (pO g.mx.a.p+((g.ss.getD k (0,0,0)).1)*10))) rfl (AQ (j:=(g.ss.getD k (0,0,0)).1) rfl rfl g.mx.a.ok Tryz.underlying27 Tryz.sizeOf55 rfl (by omega)) (Au (v:=(aG (An (g.ps.getD ((g.ss.getD k (0,0,0)).1) (⟨0,0⟩:Pt))))) rfl (AZ (vs:=An (g.ps.getD ((g.ss.getD k (0,0,0)).1) (⟨0,0⟩:Pt))) (i:=11) rfl rfl (BL.ne g.mx.a.ok (by omega)) BM (A7 BP _ _ _ (by omega)) (BP _)) (AP.imp rfl (al HK rfl λb5=>AP.back (sl sr) ?_))))
    refine AP.imp rfl (A6 rfl Tryz.sizeOf55 rfl (AP.back (sl sr) (AP.nil (AC.subF (sL [3,4,13,14,16,15,17] rfl) (q1 ?_)))))
    refine C7 [(0,true),(1,true),(2,true),(3,true),(4,true),(5,true),(6,true),(7,true),(8,true),(9,true),(10,false),(11,false)] sr (Au (v:=(pP b2 0)) rfl (AA rfl Tryz.underlying31 rfl Tryz.sizeOf27 rfl) (Bk 11 (Value.slice g.mx.a.p g.ps.length g.mx.a.c) Dr rfl (Au (v:=(pP b2 2)) rfl (AA rfl Tryz.underlying31 rfl Tryz.sizeOf29 rfl) (Bk 11 (Value.slice g.mx.c.p g.ss.length g.mx.c.c) FT rfl (Bl rfl ?_)))))
    refine Au (v:=(pP (pB g.mx.c.p) (pO g.mx.c.p+k*3))) rfl (AQ (j:=k) rfl rfl g.mx.c.ok Tryz.underlying29 Tryz.sizeOf44 rfl (by omega)) (Au (v:=(pP (pB g.mx.c.p) (pO g.mx.c.p+(k*3+1)))) rfl (AA rfl Tryz.underlying44 rfl Tryz.sizeOf3 (Nat.add_assoc _ _ _)) (Au rfl (BD (v:=(vN ((g.ss.getD k (0,0,0)).2.1))) (i:=14) rfl rfl (BL.ne g.mx.c.ok (by omega)) B_ (Cx Aq (0,0,0) _ _ 1 (by omega) (by decide) rfl)) (Au (v:=(pP (pB g.mx.a.p) (pO g.mx.a.p+((g.ss.getD k (0,0,0)).2.1)*10))) rfl (AQ (j:=(g.ss.getD k (0,0,0)).2.1) rfl rfl g.mx.a.ok Tryz.underlying27 Tryz.sizeOf55 rfl (by omega)) (Au (v:=(aG (An (g.ps.getD ((g.ss.getD k (0,0,0)).2.1) (⟨0,0⟩:Pt))))) rfl (AZ (vs:=An (g.ps.getD ((g.ss.getD k (0,0,0)).2.1) (⟨0,0⟩:Pt))) (i:=12) rfl rfl (BL.ne g.mx.a.ok (by omega)) BM (A7 BP _ _ _ (by omega)) (BP _)) (AP.imp rfl ?_)))))
    refine al HK rfl λb6=>AP.back (sl sr) (AP.imp rfl (A6 rfl Tryz.sizeOf55 rfl (AP.back (sl sr) (AP.nil ?_))))
    refine AC.subF (sL [3,4,13,14,16,15,17,18] rfl) (q1 ?_)
    obtain ⟨u,hu⟩:∃q,q=g.ps.getD (g.ss.getD k (0,0,0)).1 ⟨0,0⟩:=⟨_,rfl⟩
    have su:DT u<=100:=by rw [hu];exact Nat.le_trans (hG.sz _) (by decide)
    rw [<-hu]
    obtain ⟨v,hv⟩:∃q,q=g.ps.getD (g.ss.getD k (0,0,0)).2.1 ⟨0,0⟩:=⟨_,rfl⟩
    have sv:DT v<=100:=by rw [hv];exact Nat.le_trans (hG.sz _) (by decide)
    rw [<-hv]
    by_cases k1:onS u v (PA.getD s.1 ⟨0,0⟩)
    ·skip
     by_cases k2:onS u v (PA.getD s.2.1 ⟨0,0⟩)
     ·skip
      by_cases k3:s.2.2=(g.ss.getD k (0,0,0)).2.2
      ·skip
       have hon:(K4 g.ps PA (g.ss.getD k (0,0,0)) s&&decide (s.2.2=(g.ss.getD k (0,0,0)).2.2))=true:=by unfold K4;rw [<-hu,<-hv,decide_eq_true k1,decide_eq_true k2,decide_eq_true k3];rfl
       refine C7 [(0,true),(1,true),(2,true),(3,true),(4,true),(5,true),(6,true),(7,true),(8,false),(9,true),(10,true),(11,true),(12,true),(13,true),(14,true),(15,true),(16,true),(17,true),(18,false),(19,true),(20,true),(21,true),(22,true),(23,true),(24,true),(25,true),(26,true),(27,true),(28,true),(29,true),(30,true)] sr (Db 1 BM rfl (Db 0 BM rfl (Au (v:=(pP b3 0)) rfl (AA rfl Tryz.underlying31 rfl Tryz.sizeOf27 rfl) (Bk 7 (Value.slice ra.m.a.p PA.length ra.m.a.c) Dr rfl (Au (v:=(pP b4 0)) rfl (AA rfl Tryz.underlying44 rfl Tryz.sizeOf3 rfl) ?_)))))
       refine Bk 2 (vN s.1) B_ rfl (Au (v:=(pP (pB ra.m.a.p) (pO ra.m.a.p+s.1*10))) rfl (AQ (j:=s.1) rfl rfl ra.m.a.ok Tryz.underlying27 Tryz.sizeOf55 rfl (by omega)) (Au (v:=(aG (An (PA.getD s.1 (⟨0,0⟩:Pt))))) rfl (AZ (vs:=An (PA.getD s.1 (⟨0,0⟩:Pt))) (i:=8) rfl rfl (BL.ne ra.m.a.ok (by omega)) BM (A7 BP _ _ _ (by omega)) (BP _)) (AP.imp rfl (BY Tryz.call17 (G1 u v (PA.getD s.1 (⟨0,0⟩:Pt)) (by omega) (by omega) (Nat.le_trans (hzA _) (by decide))) rfl (AD.retell (k:=159) (u:=(Value.bool true)) rfl (by rw [decide_eq_true k1]) ?_)))))
       refine AP.back sr (Bl rfl (AP.pas (v:=(aG (An u))) rfl (AB rfl) (Ak (i:=1) (vs:=An u) rfl rfl BM.a BM.s rfl rfl) rfl rfl (AP.pas (v:=(aG (An v))) rfl (AB rfl) (Ak (i:=0) (vs:=An v) rfl rfl BM.a BM.s rfl rfl) rfl rfl (AP.pas (v:=(pP b3 0)) rfl (AB rfl) (AA rfl Tryz.underlying31 rfl Tryz.sizeOf27 rfl) rfl rfl (AP.pas (v:=(Value.slice ra.m.a.p PA.length ra.m.a.c)) rfl (AB rfl) (AK (i:=7) (v:=(Value.slice ra.m.a.p PA.length ra.m.a.c)) rfl rfl Dr.a rfl) rfl rfl ?_)))))
       refine AP.pas (v:=(pP b4 1)) rfl (AB rfl) (AA rfl Tryz.underlying44 rfl Tryz.sizeOf3 rfl) rfl rfl (AP.pas (v:=(vN s.2.1)) rfl (AB rfl) (AK (i:=2) (v:=(vN s.2.1)) rfl rfl B_.a rfl) rfl rfl (AP.pas (v:=(pP (pB ra.m.a.p) (pO ra.m.a.p+s.2.1*10))) rfl (AB rfl) (AQ (j:=s.2.1) rfl rfl ra.m.a.ok Tryz.underlying27 Tryz.sizeOf55 rfl (by omega)) rfl rfl (AP.pas (v:=(aG (An (PA.getD s.2.1 (⟨0,0⟩:Pt))))) rfl (AB rfl) (AZ (vs:=An (PA.getD s.2.1 (⟨0,0⟩:Pt))) (i:=8) rfl rfl (BL.ne ra.m.a.ok (by omega)) BM (A7 BP _ _ _ (by omega)) (BP _)) rfl rfl (AP.imp rfl (AD.call (v:=(Value.bool (decide (onS u v (PA.getD s.2.1 (⟨0,0⟩:Pt)))))) (AB rfl) (A8 (args:=[(aG (An u)),(aG (An v)),(aG (An (PA.getD s.2.1 (⟨0,0⟩:Pt))))]) rfl rfl Tryz.call17) (λw hw=>G1 u v (PA.getD s.2.1 (⟨0,0⟩:Pt)) (by omega) (by omega) (Nat.le_trans (hzA _) (by decide)) w) rfl (Af rfl) ?_)))))
       refine AD.retell (k:=169) (u:=(Value.bool true)) rfl (by rw [decide_eq_true k2]) (AP.back sr (Au (v:=(Value.bool true)) rfl (Ae rfl rfl) (Bl rfl (AP.pas (v:=(pP b4 2)) rfl (AB rfl) (AA rfl Tryz.underlying44 rfl Tryz.sizeOf3 rfl) rfl rfl (AP.pas (v:=(vN s.2.2)) rfl (AB rfl) (AK (i:=2) (v:=(vN s.2.2)) rfl rfl B_.a rfl) rfl rfl ?_)))))
       refine AP.pas (v:=(pP b2 2)) rfl (AB rfl) (AA rfl Tryz.underlying31 rfl Tryz.sizeOf29 rfl) rfl rfl (AP.pas (v:=(Value.slice g.mx.c.p g.ss.length g.mx.c.c)) rfl (AB rfl) (AK (i:=12) (v:=(Value.slice g.mx.c.p g.ss.length g.mx.c.c)) rfl rfl FT.a rfl) rfl rfl (AP.pas (v:=(vN k)) rfl (AB rfl) (BU rfl) rfl rfl (AP.pas (v:=(pP (pB g.mx.c.p) (pO g.mx.c.p+k*3))) rfl (AB rfl) (AQ (j:=k) rfl rfl g.mx.c.ok Tryz.underlying29 Tryz.sizeOf44 rfl (by omega)) rfl rfl (AP.pas (v:=(pP (pB g.mx.c.p) (pO g.mx.c.p+(k*3+2)))) rfl (AB rfl) (AA rfl Tryz.underlying44 rfl Tryz.sizeOf3 (Nat.add_assoc _ _ _)) rfl rfl (AP.pas (v:=(vN ((g.ss.getD k (0,0,0)).2.2))) rfl (AB rfl) (BD (v:=(vN ((g.ss.getD k (0,0,0)).2.2))) (i:=15) rfl rfl (BL.ne g.mx.c.ok (by omega)) B_ (Cx Aq (0,0,0) _ _ 2 (by omega) (by decide) rfl)) rfl rfl ?_)))))
       refine AP.pas (v:=(Value.bool true)) rfl (AB rfl) (Bp (c:=true) rfl rfl (decide_eq_true (by omega))) rfl rfl (Au (v:=(Value.bool true)) rfl (Ae rfl rfl) (AP.nil (AC.subF (sL [3,4,13,14,16,15,17,18,181] rfl) (AC.then_ (AE.cond_true rfl ?_)))))
       refine AE.region (AO rfl (AH (AT (c:=(((G2 g.ps PA g.ss s k)+1:Nat):Int)) rfl rfl (AR (a:=G2 g.ps PA g.ss s k) (b:=1) (by omega))) rfl (AL rfl (AD.nil (AC.subF (sL [3,4,13,14,16,15,17,18] rfl) ?_)))))
       refine AC.in_normal (AC.then_ (AE.region (AO rfl (AH (AT (c:=((k+1:Nat):Int)) rfl rfl (AR (a:=k) (b:=1) (by omega))) rfl (AL rfl ?_)))))
       refine AD.nil (AC.subF (sL [3,4,13,14,16,15,17,18] rfl) ?_)
       rw [Vv hon]
       exact AC.round1 (k+1) (by omega) (by omega) (sF rfl) (sl (sl sr))
      ·skip
       have hon:¬(K4 g.ps PA (g.ss.getD k (0,0,0)) s&&decide (s.2.2=(g.ss.getD k (0,0,0)).2.2))=true:=by rw [decide_eq_false k3,Bool.and_false];exact Bool.false_ne_true
       refine C7 [(0,true),(1,true),(2,true),(3,true),(4,true),(5,true),(6,true),(7,true),(8,false),(9,true),(10,true),(11,true),(12,true),(13,true),(14,true),(15,true),(16,true),(17,true),(18,false),(19,true),(20,true),(21,true),(22,true),(23,true),(24,true),(25,true),(26,true),(27,true),(28,true),(29,true),(30,true)] sr (Db 1 BM rfl (Db 0 BM rfl (Au (v:=(pP b3 0)) rfl (AA rfl Tryz.underlying31 rfl Tryz.sizeOf27 rfl) (Bk 7 (Value.slice ra.m.a.p PA.length ra.m.a.c) Dr rfl (Au (v:=(pP b4 0)) rfl (AA rfl Tryz.underlying44 rfl Tryz.sizeOf3 rfl) ?_)))))
       refine Bk 2 (vN s.1) B_ rfl (Au (v:=(pP (pB ra.m.a.p) (pO ra.m.a.p+s.1*10))) rfl (AQ (j:=s.1) rfl rfl ra.m.a.ok Tryz.underlying27 Tryz.sizeOf55 rfl (by omega)) (Au (v:=(aG (An (PA.getD s.1 (⟨0,0⟩:Pt))))) rfl (AZ (vs:=An (PA.getD s.1 (⟨0,0⟩:Pt))) (i:=8) rfl rfl (BL.ne ra.m.a.ok (by omega)) BM (A7 BP _ _ _ (by omega)) (BP _)) (AP.imp rfl (BY Tryz.call17 (G1 u v (PA.getD s.1 (⟨0,0⟩:Pt)) (by omega) (by omega) (Nat.le_trans (hzA _) (by decide))) rfl (AD.retell (k:=159) (u:=(Value.bool true)) rfl (by rw [decide_eq_true k1]) ?_)))))
       refine AP.back sr (Bl rfl (AP.pas (v:=(aG (An u))) rfl (AB rfl) (Ak (i:=1) (vs:=An u) rfl rfl BM.a BM.s rfl rfl) rfl rfl (AP.pas (v:=(aG (An v))) rfl (AB rfl) (Ak (i:=0) (vs:=An v) rfl rfl BM.a BM.s rfl rfl) rfl rfl (AP.pas (v:=(pP b3 0)) rfl (AB rfl) (AA rfl Tryz.underlying31 rfl Tryz.sizeOf27 rfl) rfl rfl (AP.pas (v:=(Value.slice ra.m.a.p PA.length ra.m.a.c)) rfl (AB rfl) (AK (i:=7) (v:=(Value.slice ra.m.a.p PA.length ra.m.a.c)) rfl rfl Dr.a rfl) rfl rfl ?_)))))
       refine AP.pas (v:=(pP b4 1)) rfl (AB rfl) (AA rfl Tryz.underlying44 rfl Tryz.sizeOf3 rfl) rfl rfl (AP.pas (v:=(vN s.2.1)) rfl (AB rfl) (AK (i:=2) (v:=(vN s.2.1)) rfl rfl B_.a rfl) rfl rfl (AP.pas (v:=(pP (pB ra.m.a.p) (pO ra.m.a.p+s.2.1*10))) rfl (AB rfl) (AQ (j:=s.2.1) rfl rfl ra.m.a.ok Tryz.underlying27 Tryz.sizeOf55 rfl (by omega)) rfl rfl (AP.pas (v:=(aG (An (PA.getD s.2.1 (⟨0,0⟩:Pt))))) rfl (AB rfl) (AZ (vs:=An (PA.getD s.2.1 (⟨0,0⟩:Pt))) (i:=8) rfl rfl (BL.ne ra.m.a.ok (by omega)) BM (A7 BP _ _ _ (by omega)) (BP _)) rfl rfl (AP.imp rfl (AD.call (v:=(Value.bool (decide (onS u v (PA.getD s.2.1 (⟨0,0⟩:Pt)))))) (AB rfl) (A8 (args:=[(aG (An u)),(aG (An v)),(aG (An (PA.getD s.2.1 (⟨0,0⟩:Pt))))]) rfl rfl Tryz.call17) (λw hw=>G1 u v (PA.getD s.2.1 (⟨0,0⟩:Pt)) (by omega) (by omega) (Nat.le_trans (hzA _) (by decide)) w) rfl (Af rfl) ?_)))))
       refine AD.retell (k:=169) (u:=(Value.bool true)) rfl (by rw [decide_eq_true k2]) (AP.back sr (Au (v:=(Value.bool true)) rfl (Ae rfl rfl) (Bl rfl (AP.pas (v:=(pP b4 2)) rfl (AB rfl) (AA rfl Tryz.underlying44 rfl Tryz.sizeOf3 rfl) rfl rfl (AP.pas (v:=(vN s.2.2)) rfl (AB rfl) (AK (i:=2) (v:=(vN s.2.2)) rfl rfl B_.a rfl) rfl rfl ?_)))))
       refine AP.pas (v:=(pP b2 2)) rfl (AB rfl) (AA rfl Tryz.underlying31 rfl Tryz.sizeOf29 rfl) rfl rfl (AP.pas (v:=(Value.slice g.mx.c.p g.ss.length g.mx.c.c)) rfl (AB rfl) (AK (i:=12) (v:=(Value.slice g.mx.c.p g.ss.length g.mx.c.c)) rfl rfl FT.a rfl) rfl rfl (AP.pas (v:=(vN k)) rfl (AB rfl) (BU rfl) rfl rfl (AP.pas (v:=(pP (pB g.mx.c.p) (pO g.mx.c.p+k*3))) rfl (AB rfl) (AQ (j:=k) rfl rfl g.mx.c.ok Tryz.underlying29 Tryz.sizeOf44 rfl (by omega)) rfl rfl (AP.pas (v:=(pP (pB g.mx.c.p) (pO g.mx.c.p+(k*3+2)))) rfl (AB rfl) (AA rfl Tryz.underlying44 rfl Tryz.sizeOf3 (Nat.add_assoc _ _ _)) rfl rfl (AP.pas (v:=(vN ((g.ss.getD k (0,0,0)).2.2))) rfl (AB rfl) (BD (v:=(vN ((g.ss.getD k (0,0,0)).2.2))) (i:=15) rfl rfl (BL.ne g.mx.c.ok (by omega)) B_ (Cx Aq (0,0,0) _ _ 2 (by omega) (by decide) rfl)) rfl rfl ?_)))))
       refine AP.pas (v:=(Value.bool false)) rfl (AB rfl) (Bp (c:=false) rfl rfl (decide_eq_false (by omega))) rfl rfl (Au (v:=(Value.bool false)) rfl (Ae rfl rfl) (AP.nil (AC.subF (sL [3,4,13,14,16,15,17,18,181] rfl) (AC.then_ (AE.cond_false rfl ?_)))))
       refine AE.skip (AC.in_normal (AC.then_ (AE.region (AO rfl (AH (AT (c:=((k+1:Nat):Int)) rfl rfl (AR (a:=k) (b:=1) (by omega))) rfl ?_)))))
       refine AL rfl (AD.nil (AC.subF (sL [3,4,13,14,16,15,17,18] rfl) ?_))
       rw [OP hon]
       exact AC.round1 (k+1) (by omega) (by omega) (sF rfl) (sl (sl sr))
     ·skip
      have hon:¬(K4 g.ps PA (g.ss.getD k (0,0,0)) s&&decide (s.2.2=(g.ss.getD k (0,0,0)).2.2))=true:=by unfold K4;rw [<-hu,<-hv,decide_eq_false k2,Bool.and_false,Bool.false_and];exact Bool.false_ne_true
      refine C7 [(0,true),(1,true),(2,true),(3,true),(4,true),(5,true),(6,true),(7,true),(8,false),(9,true),(10,true),(11,true),(12,true),(13,true),(14,true),(15,true),(16,true),(17,true),(18,false),(19,true),(20,true),(21,true),(22,true),(23,true),(24,true),(25,true),(26,true),(27,true),(28,true),(29,true),(30,true)] sr (Db 1 BM rfl (Db 0 BM rfl (Au (v:=(pP b3 0)) rfl (AA rfl Tryz.underlying31 rfl Tryz.sizeOf27 rfl) (Bk 7 (Value.slice ra.m.a.p PA.length ra.m.a.c) Dr rfl (Au (v:=(pP b4 0)) rfl (AA rfl Tryz.underlying44 rfl Tryz.sizeOf3 rfl) ?_)))))
      refine Bk 2 (vN s.1) B_ rfl (Au (v:=(pP (pB ra.m.a.p) (pO ra.m.a.p+s.1*10))) rfl (AQ (j:=s.1) rfl rfl ra.m.a.ok Tryz.underlying27 Tryz.sizeOf55 rfl (by omega)) (Au (v:=(aG (An (PA.getD s.1 (⟨0,0⟩:Pt))))) rfl (AZ (vs:=An (PA.getD s.1 (⟨0,0⟩:Pt))) (i:=8) rfl rfl (BL.ne ra.m.a.ok (by omega)) BM (A7 BP _ _ _ (by omega)) (BP _)) (AP.imp rfl (BY Tryz.call17 (G1 u v (PA.getD s.1 (⟨0,0⟩:Pt)) (by omega) (by omega) (Nat.le_trans (hzA _) (by decide))) rfl (AD.retell (k:=159) (u:=(Value.bool true)) rfl (by rw [decide_eq_true k1]) ?_)))))
      refine AP.back sr (Bl rfl (AP.pas (v:=(aG (An u))) rfl (AB rfl) (Ak (i:=1) (vs:=An u) rfl rfl BM.a BM.s rfl rfl) rfl rfl (AP.pas (v:=(aG (An v))) rfl (AB rfl) (Ak (i:=0) (vs:=An v) rfl rfl BM.a BM.s rfl rfl) rfl rfl (AP.pas (v:=(pP b3 0)) rfl (AB rfl) (AA rfl Tryz.underlying31 rfl Tryz.sizeOf27 rfl) rfl rfl (AP.pas (v:=(Value.slice ra.m.a.p PA.length ra.m.a.c)) rfl (AB rfl) (AK (i:=7) (v:=(Value.slice ra.m.a.p PA.length ra.m.a.c)) rfl rfl Dr.a rfl) rfl rfl ?_)))))
      refine AP.pas (v:=(pP b4 1)) rfl (AB rfl) (AA rfl Tryz.underlying44 rfl Tryz.sizeOf3 rfl) rfl rfl (AP.pas (v:=(vN s.2.1)) rfl (AB rfl) (AK (i:=2) (v:=(vN s.2.1)) rfl rfl B_.a rfl) rfl rfl (AP.pas (v:=(pP (pB ra.m.a.p) (pO ra.m.a.p+s.2.1*10))) rfl (AB rfl) (AQ (j:=s.2.1) rfl rfl ra.m.a.ok Tryz.underlying27 Tryz.sizeOf55 rfl (by omega)) rfl rfl (AP.pas (v:=(aG (An (PA.getD s.2.1 (⟨0,0⟩:Pt))))) rfl (AB rfl) (AZ (vs:=An (PA.getD s.2.1 (⟨0,0⟩:Pt))) (i:=8) rfl rfl (BL.ne ra.m.a.ok (by omega)) BM (A7 BP _ _ _ (by omega)) (BP _)) rfl rfl (AP.imp rfl (AD.call (v:=(Value.bool (decide (onS u v (PA.getD s.2.1 (⟨0,0⟩:Pt)))))) (AB rfl) (A8 (args:=[(aG (An u)),(aG (An v)),(aG (An (PA.getD s.2.1 (⟨0,0⟩:Pt))))]) rfl rfl Tryz.call17) (λw hw=>G1 u v (PA.getD s.2.1 (⟨0,0⟩:Pt)) (by omega) (by omega) (Nat.le_trans (hzA _) (by decide)) w) rfl (Af rfl) ?_)))))
      refine AD.retell (k:=169) (u:=(Value.bool false)) rfl (by rw [decide_eq_false k2]) (AP.back sr (Au (v:=(Value.bool false)) rfl (Ae rfl rfl) (Bl rfl (AP.skp rfl (AM rfl) rfl rfl (AP.skp rfl (AM rfl) rfl rfl ?_)))))
      refine AP.skp rfl (AM rfl) rfl rfl (AP.skp rfl (AM rfl) rfl rfl (AP.skp rfl (AM rfl) rfl rfl (AP.skp rfl (AM rfl) rfl rfl (AP.skp rfl (AM rfl) rfl rfl (AP.skp rfl (AM rfl) rfl rfl ?_)))))
      refine AP.skp rfl (AM rfl) rfl rfl (Au (v:=(Value.bool false)) rfl (Aa rfl rfl) (AP.nil (AC.subF (sL [3,4,13,14,16,15,17,18,181] rfl) (AC.then_ (AE.cond_false rfl ?_)))))
      refine AE.skip (AC.in_normal (AC.then_ (AE.region (AO rfl (AH (AT (c:=((k+1:Nat):Int)) rfl rfl (AR (a:=k) (b:=1) (by omega))) rfl ?_)))))
      refine AL rfl (AD.nil (AC.subF (sL [3,4,13,14,16,15,17,18] rfl) ?_))
      rw [OP hon]
      exact AC.round1 (k+1) (by omega) (by omega) (sF rfl) (sl (sl sr))
    ·skip
     have hon:¬(K4 g.ps PA (g.ss.getD k (0,0,0)) s&&decide (s.2.2=(g.ss.getD k (0,0,0)).2.2))=true:=by unfold K4;rw [<-hu,<-hv,decide_eq_false k1,Bool.false_and,Bool.false_and];exact Bool.false_ne_true
     refine C7 [(0,true),(1,true),(2,true),(3,true),(4,true),(5,true),(6,true),(7,true),(8,false),(9,true),(10,true),(11,true),(12,true),(13,true),(14,true),(15,true),(16,true),(17,true),(18,false),(19,true),(20,true),(21,true),(22,true),(23,true),(24,true),(25,true),(26,true),(27,true),(28,true),(29,true),(30,true)] sr (Db 1 BM rfl (Db 0 BM rfl (Au (v:=(pP b3 0)) rfl (AA rfl Tryz.underlying31 rfl Tryz.sizeOf27 rfl) (Bk 7 (Value.slice ra.m.a.p PA.length ra.m.a.c) Dr rfl (Au (v:=(pP b4 0)) rfl (AA rfl Tryz.underlying44 rfl Tryz.sizeOf3 rfl) ?_)))))
     refine Bk 2 (vN s.1) B_ rfl (Au (v:=(pP (pB ra.m.a.p) (pO ra.m.a.p+s.1*10))) rfl (AQ (j:=s.1) rfl rfl ra.m.a.ok Tryz.underlying27 Tryz.sizeOf55 rfl (by omega)) (Au (v:=(aG (An (PA.getD s.1 (⟨0,0⟩:Pt))))) rfl (AZ (vs:=An (PA.getD s.1 (⟨0,0⟩:Pt))) (i:=8) rfl rfl (BL.ne ra.m.a.ok (by omega)) BM (A7 BP _ _ _ (by omega)) (BP _)) (AP.imp rfl (BY Tryz.call17 (G1 u v (PA.getD s.1 (⟨0,0⟩:Pt)) (by omega) (by omega) (Nat.le_trans (hzA _) (by decide))) rfl (AD.retell (k:=159) (u:=(Value.bool false)) rfl (by rw [decide_eq_false k1]) ?_)))))
     refine AP.back sr (Bl rfl (AP.skp rfl (AM rfl) rfl rfl (AP.skp rfl (AM rfl) rfl rfl (AP.skp rfl (AM rfl) rfl rfl (AP.skp rfl (AM rfl) rfl rfl ?_)))))
     refine AP.skp rfl (AM rfl) rfl rfl (AP.skp rfl (AM rfl) rfl rfl (AP.skp rfl (AM rfl) rfl rfl (AP.skp rfl (AM rfl) rfl rfl (AP.imp rfl (AD.skip (AM rfl) rfl (Af rfl) ?_)))))
     refine AP.back sr (Au (v:=(Value.bool false)) rfl (Aa rfl rfl) (Bl rfl (AP.skp rfl (AM rfl) rfl rfl (AP.skp rfl (AM rfl) rfl rfl (AP.skp rfl (AM rfl) rfl rfl ?_)))))
     refine AP.skp rfl (AM rfl) rfl rfl (AP.skp rfl (AM rfl) rfl rfl (AP.skp rfl (AM rfl) rfl rfl (AP.skp rfl (AM rfl) rfl rfl (AP.skp rfl (AM rfl) rfl rfl (AP.skp rfl (AM rfl) rfl rfl ?_)))))
     refine Au (v:=(Value.bool false)) rfl (Aa rfl rfl) (AP.nil (AC.subF (sL [3,4,13,14,16,15,17,18,181] rfl) (AC.then_ (AE.cond_false rfl (AE.skip ?_)))))
     refine AC.in_normal (AC.then_ (AE.region (AO rfl (AH (AT (c:=((k+1:Nat):Int)) rfl rfl (AR (a:=k) (b:=1) (by omega))) rfl (AL rfl ?_)))))
     refine AD.nil (AC.subF (sL [3,4,13,14,16,15,17,18] rfl) ?_)
     rw [OP hon]
     exact AC.round1 (k+1) (by omega) (by omega) (sF rfl) (sl (sl sr))
   ·replace hc4:=of_decide_eq_false hc4
    have hf1:G2 g.ps PA g.ss s k=1:=by rw [show k=g.ss.length by omega];exact hfd s hsm
    refine AE.exit (AC.then_exit (AC.round1_exit (AC.in_exit (q2 (AO rfl ?_)))))
    refine AH (CX (c:=false) rfl rfl (decide_eq_false (by omega))) rfl (AD.nil (AC.subF (sL [3,4,13,14,16,15,185] rfl) (AC.then_ (AE.cond_false rfl (AE.skip ?_)))))
    refine AC.in_normal (AC.then_ (AE.region (AO rfl (AH (AT (c:=((i+1:Nat):Int)) rfl rfl (AR (a:=i) (b:=1) (by omega))) rfl (AL rfl ?_)))))
    exact AD.nil (AC.subF (sL [3,4,13,14,16,15] rfl) (AC.round1 (i+1) (by omega) (by omega) (sF rfl) (sl sr)))
  ·replace hc3:=of_decide_eq_false hc3
   refine AE.exit (AC.then_exit (AC.round1_exit (AC.in_exit (q2 (BY Tryz.call18 (O9) rfl ?_)))))
   exact AL rfl (AD.nil (AC.subF (sL [3,4,13,2] rfl) (AC.then_ (AE.ret (AU rfl (Am (v:=(Value.bool true)) rfl) (λw hw=>⟨rfl,hw.out⟩))))))
end
section
open Go Go.RowKit Go.ChangeShapes Go.WideShapes Go.ChangeAt
theorem Vw:laidOutB Tryz.prog=true:=by kernel_rfl
theorem SC:ownKnob Tryz.prog.godebug=none:=by kernel_rfl
theorem Gx {H:Type} {enc:TypeId×Value->H} {P:Program} (hl:laidOutB P=true) {W W':World} {sp:Nat->Bool} (hb:Em W.heap.size W W') :
    ∀{ts:List TypeId} {vs:List Value} {ds:List (DataW H)} {ps:List MemPlace},(∀t∈ts,P.readableRec t=true/\t<P.types.size)->DataW.TrodAll enc P W 0 (λ_=>true) true ts vs ds ps ->
      (∀p∈ps,p.block<W.heap.size)->(∀p∈ps,sp p.block=true)->DataW.TrodAll enc P W' 0 sp true ts vs ds ps
  | [],_,_,_,_,h,_,_=>by
    obtain ⟨rfl,rfl,rfl⟩:=trodAll_nil h
    exact trodAll_mk0
  | t::ts,_,_,_,hr,h,hlt,hs=>by
    obtain ⟨v,vs1,d,ds1,a,b,rfl,rfl,rfl,h1,h2⟩:=trodAll_cons h
    exact ⟨a,b,WideElems.Trod_stays hl (hr t (by simp)).1 (hr t (by simp)).2 h1 (λx hx=>hb.same (hlt x (by simp [hx]))) (λx hx=>hs x (by simp [hx])),
      Gx hl hb (λu hu=>hr u (by simp [hu])) h2 (λp hp=>hlt p (by simp [hp])) (λp hp=>hs p (by simp [hp])),rfl⟩
theorem To {H:Type} {enc:TypeId×Value->H} {P:Program} {f:Func} {s:ChangeSpec} {apart fresh handsOn again:Bool} {W W':World} {args:Array Value} {ds:List (DataW H)} {CH:List MemPlace} {tb:TypeId}
    (hW:DataW.Whole enc P f.params.toList s.vars apart W args.toList ds [] CH) (hv:s.vars=[]) (hfn:s.fn H ds=({ results:=[.lit (.bool true)],args:=ds }:Left H))
    (hrt:f.resultTypes=#[tb]) (hu:P.underlying tb=some .bool) (hb:Em W.heap.size W W') (hl:laidOutB P=true) (hr:∀t∈f.params.toList,P.readableRec t=true/\t<P.types.size) :
    s.post enc P f apart fresh handsOn again W args (.bool true) W':=by
  have hlt:∀p∈CH,p.block<W.heap.size:=λp hp=>hW.lt p hp
  have hW2:=hW
  obtain ⟨pa,q,hA,hV,he,hz,hn⟩:=hW2
  rw [hv] at hV
  obtain ⟨_,rfl⟩:=trodVars_none hV
  simp only [List.append_nil] at he
  subst he
  have hres:∀(b:Nat) (sp:Nat->Bool) (hd:Bool),DataW.TrodAll enc P W' b sp hd f.resultTypes.toList ((Value.bool true).resultList f.resultTypes.size) (s.fn H (ds++[])).results []:=λb sp hd=>by
    rw [hrt,List.append_nil,hfn]
    exact trodAll_mk1 (shut_bool hu _)
  have hargs:∀sp:Nat->Bool,(∀p∈CH,sp p.block=true)->DataW.TrodAll enc P W' 0 sp true f.params.toList args.toList (s.fn H (ds++[])).args CH:=λsp hs=>by
    rw [List.append_nil,hfn]
    exact Gx hl hb hr hA hlt hs
  have hvars:∀sp:Nat->Bool,DataW.TrodVars enc P W' sp s.vars (s.fn H (ds++[])).vars []:=λsp=>by
    rw [List.append_nil,hfn,hv];rfl
  have hold:∀p∈CH,(λb=>decide (b<W.heap.size)) p.block=true:=λp hp=>by simpa using hlt p hp
  refine ⟨ds,[],CH,[],CH,[],hW,hres _ _ _,hargs _ hold,hvars _,World.keptBut_mono (λp hp=>⟨hp,Or.inr (by simpa using hp)⟩) (hb.frame (·∈CH)),λ_=>⟨?_,_,_,([]++CH)++[],⟨[]++CH,[],trodAll_append (hargs _ (λ_ _=>rfl)) (hres _ _ _),hvars _,rfl,?_,?_⟩,?_⟩⟩
  · exact ok_one hrt rfl (okWide_bool_mk hu _)
  · intro b off hp
    have hp':MemPlace.cell b off∈CH:=by simpa using hp
    rw [hb.frozen (hlt _ hp')]
    exact hz b off hp'
  · intro ha
    have:=hn ha
    simpa using this
  · intro p hp _
    simpa using hp
end
end Go.Proofs.YtfbomiejpbchdaaGreat
