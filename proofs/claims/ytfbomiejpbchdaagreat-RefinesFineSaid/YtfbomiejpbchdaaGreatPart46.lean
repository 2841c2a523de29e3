import Derived.ProofKit
import Derived.LaidMore
import Derived.Carry
import Derived.Stop.Joined
import Derived.SevenTiedAt
import Derived.Test.YtfbomiejpbchdaaGreatPart06
import Derived.Test.YtfbomiejpbchdaaGreatPart14
import Derived.Test.YtfbomiejpbchdaaGreatPart19
import Derived.Test.YtfbomiejpbchdaaGreatPart22
import Derived.Test.YtfbomiejpbchdaaGreatPart27
import Derived.Test.YtfbomiejpbchdaaGreatPart28
import Derived.Test.YtfbomiejpbchdaaGreatPart38
import Derived.Test.YtfbomiejpbchdaaGreatPart41
import Derived.Test.YtfbomiejpbchdaaGreatPart45
namespace Go.Proofs.YtfbomiejpbchdaaGreat
open Go Go.RowKit
set_option linter.unusedVariables false
set_option linter.unusedSimpArgs false
section
set_option maxRecDepth 100000
theorem OK {ps:List Pt} {ts ss:List T3} (x:MX ps ts ss) (hl:ts.length<=8192) (hz:∀k,Bo (cor ps k)<=1000) (hnb:B5 ps.length ts=true) (w:World) {S:Nat->Prop} (hx:Ro S w x):Calls Tryz.prog 20 #[(aG (CG x))] w (Am w (aG (AD (FR ps ts ts.length)))):=by
 have lx:=FS (W:=w) hx
 refine BH (args:=[(aG (CG x))]) (L:=[Ag x.a.p (rowsL Ae ps),Ag x.b.p (rowsL Al ts),Ag x.c.p (rowsL Al ss)]) Tryz.func20 rfl rfl (Ad rfl) (FP hx BY) (AG.subF (sL [0] rfl) (q4 (Bl (cs:=CG x) rfl λb1=>al Dk rfl λb2=>q3 (sL [1,2] rfl) ?_)))
 refine al Dk rfl λb3=>AF.nil (q1 (q4 (A7 2 DU rfl (Ey (args:=[(aG (CG x))]) (v:=(Value.bool true)) Tryz.call46 (λw hw=>(by have h9:=M8 x (by omega) w (Dn hw 3 rfl lx);rw [hnb] at h9;exact h9)) rfl ?_))))
 refine AJ (Bi (c:=false) rfl rfl) rfl (AF.nil (AC.subF (sL [1,2,3,7] rfl) (AC.then_ (AG.cond_false rfl (AG.skip ?_)))))
 refine q1 (q4 (AJ (v:=(pP b1 1)) (AA rfl Tryz.underlying31 rfl Tryz.sizeOf28 rfl) rfl (BL 2 (Value.slice x.b.p ts.length x.b.c) Dc rfl (AJ (v:=(vN ts.length)) (AI rfl Tryz.underlying28) rfl (AO rfl ?_)))))
 refine AF.nil (AC.subF (sL [1,2,3,11,12] rfl) (AC.then_ (AG.block ?_)))
 refine AG.lp1 (tg λ(i:Nat)=>i<=ts.length) (tg λ(i:Nat)=>[(1,(pP b1 0)),(2,(pP b2 0)),(3,(pP b3 0)),(11,(vN ts.length)),(12,(vN i))]) (tg λ(i:Nat)=>[Ah b3 53 (AD (FR ps ts i)),Ah b2 53 (AD (0:Rat)),Ah b1 31 (CG x),Ag x.a.p (rowsL Ae ps),Ag x.b.p (rowsL Al ts),Ag x.c.p (rowsL Al ss)]) (tg λ(i:Nat)=>ts.length-i) 0 (Nat.zero_le _) (sF rfl) sr (λi hJ=>?_)
 have hi:=hJ
 refine q4 (AJ (Af (c:=(decide (i<ts.length))) rfl rfl (DL (a:=i) (b:=ts.length))) rfl (AF.nil (q1 ?_)))
 refine AG.cond rfl (λhc1=>?_) (λhc1=>?_)
 ·replace hc1:=of_decide_eq_true hc1
  have hi2:=hc1
  have ha:=Qk hz ts i
  have hb:=QU hz (ts.getD i (0,0,0))
  have z0:=hz (ts.getD i (0,0,0)).1
  have z1:=hz (ts.getD i (0,0,0)).2.1
  have z2:=hz (ts.getD i (0,0,0)).2.2
  refine AG.skip (q1 (AG.block (q4 (AO rfl (AK rfl ?_)))))
  refine AF.nil (AC.subF (sL [1,2,3,11,12,4] rfl) (AC.then_ (rC [(0,true),(1,true),(2,true),(3,false),(4,true),(5,true),(6,true),(7,false),(8,false)] 9 [] sr (sl sr) (by kernel_rfl) (λ_ _ d _ _ h=>by cases d<;>exact h) (vE (v:=(aG (AD (FR ps ts i)))) rfl (Aa (i:=0) (vs:=AD (FR ps ts i)) rfl rfl BO.a BO.s rfl rfl) rfl (vE (v:=(aG (CG x))) rfl (Aa (i:=2) (vs:=CG x) rfl rfl DU.a DU.s rfl rfl) rfl ?_)))))
  refine vM rfl rfl rfl (Cc.imp rfl (Ey Tryz.call21 (λw hw=>HS x i hi2 (Cv hnb hi2) w (Dn hw 3 rfl lx)) rfl (Cc.back sr (vE rfl (AT (v:=(aG (Ae (cor ps (ts.getD i (0,0,0)).1)))) rfl rfl) rfl (vE rfl (AT (v:=(aG (Ae (cor ps (ts.getD i (0,0,0)).2.1)))) rfl rfl) rfl ?_)))))
  refine vE rfl (AT (v:=(aG (Ae (cor ps (ts.getD i (0,0,0)).2.2)))) rfl rfl) rfl (Cc.imp rfl ?_)
  have hz1:=C_ (cor ps (ts.getD i (0,0,0)).1) (cor ps (ts.getD i (0,0,0)).2.1) (cor ps (ts.getD i (0,0,0)).2.2)
  have hz2:=Cl (AQ (cor ps (ts.getD i (0,0,0)).1) (cor ps (ts.getD i (0,0,0)).2.1) (cor ps (ts.getD i (0,0,0)).2.2)) (1/2)
  refine BU Tryz.call26 (Ms (cor ps (ts.getD i (0,0,0)).1) (cor ps (ts.getD i (0,0,0)).2.1) (cor ps (ts.getD i (0,0,0)).2.2) (by omega)) rfl (Cc.back sr (Cc.imp rfl (BU Tryz.call29 (H8 (FR ps ts i) (Jx ps (ts.getD i (0,0,0))) (by omega)) rfl (Cc.back sr (Cc.cut rfl ?_)))))
  refine Ap rfl Tryz.sizeOf53 rfl (AS.back (sl sr) (AS.nil (AC.subF (sL [1,2,3,11,12] rfl) (AC.in_normal (AC.then_ ?_)))))
  exact AG.region (AJ (AX (c:=((i+1:Nat):Int)) rfl rfl (Ab (a:=i) (b:=1) (by omega))) rfl (AO rfl (AF.nil (AC.subF (sL [1,2,3,11,12] rfl) (AC.round1 (i+1) (by omega) (by omega) (sF rfl) sr)))))
 ·replace hc1:=of_decide_eq_false hc1
  have hie:i=ts.length:=by omega
  refine AG.exit (AC.then_exit (AC.round1_exit (AC.in_exit (q2 (A7 0 BO rfl ?_)))))
  exact Cr rfl Tryz.sizeOf53 rfl (AF.nil (AC.subF (sL [1,2,3,11,12] rfl) (AC.then_ (AG.ret (AR rfl (Ay (i:=1) (cs:=AD (FR ps ts i)) rfl rfl Tryz.isAgg53 Tryz.sizeOf53 rfl) (λw hw=>⟨by rw [hie],hw.out⟩))))))
end
section
set_option maxRecDepth 100000
theorem MP (a b c:Pt) (hs:Bo a+Bo b+Bo c<=1048576) (h:AQ a b c≠0) (w:World):Calls Tryz.prog 23 #[aG (Ae a),aG (Ae b),aG (Ae c)] w (Am w (Value.tuple #[(aG (AD ((Aw a b c).1/(Aw a b c).2.2)++AD ((Aw a b c).2.1/(Aw a b c).2.2))),(vI 0)])) :=
 TY a b c hs h (show (Aw a b c).2.2≠0 from by have h1:=Q6 h;grind) w
set_option maxHeartbeats 1000000 in
theorem K8 (m:MQ) (w:World) {S:Nat->Prop} (hm:Ro S w m):Calls Tryz.prog 4 #[(aG (Eu m))] w (Am w (Value.bool true)):=by
 have lm:=FS (W:=w) hm
 refine BH (args:=[(aG (Eu m))]) (L:=[Ag m.p (C8 m.cs)]) Tryz.func4 rfl rfl (Ad rfl) (FP hm BY) (AG.subF (sL [0] rfl) (q4 (Bl (cs:=Eu m) rfl λb1=>AK rfl (q3 (sL [1,2] rfl) ?_))))
 refine A7 0 NG rfl (AF.callR (S:=S) (α:=MG) (args:=[(aG (Eu m))]) Tryz.call11 (λw hw=>SS m w (Dn hw 1 rfl lm)) rfl rfl rfl λg lg=>?_)
 have hG:=g.good
 have hnb:B5 g.ps.length g.ts=true:=Re hG
 have htl:=hG.tl
 have hpl:=hG.pl
 have hz6:∀i,Bo (cor g.ps i)<=1000000:=λi=>Nat.le_trans (hG.sz i) (by decide)
 have hz:∀i,Bo (cor g.ps i)<=1000:=λi=>Nat.le_trans (hG.sz i) (by decide)
 have htg:g.ts.length<=8192:=by omega
 have hsl:=g.sl
 have hel0:(BT g.ts).length<=3*g.ts.length:=O2 g.ts
 obtain ⟨PA,hPA⟩:∃q,q=FF g.ps (BT g.ts):=⟨_,rfl⟩
 obtain ⟨TA,hTA⟩:∃q,q=EP g.ps.length (BT g.ts) g.ts:=⟨_,rfl⟩
 obtain ⟨SA,hSA⟩:∃q,q=Lb g.ps.length g.ss (BT g.ts) TA:=⟨_,rfl⟩
 have hck:Kk PA TA SA:=by rw [hSA,hTA,hPA];exact Vx hG hnb g.sd
 have hpa:PA.length=g.ps.length+(BT g.ts).length:=by rw [hPA,EW]
 have hta:TA.length=4*g.ts.length:=by rw [hTA,EK]
 have hnA:=hck.num
 have hzA:∀i,Bo (cor PA i)<=1000:=hck.sz
 have htA:TA.length<=8192:=by omega
 have hqn:(Dj g.ts.length).length=4*g.ts.length:=Fx
 have hsum:FR PA TA TA.length=FR g.ps g.ts g.ts.length:=by rw [hTA,hPA];exact TV hG hnb g.sd
 have hold:∀p,p<g.ps.length->PA.getD p ⟨0,0⟩=g.ps.getD p ⟨0,0⟩:=by rw [hPA];exact (Jb hG hnb g.sd).old
 have hall:∀t,t<4*g.ts.length->Yz (cor g.ps (g.ts.getD (t/4) (0,0,0)).1) (cor g.ps (g.ts.getD (t/4) (0,0,0)).2.1) (cor g.ps (g.ts.getD (t/4) (0,0,0)).2.2) (cor PA (TA.getD t (0,0,0)).1) (cor PA (TA.getD t (0,0,0)).2.1) (cor PA (TA.getD t (0,0,0)).2.2):=by rw [hTA,hPA];exact λt ht=>WJ hG hnb g.sd ht
 have redA:∀(x:MX g.ps g.ts g.ss) (w:World) {S:Nat->Prop} (hx:Ro S w x),Calls Tryz.prog 12 #[aG (CG x)] w (Bp (W4 PA TA SA (Dj g.ts.length) 0) S w):=λx w S hx=>by have h9:=Uk x hnb hz6 (by omega) (by omega) (by omega) ⟨by omega,by omega⟩ w hx;rw [<-hPA,<-hTA,<-hSA] at h9;exact h9
 refine al NS rfl λb2=>Ap rfl Tryz.sizeOf31 rfl (q3 (sL [2,3] rfl) (A7 0 DU rfl (Z3 (S:=S) (args:=[aG (CG g.mx)]) Tryz.call12 (λw hw=>redA g.mx w (Dn hw 1 rfl lg:Ro _ w g.mx)) rfl λra hmra hqra=>AO rfl ?_)))
 refine AJ (AT (v:=(aG (CG ra.m))) rfl rfl) rfl (AJ (AT (v:=(Value.slice ra.q.p ((Dj g.ts.length).length) ra.q.c)) rfl rfl) rfl (AJ (AT (v:=(vI 0)) rfl rfl) rfl (al NS rfl λb3=>Ap rfl Tryz.sizeOf31 rfl (AK rfl ?_))))
 refine AK rfl (q6 (sL [2,3,4,5,6] rfl) (AG.seq (Cq [(0,true),(1,true),(2,true),(3,true),(4,false),(5,true),(6,true),(7,true),(8,true),(10,true),(9,false),(11,false),(12,true),(13,true),(14,true),(15,true),(16,true),(17,true),(18,true),(19,true),(20,true),(21,true),(22,true),(23,true),(24,true),(25,true),(26,true),(27,true),(28,true),(29,true),(30,true)] sr (Bc rfl (Av rfl (B8 (c:=false) rfl rfl (decide_eq_false (by omega))) ?_)))))
 refine Bc rfl (AS.pas (v:=(aG (CG ra.m))) rfl (AB rfl) (Aa (i:=0) (vs:=CG ra.m) rfl rfl DU.a DU.s rfl rfl) rfl rfl (AS.imp rfl (AF.call (v:=(vI 0)) (AB rfl) (Aq (args:=[(aG (CG ra.m))]) rfl rfl Tryz.call19) (λw hw=>Uz ra.m hck w (Dn hw 1 rfl hmra)) rfl (Ad rfl) (AS.back sr (AS.pas (v:=(Value.bool false)) rfl (AB rfl) (B8 (c:=false) rfl rfl (decide_eq_false (by omega))) rfl rfl ?_)))))
 refine Av (v:=(Value.bool false)) rfl (AV rfl rfl) (Bc rfl (AS.pas (v:=(aG (CG ra.m))) rfl (AB rfl) (Aa (i:=0) (vs:=CG ra.m) rfl rfl DU.a DU.s rfl rfl) rfl rfl (AS.pas (v:=(aG (CG g.mx))) rfl (AB rfl) (Aa (i:=5) (vs:=CG g.mx) rfl rfl DU.a DU.s rfl rfl) rfl rfl (AS.imp rfl (AF.call (v:=(aG (AD (FR PA TA TA.length)))) (AB rfl) (Aq (args:=[(aG (CG ra.m))]) rfl rfl Tryz.call20) (λw hw=>OK ra.m htA hzA hnA w (Dn hw 1 rfl hmra)) rfl (Ad rfl) ?_)))))
 refine AS.back sr (AS.imp rfl (AF.call (v:=(aG (AD (FR g.ps g.ts g.ts.length)))) (AB rfl) (Aq (args:=[(aG (CG g.mx))]) rfl rfl Tryz.call20) (λw hw=>OK g.mx htg hz hnb w (Dn hw 6 rfl lg:Ro _ w g.mx)) rfl (Ad rfl) (AS.back sr (AS.pas (v:=(Value.bool false)) rfl (AB rfl) (Eo rfl rfl Tryz.eqGuardType53 (Kz 9995 hsum)) rfl rfl (Av (v:=(Value.bool false)) rfl (AV rfl rfl) ?_)))))
 refine Bc rfl (AS.pas (v:=(Value.slice ra.q.p ((Dj g.ts.length).length) ra.q.c)) rfl (AB rfl) (A9 rfl) rfl rfl (AS.pas (v:=(vN ((Dj g.ts.length).length))) rfl (AB rfl) (AI rfl Tryz.underlying33) rfl rfl (AS.pas (v:=(pP b3 1)) rfl (AB rfl) (AA rfl Tryz.underlying31 rfl Tryz.sizeOf28 rfl) rfl rfl (AS.pas (v:=(Value.slice ra.m.b.p TA.length ra.m.b.c)) rfl (AB rfl) (AM (i:=0) (v:=(Value.slice ra.m.b.p TA.length ra.m.b.c)) rfl rfl Dc.a rfl) rfl rfl (AS.pas (v:=(vN TA.length)) rfl (AB rfl) (AI rfl Tryz.underlying28) rfl rfl ?_)))))
 refine AS.pas (v:=(Value.bool false)) rfl (AB rfl) (B8 (c:=false) rfl rfl (decide_eq_false (by omega))) rfl rfl (Av (v:=(Value.bool false)) rfl (AV rfl rfl) (Bc rfl (AS.pas (v:=(pP b3 0)) rfl (AB rfl) (AA rfl Tryz.underlying31 rfl Tryz.sizeOf27 rfl) rfl rfl (AS.pas (v:=(Value.slice ra.m.a.p PA.length ra.m.a.c)) rfl (AB rfl) (AM (i:=0) (v:=(Value.slice ra.m.a.p PA.length ra.m.a.c)) rfl rfl C2.a rfl) rfl rfl (AS.pas (v:=(vN PA.length)) rfl (AB rfl) (AI rfl Tryz.underlying27) rfl rfl ?_)))))
 refine AS.pas (v:=(pP b2 0)) rfl (AB rfl) (AA rfl Tryz.underlying31 rfl Tryz.sizeOf27 rfl) rfl rfl (AS.pas (v:=(Value.slice g.mx.a.p g.ps.length g.mx.a.c)) rfl (AB rfl) (AM (i:=5) (v:=(Value.slice g.mx.a.p g.ps.length g.mx.a.c)) rfl rfl C2.a rfl) rfl rfl (AS.pas (v:=(vN g.ps.length)) rfl (AB rfl) (AI rfl Tryz.underlying27) rfl rfl (AS.pas (v:=(Value.bool false)) rfl (AB rfl) (Af (c:=false) rfl rfl (decide_eq_false (by omega))) rfl rfl (Av (v:=(Value.bool false)) rfl (AV rfl rfl) (AS.nil ?_)))))
 refine AC.subF (sL [2,3,4,5,57] rfl) (AC.then_ (AG.cond_false rfl (AG.skip (q1 (q4 ?_)))))
 refine AK rfl (AF.nil (AC.subF (sL [2,3,4,5,7] rfl) (AC.then_ (AG.block ?_))))
 refine AG.lp1 (tg λ(t:Nat)=>t<=(Dj g.ts.length).length) (tg λ(t:Nat)=>[(3,(pP b2 0)),(4,(pP b3 0)),(5,(Value.slice ra.q.p ((Dj g.ts.length).length) ra.q.c)),(7,(vN t))]) (tg λ(t:Nat)=>[Ah b3 31 (CG ra.m),Ag ra.m.a.p (rowsL Ae PA),Ag ra.m.b.p (rowsL Al TA),Ag ra.m.c.p (rowsL Al SA),Ag ra.q.p (inL (Dj g.ts.length)),Ah b2 31 (CG g.mx),Ag g.mx.a.p (rowsL Ae g.ps),Ag g.mx.b.p (rowsL Al g.ts),Ag g.mx.c.p (rowsL Al g.ss),Ah b1 26 (Eu m),Ag m.p (C8 m.cs)]) (tg λ(t:Nat)=>(Dj g.ts.length).length-t) 0 (Nat.zero_le _) (sF rfl) sr (λt hJ=>?_)
 have htl:=hJ
 refine AG.seq (q4 (AO rfl (AO rfl (AJ (v:=(vN ((Dj g.ts.length).length))) (AI rfl Tryz.underlying33) rfl (AJ (Af (c:=(decide (t<((Dj g.ts.length).length)))) rfl rfl (DL (a:=t) (b:=(Dj g.ts.length).length))) rfl ?_)))))
 refine AF.nil (AC.subF (sL [3,4,5,7,61] rfl) (AC.then_ ?_))
 refine AG.cond rfl (λhc1=>?_) (λhc1=>?_)
 ·replace hc1:=of_decide_eq_true hc1
  have ht4:t<4*g.ts.length:=by omega
  have hR:=hall t ht4
  have hpar:=Th ht4
  obtain ⟨a,ha⟩:∃q,q=cor g.ps (g.ts.getD (t/4) (0,0,0)).1:=⟨_,rfl⟩
  obtain ⟨b,hb⟩:∃q,q=cor g.ps (g.ts.getD (t/4) (0,0,0)).2.1:=⟨_,rfl⟩
  obtain ⟨d,hd⟩:∃q,q=cor g.ps (g.ts.getD (t/4) (0,0,0)).2.2:=⟨_,rfl⟩
  obtain ⟨p0,hp0⟩:∃q,q=cor PA (TA.getD t (0,0,0)).1:=⟨_,rfl⟩
  obtain ⟨p1,hp1⟩:∃q,q=cor PA (TA.getD t (0,0,0)).2.1:=⟨_,rfl⟩
  obtain ⟨p2,hp2⟩:∃q,q=cor PA (TA.getD t (0,0,0)).2.2:=⟨_,rfl⟩
  have sa:Bo a<=1000:=by rw [ha];exact hz _
  have sb:Bo b<=1000:=by rw [hb];exact hz _
  have sd:Bo d<=1000:=by rw [hd];exact hz _
  have sp0:Bo p0<=1000:=by rw [hp0];exact hzA _
  have sp1:Bo p1<=1000:=by rw [hp1];exact hzA _
  have sp2:Bo p2<=1000:=by rw [hp2];exact hzA _
  rw [<-ha,<-hb,<-hd,<-hp0,<-hp1,<-hp2] at hR
  have r0:=hR.w0
  have r1:=hR.w1
  have r2:=hR.w2
  have hsh:=Jc
  have hs4:=KH (z:=4) (by decide) (by decide)
  refine AG.skip (q1 (AG.block (AG.seq (q4 (AO rfl ?_)))))
  refine AO rfl (AJ (v:=(pP (pB ra.q.p) (pO ra.q.p+t*1))) (AW (j:=t) rfl rfl ra.q.ok Tryz.underlying33 Tryz.sizeOf3 rfl (by omega)) rfl (AJ (BK (v:=(vN ((Dj g.ts.length).getD t 0))) (i:=4) rfl rfl (ra.q.ok.ne (by omega)) B4 (P7 (l:=Dj g.ts.length) (j:=t) (by omega))) rfl (AF.retell (k:=67) (u:=(vN (t/4))) rfl (by rw [hpar]) (AO rfl (AJ (GH (c:=((t/4:Nat):Int)) rfl rfl (by omega) (KB (a:=t) (b:=4) (by omega))) rfl ?_)))))
  refine AJ (B8 (c:=false) rfl rfl (decide_eq_false (by omega))) rfl (AF.nil (AC.subF (sL [3,4,5,7,70] rfl) (AC.then_ (AG.cond_false rfl (AG.skip ?_)))))
  refine q1 (rN [(0,true),(1,true),(2,true),(3,true),(4,true),(5,false),(6,true),(7,true),(8,true),(9,true)] [⟨10,8,55,Ae (⟨0,0⟩:Pt)⟩,⟨11,9,55,Ae (⟨0,0⟩:Pt)⟩,⟨12,10,55,Ae (⟨0,0⟩:Pt)⟩] [(13,false),(14,false),(15,false)] sr (by kernel_rfl) (λ_ _ d _ _ h=>by cases d<;>exact h) (Fs rfl rfl EM rfl (Fs rfl rfl EM rfl (Fs rfl rfl EM rfl (H2)))) rfl (Gp 5 DU rfl (Nd rfl (Nd rfl (Gb (v:=(pP (pB ra.q.p) (pO ra.q.p+t*1))) rfl (AW (j:=t) rfl rfl ra.q.ok Tryz.underlying33 Tryz.sizeOf3 rfl (by omega)) rfl ?_)))))
  refine Gb rfl (BK (v:=(vN ((Dj g.ts.length).getD t 0))) (i:=4) rfl rfl (ra.q.ok.ne (by omega)) B4 (P7 (l:=Dj g.ts.length) (j:=t) (by omega))) rfl (CH.imp rfl λEF EL=>Ey (args:=[(aG (CG g.mx)),(vN ((Dj g.ts.length).getD t 0))]) (v:=(Value.tuple #[(aG (Ae a)),(aG (Ae b)),(aG (Ae d))])) Tryz.call21 (λw hw=>(by rw [hpar,ha,hb,hd];exact HS g.mx (t/4) (by omega) (Cv hnb (by omega)) w (Dn hw 6 rfl lg:Ro _ w g.mx))) rfl (CH.back0 sr rfl (Nd rfl (Gb rfl (AT (v:=(aG (Ae a))) rfl rfl) rfl ?_))))
  refine Gb rfl (AT (v:=(aG (Ae b))) rfl rfl) rfl (Gb rfl (AT (v:=(aG (Ae d))) rfl rfl) rfl (CH.news3 λb4 b5 b6=>AS.imp rfl (Ap rfl Tryz.sizeOf55 rfl (AS.back (sl (sl (sl sr))) ?_))))
  refine AS.imp rfl (Cr rfl Tryz.sizeOf55 rfl (AS.back (sl (sl (sl sr))) (AS.imp rfl (L4 rfl Tryz.sizeOf55 rfl (AS.back (sl (sl (sl sr))) ?_)))))
  refine AS.nil (AC.subF (sL [3,4,5,7,10,9,8] rfl) (q2 (A7 3 DU rfl (AO rfl (Ey (args:=[(aG (CG ra.m)),(vN t)]) (v:=(Value.tuple #[(aG (Ae p0)),(aG (Ae p1)),(aG (Ae p2))])) Tryz.call21 (λw hw=>(by rw [hp0,hp1,hp2];exact HS ra.m t (by omega) (Cv hnA (by omega)) w (Dn hw 4 rfl hmra))) rfl ?_)))))
  refine AO rfl (AJ (AT (v:=(aG (Ae p0))) rfl rfl) rfl (AJ (AT (v:=(aG (Ae p1))) rfl rfl) rfl (AJ (AT (v:=(aG (Ae p2))) rfl rfl) rfl (al EM rfl λb7=>al EM rfl λb8=>?_))))
  refine al EM rfl λb9=>L4 rfl Tryz.sizeOf55 rfl (Cr rfl Tryz.sizeOf55 rfl (Ap rfl Tryz.sizeOf55 rfl (q6 (sL [3,4,5,7,10,9,8,11,12,13] rfl) (q4 ?_))))
  refine A7 3 BC rfl (A7 4 BC rfl (A7 5 BC rfl (A7 2 BC rfl (BU Tryz.call22 (NI a b d p0 (by omega)) rfl (AJ (Be (c:=false) rfl rfl (decide_eq_false (by omega))) rfl ?_)))))
  refine AO rfl (AF.step (v:=(aG (Ae a))) (AB rfl) (Aa (i:=3) (vs:=Ae a) rfl rfl BC.a BC.s rfl rfl) rfl (Ad rfl) (AF.step (v:=(aG (Ae b))) (AB rfl) (Aa (i:=4) (vs:=Ae b) rfl rfl BC.a BC.s rfl rfl) rfl (Ad rfl) (AF.step (v:=(aG (Ae d))) (AB rfl) (Aa (i:=5) (vs:=Ae d) rfl rfl BC.a BC.s rfl rfl) rfl (Ad rfl) (AF.step (v:=(aG (Ae p1))) (AB rfl) (Aa (i:=1) (vs:=Ae p1) rfl rfl BC.a BC.s rfl rfl) rfl (Ad rfl) (AF.call (v:=(vN (GA a b d p1))) (AB rfl) (Aq (args:=[(aG (Ae a)),(aG (Ae b)),(aG (Ae d)),(aG (Ae p1))]) rfl rfl Tryz.call22) (λw hw=>NI a b d p1 (by omega) w) rfl (Ad rfl) ?_)))))
  refine AF.step (v:=(Value.bool false)) (AB rfl) (Be (c:=false) rfl rfl (decide_eq_false (by omega))) rfl (Ad rfl) (AJ (v:=(Value.bool false)) (AV rfl rfl) rfl (AO rfl (AF.step (v:=(aG (Ae a))) (AB rfl) (Aa (i:=3) (vs:=Ae a) rfl rfl BC.a BC.s rfl rfl) rfl (Ad rfl) (AF.step (v:=(aG (Ae b))) (AB rfl) (Aa (i:=4) (vs:=Ae b) rfl rfl BC.a BC.s rfl rfl) rfl (Ad rfl) (AF.step (v:=(aG (Ae d))) (AB rfl) (Aa (i:=5) (vs:=Ae d) rfl rfl BC.a BC.s rfl rfl) rfl (Ad rfl) ?_)))))
  refine AF.step (v:=(aG (Ae p2))) (AB rfl) (Aa (i:=0) (vs:=Ae p2) rfl rfl BC.a BC.s rfl rfl) rfl (Ad rfl) (AF.call (v:=(vN (GA a b d p2))) (AB rfl) (Aq (args:=[(aG (Ae a)),(aG (Ae b)),(aG (Ae d)),(aG (Ae p2))]) rfl rfl Tryz.call22) (λw hw=>NI a b d p2 (by omega) w) rfl (Ad rfl) (AF.step (v:=(Value.bool false)) (AB rfl) (Be (c:=false) rfl rfl (decide_eq_false (by omega))) rfl (Ad rfl) (AJ (v:=(Value.bool false)) (AV rfl rfl) rfl (AF.nil (AC.subF (sL [3,4,5,7,10,9,8,11,12,13,109] rfl) ?_)))))
  refine AC.then_ (AG.cond_false rfl (AG.skip (q2 (A7 3 BC rfl (A7 4 BC rfl ?_)))))
  refine A7 5 BC rfl (BU Tryz.call23 (MP a b d (by omega) hR.t0) rfl (AO rfl (AJ (AT (v:=(aG (AD ((Aw a b d).1/(Aw a b d).2.2)++AD ((Aw a b d).2.1/(Aw a b d).2.2)))) rfl rfl) rfl (AJ (AT (v:=(vI 0)) rfl rfl) rfl (al Vl rfl λb10=>?_)))))
  refine Ap rfl Tryz.sizeOf64 rfl (AK rfl (q3 (sL [3,4,5,7,10,9,8,11,12,13,14,15] rfl) (A7 3 BC rfl (A7 2 BC rfl (A7 1 BC rfl ?_)))))
  refine Ey (args:=[(aG (Ae p0)),(aG (Ae p1)),(aG (Ae p2))]) (v:=(Value.tuple #[(aG (AD ((Aw a b d).1/(Aw a b d).2.2)++AD ((Aw a b d).2.1/(Aw a b d).2.2))),(vI 0)])) Tryz.call23 (λw hw=>(by have h9:=MP p0 p1 p2 (by omega) hR.t1 w;rw [hR.s1,hR.s2] at h9;exact h9)) rfl (AO rfl (AJ (AT (v:=(aG (AD ((Aw a b d).1/(Aw a b d).2.2)++AD ((Aw a b d).2.1/(Aw a b d).2.2)))) rfl rfl) rfl (AJ (AT (v:=(vI 0)) rfl rfl) rfl (al Vl rfl λb11=>Ap rfl Tryz.sizeOf64 rfl ?_))))
  refine AK rfl (q6 (sL [3,4,5,7,10,9,8,11,12,13,14,15,16,17] rfl) (Cq [(0,true),(1,true),(2,true),(3,true),(4,true),(5,true),(6,true),(7,true),(8,true),(9,true),(10,true),(11,true),(13,true),(14,true),(15,true),(18,true),(19,true),(20,true),(12,false),(16,false),(17,false),(21,false),(22,true),(23,true)] sr (Bc rfl (Av rfl (B8 (c:=false) rfl rfl (decide_eq_false (by omega))) (Bc rfl ?_)))))
  refine AS.pas (v:=(vI 0)) rfl (AB rfl) (A9 rfl) rfl rfl (AS.pas (v:=(Value.bool false)) rfl (AB rfl) (B8 (c:=false) rfl rfl (decide_eq_false (by omega))) rfl rfl (Av (v:=(Value.bool false)) rfl (AV rfl rfl) (Bc rfl (AS.pas (v:=(aG (AD ((Aw a b d).1/(Aw a b d).2.2)++AD ((Aw a b d).2.1/(Aw a b d).2.2)))) rfl (AB rfl) (Aa (i:=1) (vs:=AD ((Aw a b d).1/(Aw a b d).2.2)++AD ((Aw a b d).2.1/(Aw a b d).2.2)) rfl rfl UO.a UO.s rfl rfl) rfl rfl (AS.pas (v:=(aG (AD ((Aw a b d).1/(Aw a b d).2.2)++AD ((Aw a b d).2.1/(Aw a b d).2.2)))) rfl (AB rfl) (Aa (i:=0) (vs:=AD ((Aw a b d).1/(Aw a b d).2.2)++AD ((Aw a b d).2.1/(Aw a b d).2.2)) rfl rfl UO.a UO.s rfl rfl) rfl rfl ?_)))))
  refine AS.pas (v:=(Value.bool false)) rfl (AB rfl) (Eo rfl rfl Tryz.eqGuardType64 (Np 9994 ⟨rfl,rfl⟩)) rfl rfl (Av (v:=(Value.bool false)) rfl (AV rfl rfl) (Bc rfl (AS.pas (v:=(aG (Ae p0))) rfl (AB rfl) (Aa (i:=4) (vs:=Ae p0) rfl rfl BC.a BC.s rfl rfl) rfl rfl (AS.pas (v:=(aG (Ae p1))) rfl (AB rfl) (Aa (i:=3) (vs:=Ae p1) rfl rfl BC.a BC.s rfl rfl) rfl rfl (AS.pas (v:=(aG (Ae p2))) rfl (AB rfl) (Aa (i:=2) (vs:=Ae p2) rfl rfl BC.a BC.s rfl rfl) rfl rfl ?_)))))
  refine AS.pas (v:=(aG (Ae a))) rfl (AB rfl) (Aa (i:=5) (vs:=Ae a) rfl rfl BC.a BC.s rfl rfl) rfl rfl (AS.pas (v:=(aG (Ae b))) rfl (AB rfl) (Aa (i:=6) (vs:=Ae b) rfl rfl BC.a BC.s rfl rfl) rfl rfl (AS.pas (v:=(aG (Ae d))) rfl (AB rfl) (Aa (i:=7) (vs:=Ae d) rfl rfl BC.a BC.s rfl rfl) rfl rfl (AS.imp rfl (AF.call (v:=(aG (AD ((4:Int):Rat)))) (AB rfl) (Aq (args:=[(vI 4)]) rfl rfl Tryz.call25) (λw hw=>IG (4:Int) (by omega) (by omega) w) rfl (Ad rfl) (AS.back sr ?_)))))
  refine AS.imp rfl ?_
  have hz1:=C_ p0 p1 p2
  have hz2:=Cl (AQ p0 p1 p2) (1/2)
  refine AF.call (v:=(aG (AD (AQ p0 p1 p2*(1/2))))) (AB rfl) (Aq (args:=[(aG (Ae p0)),(aG (Ae p1)),(aG (Ae p2))]) rfl rfl Tryz.call26) (λw hw=>Ms p0 p1 p2 (by omega) w) rfl (Ad rfl) (AS.back sr (AS.imp rfl ?_))
  have hz3:=Cl ((4:Int):Rat) (AQ p0 p1 p2*(1/2))
  refine AF.call (v:=(aG (AD (((4:Int):Rat)*(AQ p0 p1 p2*(1/2)))))) (AB rfl) (Aq (args:=[(aG (AD ((4:Int):Rat))),(aG (AD (AQ p0 p1 p2*(1/2))))]) rfl rfl Tryz.call24) (λw hw=>FX ((4:Int):Rat) (AQ p0 p1 p2*(1/2)) (by (try simp only [DS]);omega) w) rfl (Ad rfl) (AS.back sr (AS.imp rfl ?_))
  have hz4:=C_ a b d
  have hz5:=Cl (AQ a b d) (1/2)
  refine AF.call (v:=(aG (AD (AQ a b d*(1/2))))) (AB rfl) (Aq (args:=[(aG (Ae a)),(aG (Ae b)),(aG (Ae d))]) rfl rfl Tryz.call26) (λw hw=>Ms a b d (by omega) w) rfl (Ad rfl) (AS.back sr (AS.pas (v:=(Value.bool false)) rfl (AB rfl) (Eo rfl rfl Tryz.eqGuardType53 (Kz 9995 hR.ar)) rfl rfl (Av (v:=(Value.bool false)) rfl (AV rfl rfl) (AS.nil (AC.subF (sL [3,4,5,7,10,9,8,11,12,13,14,16,147] rfl) ?_)))))
  refine AC.then_ (AG.cond_false rfl (AG.skip (AC.in_normal (AC.then_ (AG.region ?_)))))
  exact AO rfl (AJ (AX (c:=((t+1:Nat):Int)) rfl rfl (Ab (a:=t) (b:=1) (by omega))) rfl (AK rfl (AF.nil (AC.subF (sL [3,4,5,7,10,9,8,11,12,13,14,16] rfl) (AC.round1 (t+1) (by omega) (by omega) (sF rfl) (sl (sl (sl (sl (sl (sl (sl (sl sr)))))))))))))
 ·replace hc1:=of_decide_eq_false hc1
  refine AG.exit (AC.then_exit (AC.round1_exit (AC.in_exit (q1 (q4 ?_)))))
  refine AK rfl (AF.nil (AC.then_ (AG.block ?_)))
  refine AG.lp1 (tg λ(p:Nat)=>p<=g.ps.length) (tg λ(p:Nat)=>[(3,(pP b2 0)),(4,(pP b3 0)),(18,(vN p))]) (tg λ(p:Nat)=>[Ah b3 31 (CG ra.m),Ag ra.m.a.p (rowsL Ae PA),Ag ra.m.b.p (rowsL Al TA),Ag ra.m.c.p (rowsL Al SA),Ag ra.q.p (inL (Dj g.ts.length)),Ah b2 31 (CG g.mx),Ag g.mx.a.p (rowsL Ae g.ps),Ag g.mx.b.p (rowsL Al g.ts),Ag g.mx.c.p (rowsL Al g.ss),Ah b1 26 (Eu m),Ag m.p (C8 m.cs)]) (tg λ(p:Nat)=>g.ps.length-p) 0 (Nat.zero_le _) (sF rfl) sr (λp hJ=>?_)
  have hpl:=hJ
  refine AG.seq (q4 (AO rfl (AJ (v:=(pP b2 0)) (AA rfl Tryz.underlying31 rfl Tryz.sizeOf27 rfl) rfl (BL 5 (Value.slice g.mx.a.p g.ps.length g.mx.a.c) C2 rfl (AJ (v:=(vN g.ps.length)) (AI rfl Tryz.underlying27) rfl ?_)))))
  refine AJ (Af (c:=(decide (p<g.ps.length))) rfl rfl (DL (a:=p) (b:=g.ps.length))) rfl (AF.nil (AC.subF (sL [3,4,18,152] rfl) (AC.then_ ?_)))
  refine AG.cond rfl (λhc5=>?_) (λhc5=>?_)
  ·replace hc5:=of_decide_eq_true hc5
   refine AG.skip (q1 (AG.block (AG.seq (Cq [(0,true),(1,true),(2,true),(3,true),(4,true),(5,true),(6,true),(7,true),(8,true),(9,true),(10,true)] sr (Av (v:=(pP b3 0)) rfl (AA rfl Tryz.underlying31 rfl Tryz.sizeOf27 rfl) ?_)))))
   refine Bg 0 (Value.slice ra.m.a.p PA.length ra.m.a.c) C2 rfl (Bc rfl (Av (v:=(pP (pB ra.m.a.p) (pO ra.m.a.p+p*10))) rfl (AW (j:=p) rfl rfl ra.m.a.ok Tryz.underlying27 Tryz.sizeOf55 rfl (by omega)) (Av (v:=(aG (Ae (PA.getD p (⟨0,0⟩:Pt))))) rfl (AU (vs:=Ae (PA.getD p (⟨0,0⟩:Pt))) (i:=1) rfl rfl (BQ.ne ra.m.a.ok (by omega)) BC (Au BI _ _ _ (by omega)) (BI _)) (Av (v:=(pP b2 0)) rfl (AA rfl Tryz.underlying31 rfl Tryz.sizeOf27 rfl) (Bg 5 (Value.slice g.mx.a.p g.ps.length g.mx.a.c) C2 rfl ?_)))))
   refine Bc rfl (Av (v:=(pP (pB g.mx.a.p) (pO g.mx.a.p+p*10))) rfl (AW (j:=p) rfl rfl g.mx.a.ok Tryz.underlying27 Tryz.sizeOf55 rfl (by omega)) (Av (v:=(aG (Ae (g.ps.getD p (⟨0,0⟩:Pt))))) rfl (AU (vs:=Ae (g.ps.getD p (⟨0,0⟩:Pt))) (i:=6) rfl rfl (BQ.ne g.mx.a.ok (by omega)) BC (Au BI _ _ _ (by omega)) (BI _)) (Av (v:=(Value.bool false)) rfl (Eo rfl rfl Tryz.eqGuardType55 (H0 9994 (hold p hc5))) (AS.nil (AC.subF (sL [3,4,18,165] rfl) ?_)))))
   refine AC.then_ (AG.cond_false rfl (AG.skip (AC.in_normal (AC.then_ (AG.region ?_)))))
   exact AO rfl (AJ (AX (c:=((p+1:Nat):Int)) rfl rfl (Ab (a:=p) (b:=1) (by omega))) rfl (AK rfl (AF.nil (AC.subF (sL [3,4,18] rfl) (AC.round1 (p+1) (by omega) (by omega) (sF rfl) sr)))))
  ·replace hc5:=of_decide_eq_false hc5
   refine AG.exit (AC.then_exit (AC.round1_exit (AC.in_exit (q2 (BU Tryz.call18 (Pl) rfl ?_)))))
   exact AK rfl (AF.nil (AC.subF (sL [3,4,18,2] rfl) (AC.then_ (AG.ret (AR rfl (Ai (v:=(Value.bool true)) rfl) (λw hw=>⟨rfl,hw.out⟩))))))
end
section
open Go Go.RowKit Go.ChangeShapes Go.WideShapes Go.ChangeAt
theorem VN:laidOutB Tryz.prog=true:=by kernel_rfl
theorem TD:ownKnob Tryz.prog.godebug=none:=by kernel_rfl
theorem HO {H:Type} {enc:TypeId×Value->H} {P:Program} (hl:laidOutB P=true) {W W':World} {sp:Nat->Bool} (hb:FQ W.heap.size W W') :
    ∀{ts:List TypeId} {vs:List Value} {ds:List (DataW H)} {ps:List MemPlace},(∀t∈ts,P.readableRec t=true/\t<P.types.size)->DataW.TrodAll enc P W 0 (λ_=>true) true ts vs ds ps ->
      (∀p∈ps,p.block<W.heap.size)->(∀p∈ps,sp p.block=true)->DataW.TrodAll enc P W' 0 sp true ts vs ds ps
  | [],_,_,_,_,h,_,_=>by
    obtain ⟨rfl,rfl,rfl⟩:=trodAll_nil h
    exact trodAll_mk0
  | t::ts,_,_,_,hr,h,hlt,hs=>by
    obtain ⟨v,vs1,d,ds1,a,b,rfl,rfl,rfl,h1,h2⟩:=trodAll_cons h
    exact ⟨a,b,WideElems.Trod_stays hl (hr t (by simp)).1 (hr t (by simp)).2 h1 (λx hx=>hb.same (hlt x (by simp [hx]))) (λx hx=>hs x (by simp [hx])),
      HO hl hb (λu hu=>hr u (by simp [hu])) h2 (λp hp=>hlt p (by simp [hp])) (λp hp=>hs p (by simp [hp])),rfl⟩
theorem S_ {H:Type} {enc:TypeId×Value->H} {P:Program} {f:Func} {s:ChangeSpec} {apart fresh handsOn again:Bool} {W W':World} {args:Array Value} {ds:List (DataW H)} {CM:List MemPlace} {tb:TypeId}
    (hW:DataW.Whole enc P f.params.toList s.vars apart W args.toList ds [] CM) (hv:s.vars=[]) (hfn:s.fn H ds=({ results:=[.lit (.bool true)],args:=ds }:Left H))
    (hrt:f.resultTypes=#[tb]) (hu:P.underlying tb=some .bool) (hb:FQ W.heap.size W W') (hl:laidOutB P=true) (hr:∀t∈f.params.toList,P.readableRec t=true/\t<P.types.size) :
    s.post enc P f apart fresh handsOn again W args (.bool true) W':=by
  have hlt:∀p∈CM,p.block<W.heap.size:=λp hp=>hW.lt p hp
  have hW2:=hW
  obtain ⟨pa,q,hA,hV,he,hz,hn⟩:=hW2
  rw [hv] at hV
  obtain ⟨_,rfl⟩:=trodVars_none hV
  simp only [List.append_nil] at he
  subst he
  have hres:∀(b:Nat) (sp:Nat->Bool) (hd:Bool),DataW.TrodAll enc P W' b sp hd f.resultTypes.toList ((Value.bool true).resultList f.resultTypes.size) (s.fn H (ds++[])).results []:=λb sp hd=>by
    rw [hrt,List.append_nil,hfn]
    exact trodAll_mk1 (shut_bool hu _)
  have hargs:∀sp:Nat->Bool,(∀p∈CM,sp p.block=true)->DataW.TrodAll enc P W' 0 sp true f.params.toList args.toList (s.fn H (ds++[])).args CM:=λsp hs=>by
    rw [List.append_nil,hfn]
    exact HO hl hb hr hA hlt hs
  have hvars:∀sp:Nat->Bool,DataW.TrodVars enc P W' sp s.vars (s.fn H (ds++[])).vars []:=λsp=>by
    rw [List.append_nil,hfn,hv];rfl
  have hold:∀p∈CM,(λb=>decide (b<W.heap.size)) p.block=true:=λp hp=>by simpa using hlt p hp
  refine ⟨ds,[],CM,[],CM,[],hW,hres _ _ _,hargs _ hold,hvars _,World.keptBut_mono (λp hp=>⟨hp,Or.inr (by simpa using hp)⟩) (hb.frame (·∈CM)),λ_=>⟨?_,_,_,([]++CM)++[],⟨[]++CM,[],trodAll_append (hargs _ (λ_ _=>rfl)) (hres _ _ _),hvars _,rfl,?_,?_⟩,?_⟩⟩
  · exact ok_one hrt rfl (okWide_bool_mk hu _)
  · intro b off hp
    have hp':MemPlace.cell b off∈CM:=by simpa using hp
    rw [hb.frozen (hlt _ hp')]
    exact hz b off hp'
  · intro ha
    have:=hn ha
    simpa using this
  · intro p hp _
    simpa using hp
end
section
open Go Go.RowKit Go.WideShapes
section
variable {P:Program} {w:World} {r:Reach} {base:Nat}
theorem Ea {u:TypeId} {v:Value} {k:IntKind} (hu:P.underlying u=some (.int k)) (h:Cell.okWide P w r base u v):∃n,v=.int k n/\k.has n:=by
  simp only [Cell.okWide,hu] at h
  unfold Cell.ok at h
  rw [hu] at h
  cases v<;>simp at h
  exact ⟨_,by rw [h.1],h.2⟩
theorem PV {u e:TypeId} {v:Value} (hu:P.underlying u=some (.slice e)) (h:Cell.okWide P w r base u v) :
    v=.slice none 0 0\/∃a len cap,v=.slice (some a) len cap/\len<=cap/\a.spot=none/\∃cur T fr,w.heap[a.block]?=some (.cells cur T fr):=by
  simp only [Cell.okWide,hu] at h
  unfold Cell.ok at h
  rw [hu] at h
  cases v with
  | slice p len cap =>
    cases p with
    | none =>
      left
      split at h<;>simp_all
    | some a =>
      right
      have h':len<=cap/\(cap:Int)<=IntKind.i64.max/\w.has P r base a e cap:=h
      obtain ⟨h1,_,_,h2,row,cells,h3,_⟩:=h'
      refine ⟨a,len,cap,rfl,h1,h2,?_⟩
      unfold World.shape? at h3
      split at h3
      · rename_i cur T fr e;exact ⟨cur,T,fr,e⟩
      · cases h3
  | _=>simp at h
theorem Mc {n:Int} (h:IntKind.i8.has n):-128<=n/\n<=127:=by
  simp only [IntKind.has,IntKind.min,IntKind.max,IntKind.bits,IntKind.signed] at h;simp at h;omega
theorem XR {n:Int} (h:IntKind.u8.has n):0<=n/\n<256:=by
  simp only [IntKind.has,IntKind.min,IntKind.max,IntKind.bits,IntKind.signed] at h;simp at h;omega
theorem Kl {n:Int} (h:IntKind.u8.has n):∃m:Nat,n=(m:Int)/\m<256:=by
  have:=XR h
  exact ⟨n.toNat,by omega,by omega⟩
theorem OC {f:Nat->Option Value}:∀(len:Nat),(∀i,i<len->∃m:Nat,f i=some (.int .u8 (m:Nat))/\m<256)->∃l:List Nat,l.length=len/\(∀x∈l,x<256)/\∀i,i<len->f i=(C8 l)[i]?
  | 0,_=>⟨[],rfl,(λx h=>by cases h),λi h=>absurd h (Nat.not_lt_zero _)⟩
  | n+1,h=>by
    obtain ⟨l,h1,h2,h3⟩:=OC n λi hi=>h i (by omega)
    obtain ⟨m,h4,h5⟩:=h n (by omega)
    refine ⟨l++[m],by simp [h1],λx hx=>?_,λi hi=>?_⟩
    · rcases List.mem_append.1 hx with hx|hx
      · exact h2 x hx
      · rcases List.mem_singleton.1 hx with rfl;exact h5
    · rcases Nat.lt_or_ge i n with h6|h6
      · rw [h3 i h6];simp [C8,List.getElem?_append,h1,h6]
      · obtain rfl:i=n:=by omega
        rw [h4];simp [C8,List.getElem?_append,h1]
theorem Oq {cur:Array Value} {T:TypeId} {fr:Nat×Nat} {off len:Nat} {l:List Nat} (hl:l.length=len) (h:∀i,i<len->cur[off+i]?=(C8 l)[i]?):NO off (C8 l) (.cells cur T fr):=by
  have hb:(C8 l).length=len:=by simp [C8,hl]
  refine ⟨cur,T,fr,rfl,List.ext_getElem? λi=>?_⟩
  rw [List.getElem?_take,hb]
  split
  · rename_i hi
    rw [List.getElem?_drop,Array.getElem?_toList,h i hi]
  · rw [List.getElem?_eq_none (by omega)]
theorem Ys {H:Type} {enc:TypeId×Value->H} {W:World} {sp:Nat->Bool} {hd:Bool} {t ts e a0 a1 a2 a3 a4 a5 a6 a7:TypeId} {v:Value} {d:DataW H} {ps:List MemPlace} {fs:Array Field} (ht:P.underlying t=some (.struct fs)) (hf:∃f,fs[2]?=some f/\f.type=ts/\f.offset=2)
    (hts:P.underlying ts=some (.slice e)) (h1:P.cellsOf ts=1) (he:P.underlying e=some (.int .u8)) (h1e:P.cellsOf e=1) (hct:P.cellTypes P.depth t=some [a0,a1,ts,a2,a3,a4,a5,a6,a7]) (hsz:P.cellsOf t=9)
    (hk:[a0,a1,a2,a3,a4,a5,a6,a7].map P.underlying=[IntKind.u8,.u8,.i8,.i8,.i8,.i8,.u8,.u8].map (λk=>some (.int k)))
    (hv:Value.okWide P W r base t v) (hT:DataW.Trod enc P W 0 sp hd t v d ps):∃m:MQ,v=aG (Eu m)/\Ro (λ_=>True) W m:=by
  unfold Value.okWide at hv
  rw [ht] at hv
  obtain ⟨⟨cs⟩,rfl,hs,ts',hts',_,hc⟩:=hv
  obtain rfl:=Option.some.inj (hct.symm.trans hts')
  have hl:cs.length=9:=by rw [<-hsz,<-hs];simp
  match cs,hl,hc,hT with
  | [c0,c1,c2,c3,c4,c5,c6,c7,c8],_,hc,hT =>
    simp only [List.map_cons,List.map_nil,List.cons.injEq,and_true] at hk
    obtain ⟨k0,k1,k2,k3,k4,k5,k6,k7⟩:=hk
    have g:∀(i:Nat) (u:TypeId) (v:Value),i<9->[a0,a1,ts,a2,a3,a4,a5,a6,a7][i]?=some u->[c0,c1,c2,c3,c4,c5,c6,c7,c8][i]?=some v->Cell.okWide P W r base u v:=λi u v hi hu hv=>by
      obtain ⟨u',h2,h3⟩:=hc i v (by simpa using hv)
      rw [Nat.mod_eq_of_lt (by simpa using hi),hu] at h2
      cases h2;exact h3
    obtain ⟨n0,rfl,b0⟩:=Ea k0 (g 0 _ _ (by decide) rfl rfl)
    obtain ⟨n1,rfl,b1⟩:=Ea k1 (g 1 _ _ (by decide) rfl rfl)
    obtain ⟨n2,rfl,b2⟩:=Ea k2 (g 3 _ _ (by decide) rfl rfl)
    obtain ⟨n3,rfl,b3⟩:=Ea k3 (g 4 _ _ (by decide) rfl rfl)
    obtain ⟨n4,rfl,b4⟩:=Ea k4 (g 5 _ _ (by decide) rfl rfl)
    obtain ⟨n5,rfl,b5⟩:=Ea k5 (g 6 _ _ (by decide) rfl rfl)
    obtain ⟨n6,rfl,b6⟩:=Ea k6 (g 7 _ _ (by decide) rfl rfl)
    obtain ⟨n7,rfl,b7⟩:=Ea k7 (g 8 _ _ (by decide) rfl rfl)
    obtain ⟨m0,rfl,e0⟩:=Kl b0
    obtain ⟨m1,rfl,e1⟩:=Kl b1
    obtain ⟨m6,rfl,e6⟩:=Kl b6
    obtain ⟨m7,rfl,e7⟩:=Kl b7
    have hsl:=PV hts (g 2 _ _ (by decide) rfl rfl)
    have key:∃(l:List Nat) (p:Option Addr) (cap:Nat),c2=.slice p l.length cap/\(∀x∈l,x<256)/\BQ p l.length cap/\Holds W (Ag p (C8 l)):=by
      rcases hsl with rfl|⟨a,len,cap,rfl,hlc,hsp,cur,T,fr,hcur⟩
      · exact ⟨[],none,0,rfl,(λx h=>by cases h),⟨λ_=>⟨rfl,rfl⟩,(λa e=>by cases e),Nat.le_refl _⟩,λb e=>by cases e⟩
      · obtain ⟨fuel,hT⟩:=hT
        obtain ⟨xs,n,_,_,_,hxl,hx⟩:=DataW.trod_struct ht hT
        obtain ⟨f,hf1,rfl,hf3⟩:=hf
        have hx2:=hx 2 f hf1
        have hlt:2<xs.length:=by
          rw [hxl]
          rcases Nat.lt_or_ge 2 fs.size with h|h
          · exact h
          · rw [Array.getElem?_eq_none h] at hf1;cases hf1
        rw [hf3,h1,List.getElem?_eq_getElem hlt] at hx2
        rcases DataW.trod_slice hts hx2 with ⟨h2,_⟩|⟨a',len',cap',elems,rest,n',_,h2,_,_,_,_,hel,hes,_⟩
        · cases h2
        · obtain ⟨rfl,rfl,rfl⟩:a=a'/\len=len'/\cap=cap':=by
            have h3:[Value.slice (some a) len cap]=[Value.slice (some a') len' cap']:=h2
            simp only [List.cons.injEq,Value.slice.injEq,Option.some.injEq,and_true] at h3
            exact h3
          have hbyte:∀i,i<len->∃m:Nat,cur[a.off+i]?=some (.int .u8 (m:Nat))/\m<256:=λi hi=>by
            have h3:=hes i hi
            rw [List.getElem?_eq_getElem (by omega),Option.bind_eq_some_iff] at h3
            obtain ⟨cs',h4,h5⟩:=h3
            obtain ⟨n,rfl,_,hwf⟩:=DataW.trod_int he h5
            rw [h1e,Nat.mul_one] at h4
            unfold World.cells? at h4
            rw [if_pos (Nat.zero_le _)] at h4
            have h6:=mapM_some_get h4 0 0 (by simp)
            rw [List.getElem?_cons_zero] at h6
            have ha:a=⟨a.block,a.off,none⟩:=by rw [<-hsp]
            have h7:W.cell? ((a.add i).add 0)=some (Value.int IntKind.u8 n):=h6
            rw [ha,add_plain,add_plain,Nat.add_zero] at h7
            unfold World.cell? at h7
            simp only [hcur] at h7
            have h8:IntKind.u8.has n:=by
              have h9:(decide (IntKind.u8.min<=n)&&decide (n<=IntKind.u8.max))=true:=hwf
              rw [Bool.and_eq_true,decide_eq_true_eq,decide_eq_true_eq] at h9
              exact h9
            obtain ⟨m,rfl,hm⟩:=Kl h8
            exact ⟨m,by simpa using h7,hm⟩
          obtain ⟨l,hl1,hl2,hl3⟩:=OC len hbyte
          refine ⟨l,some a,cap,by rw [hl1],hl2,⟨(λe=>by cases e),(λa' e=>by cases e;exact hsp),by omega⟩,λb e=>?_⟩
          have hb:a.block=b:=Option.some.inj e
          subst hb
          exact ⟨_,hcur,Oq hl1 hl3⟩
    obtain ⟨l,p,cap,rfl,hl2,hok,hh⟩:=key
    exact ⟨⟨m0,m1,l,p,cap,n2,n3,n4,n5,m6,m7,e0,e1,Mc b2,Mc b3,Mc b4,Mc b5,e6,e7,hl2,hok⟩,rfl,λy hy=>by
      rcases List.mem_singleton.1 hy with rfl
      exact ⟨hh,λ_ _=>trivial⟩⟩
end
end
end Go.Proofs.YtfbomiejpbchdaaGreat
