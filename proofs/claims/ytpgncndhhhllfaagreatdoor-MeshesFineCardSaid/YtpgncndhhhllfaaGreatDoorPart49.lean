import Derived.Test.YtpgncndhhhllfaaGreatDoorTie
import Derived.Test.YtpgncndhhhllfaaGreatDoorCards
import Derived.ProofKit
import Derived.LaidMore
import Derived.Carry
import Derived.Stop.Joined
import Derived.SevenTiedAt
import Derived.Test.YtpgncndhhhllfaaGreatDoorPart03
import Derived.Test.YtpgncndhhhllfaaGreatDoorPart18
import Derived.Test.YtpgncndhhhllfaaGreatDoorPart23
import Derived.Test.YtpgncndhhhllfaaGreatDoorPart42
import Derived.Test.YtpgncndhhhllfaaGreatDoorPart44
import Derived.Test.YtpgncndhhhllfaaGreatDoorPart47
import Derived.Test.YtpgncndhhhllfaaGreatDoorPart48
namespace Go.Proofs.YtpgncndhhhllfaaGreatDoor
open Go Go.RowKit Go.Proofs.Tryz
set_option linter.unusedVariables false
set_option linter.unusedSimpArgs false
section
set_option maxRecDepth 100000
theorem Ef {r0:Pt} (x0:PX r0) {r1:Pt} (x1:PX r1) {r2:Pt} (x2:PX r2):Instr.fill (λi=>some (i*6,6)) ([(Value.bool false),(Value.slice none 0 0),(Value.slice none 0 0),(Value.bool false),(Value.slice none 0 0),(Value.slice none 0 0),(Value.bool false),(Value.slice none 0 0),(Value.slice none 0 0),(Value.bool false),(Value.slice none 0 0),(Value.slice none 0 0),(Value.bool false),(Value.slice none 0 0),(Value.slice none 0 0),(Value.bool false),(Value.slice none 0 0),(Value.slice none 0 0)]).toArray [(0,.agg (DE x0).toArray),(1,.agg (DE x1).toArray),(2,.agg (DE x2).toArray)]=some (DE x0++DE x1++DE x2).toArray:=by kernel_rfl
set_option maxHeartbeats 2000000 in
theorem L0 (m:MQ) (t:Int) (w:World) {S:Nat->Prop} (hm:Ro S w m) (hT:R6 w):Calls prog 5 #[(aG (DZ m)),(vI t)] w (An w (Value.bool true)):=by
 have lm:=Cl (W:=w) hm
 refine Ah (args:=[(aG (DZ m)),(vI t)]) (L:=[AQ m.p (CF m.cs)]) func5 O O (AT O) (Ed hm Ax) (AF.subF (sL [0,1] O) (q4 (BU (cs:=DZ m) O λb1=>asg' O (q3 (sL [1,2,4] O) ?_))))
 refine BD 0 K4 O (AE.callR (S:=S) (α:=MF m) (args:=[(aG (DZ m))]) call19 (λw hw=>TK m w (inS hw 1 O lm)) O O O λgf lg0=>?_)
 obtain ⟨g,hlat⟩:=gf
 have lg:At ⟨w,none⟩ S g.mx:=lg0
 have hG:=g.good
 have hnb:By g.ps.length g.ts=true:=Sd hG
 have htl:=hG.tl
 have hpl:=hG.pl
 have hz:∀i,B_ (cor g.ps i)<=1000:=λi=>Nat.le_trans (hG.sz i) (by decide)
 have hsl:=g.sl
 have hck:Jc g.ps g.ts g.ss:=Tv hG hnb g.sd Z
 obtain ⟨hgt,hgp⟩:=Yo hlat
 have hfw:FW (EC g.ps g.ts g.ts.length):=aR hlat htl
 have hnr:By (Oo m).length (ET m)=true:=by rw [<-hgp,<-hgt];exact hnb
 have hzr:∀k,B_ (cor (Oo m) k)<=1000:=by rw [<-hgp];exact hz
 have hlr:(ET m).length=g.ts.length:=by rw [hgt]
 have hpr:(Oo m).length=g.ps.length:=by rw [hgp]
 have hsz:Sz (EC (Oo m) (ET m) (ET m).length)<=16777216:=Nat.le_trans (J1 hzr (ET m) _) Z
 refine al Ti O λb2=>A8 O sizeOf30 O (q3 (sL [1,2,4,5] O) (BD 4 K4 O (AE.callR (S:=S) (α:=b_ m) (args:=[(aG (DZ m))]) call20 (λw hw=>XB m w (inS hw 5 O lm)) O O O λfo lfo=>?_)))
 have hfl:fo.o.rs.length=(Oo m).length:=fo.o.len
 have hnr2:By fo.o.rs.length (ET m)=true:=by rw [hfl];exact hnr
 refine AE.permR (show List.Perm _ (AQ fo.o.a.p (rowsL Ga fo.o.rs)::AQ fo.o.b.p (rowsL Ai (ET m))::AQ fo.o.c.p (rowsL Ai fo.ss)::Ag b2 30 (CI g.mx)::AQ g.mx.a.p (rowsL Am g.ps)::AQ g.mx.b.p (rowsL Ai g.ts)::AQ g.mx.c.p (rowsL Ai g.ss)::Ag b1 66 (DZ m)::AQ m.p (CF m.cs)::F9 fo.o.rs) from ZO [AQ fo.o.a.p (rowsL Ga fo.o.rs),AQ fo.o.b.p (rowsL Ai (ET m)),AQ fo.o.c.p (rowsL Ai fo.ss)] (F9 fo.o.rs) [Ag b2 30 (CI g.mx),AQ g.mx.a.p (rowsL Am g.ps),AQ g.mx.b.p (rowsL Ai g.ts),AQ g.mx.c.p (rowsL Ai g.ss),Ag b1 66 (DZ m),AQ m.p (CF m.cs)]) (al aJ O λb3=>A8 O sizeOf38 O (q6 (sL [1,2,4,5,6] O) (AF.seq (Cd [(0,true),(1,false),(2,true),(3,true),(4,true),(5,true),(6,false),(7,true),(8,true),(9,true),(10,true),(12,true),(11,false),(13,false),(14,false),(15,true),(16,true)] sr ?_))))
 refine Da 4 Dq O (OkE.imp O (Cj call21 (λw hw=>N9 g.mx hck w (inS hw 5 O lg:Ro _ w g.mx)) O (OkE.back sr (Aq O (Bx (c:=false) O O (by decide)) (Bb O ?_)))))
 refine OkE.pas (v:=(aG (CI g.mx))) O (AB O) (Aj (i:=4) (vs:=CI g.mx) O O Dq.a Dq.s O O) O O (OkE.pas (v:=(aG (B9 fo.o))) O (AB O) (Aj (i:=0) (vs:=B9 fo.o) O O EA.a EA.s O O) O O (OkE.imp O (AE.call (v:=(Value.bool true)) (AB O) (Ao (args:=[(aG (CI g.mx)),(aG (B9 fo.o))]) O O call22) (λw hw=>Ut g.mx fo.o hgt (by rw [hgp]) Z Z hnb w (inS hw 5 O lg:Ro _ w g.mx) (Gb (x:=fo.o) (S:=S) hw 1 O (λz hz=>List.mem_append_right [Ag b3 38 (B9 fo.o),AQ fo.o.a.p (rowsL Ga fo.o.rs),AQ fo.o.b.p (rowsL Ai (ET m)),AQ fo.o.c.p (rowsL Ai fo.ss),Ag b2 30 (CI g.mx),AQ g.mx.a.p (rowsL Am g.ps),AQ g.mx.b.p (rowsL Ai g.ts),AQ g.mx.c.p (rowsL Ai g.ss),Ag b1 66 (DZ m),AQ m.p (CF m.cs)] hz) lfo)) O (AT O) (OkE.back sr (OkE.pas (v:=(Value.bool false)) O (AB O) (BQ (c:=false) O O) O O ?_)))))
 refine Aq (v:=(Value.bool false)) O (AP O O) (Bb O (OkE.pas (v:=(aG (CI g.mx))) O (AB O) (Aj (i:=4) (vs:=CI g.mx) O O Dq.a Dq.s O O) O O (OkE.pas (v:=(aG (B9 fo.o))) O (AB O) (Aj (i:=0) (vs:=B9 fo.o) O O EA.a EA.s O O) O O (OkE.imp O (AE.call (v:=(aG (AO (EC g.ps g.ts g.ts.length)))) (AB O) (Ao (args:=[(aG (CI g.mx))]) O O call24) (λw hw=>PK g.mx Z hz hnb w (inS hw 5 O lg:Ro _ w g.mx)) O (AT O) ?_)))))
 refine OkE.back sr (OkE.imp O (AE.unguard (AB O) (cF (S:=S) (x:=(EC (Oo m) (ET m) (ET m).length)) (args:=[(aG (B9 fo.o))]) call25 (λw hw=>UR fo.o Z Z hzr hnr w (Gb (x:=fo.o) (S:=S) hw 1 O (λz hz=>List.mem_append_right [Ag b3 38 (B9 fo.o),AQ fo.o.a.p (rowsL Ga fo.o.rs),AQ fo.o.b.p (rowsL Ai (ET m)),AQ fo.o.c.p (rowsL Ai fo.ss),Ag b2 30 (CI g.mx),AQ g.mx.a.p (rowsL Am g.ps),AQ g.mx.b.p (rowsL Ai g.ts),AQ g.mx.c.p (rowsL Ai g.ss),Ag b1 66 (DZ m),AQ m.p (CF m.cs)] hz) lfo)) O O O λg1 lg1=>OkE.back (sl (sl sr)) (OkE.imp O ?_))))
 refine AE.call (v:=(Value.bool true)) (AB O) (Ao (args:=[(aG (AO (EC g.ps g.ts g.ts.length))),(aG (fxL g1))]) O O call23) (λw hw=>(by have h9:=Jw (EC g.ps g.ts g.ts.length) g1 hfw hsz w (inS hw 0 O lg1) (hT.below hw.out);rw [show decide (EC g.ps g.ts g.ts.length=EC (Oo m) (ET m) (ET m).length)=true from decide_eq_true (by rw [hgt,hgp])] at h9;exact h9)) O (AT O) (OkE.back (sl (sl sr)) (OkE.pas (v:=(Value.bool false)) O (AB O) (BQ (c:=false) O O) O O (Aq (v:=(Value.bool false)) O (AP O O) (OkE.nil (AC.subF (sL [1,2,4,5,6,33] O) ?_)))))
 refine AC.then_ (AF.cond_false O (AF.skip (q1 (q4 (asg' O ?_)))))
 refine AE.nil (AC.subF (sL [1,2,4,5,6,7] O) (AC.then_ (AF.block ?_)))
 refine AF.lp1 (tg λ(p:Nat)=>p<=fo.o.rs.length) (tg λ(p:Nat)=>[(1,(vI t)),(5,(pP b2 0)),(6,(pP b3 0)),(7,(vN p))]) (tg λ(p:Nat)=>(Be g1.z.n::Be g1.m::Ag b3 38 (B9 fo.o)::AQ fo.o.a.p (rowsL Ga fo.o.rs)::AQ fo.o.b.p (rowsL Ai (ET m))::AQ fo.o.c.p (rowsL Ai fo.ss)::Ag b2 30 (CI g.mx)::AQ g.mx.a.p (rowsL Am g.ps)::AQ g.mx.b.p (rowsL Ai g.ts)::AQ g.mx.c.p (rowsL Ai g.ss)::Ag b1 66 (DZ m)::AQ m.p (CF m.cs)::F9 fo.o.rs)) (tg λ(p:Nat)=>fo.o.rs.length-p) 0 (Nat.zero_le _) (sF O) sr (λp hJ=>?_)
 have hpi:=hJ
 refine AF.seq (q4 (AM O (AH (v:=(pP b3 0)) (AA O underlying38 O sizeOf35 O) O (BA 2 (Value.slice fo.o.a.p fo.o.rs.length fo.o.a.c) OP O (AH (v:=(vN fo.o.rs.length)) (AG O underlying35) O ?_)))))
 refine AH (Ae (c:=(decide (p<fo.o.rs.length))) O O (CL (a:=p) (b:=fo.o.rs.length))) O (AE.nil (AC.subF (sL [1,5,6,7,38] O) (AC.then_ ?_)))
 refine AF.cond O (λhc1=>?_) (λhc1=>?_)
 ·replace hc1:=of_decide_eq_true hc1
  refine AF.skip (q1 (AF.block (AF.seq (Cd [(0,true),(1,true),(3,true),(4,true),(2,false),(5,false),(6,false),(7,true)] sr (Da 6 Dq O ?_)))))
  refine Bb O (Da 2 EA O (Bb O (OkE.imp O (AE.callR (S:=S) (α:=CX (inL (N4 g.ts ((p:Nat):Int) g.ts.length)) (N4 g.ts ((p:Nat):Int) g.ts.length).length) (args:=[(aG (CI g.mx)),(vN p)]) call27 (λw hw=>Qo g.mx ((p:Nat):Int) Z Z hnb w (inS hw 7 O lg:Ro _ w g.mx)) O O O λap lap=>OkE.back (sl sr) ?_))))
  refine OkE.imp O (AE.callR (S:=S) (α:=RX (inL (PR (ET m) p (ET m).length)) (PR (ET m) p (ET m).length).length) (args:=[(aG (B9 fo.o)),(vN p)]) call28 (λw hw=>Qp fo.o.rm p hnr2 Z Z w (Ym (x:=fo.o) (Gb (x:=fo.o) (S:=S) hw 4 O (λz hz=>List.mem_append_right [AQ ap.p (inL (N4 g.ts ((p:Nat):Int) g.ts.length)),Be g1.z.n,Be g1.m,Ag b3 38 (B9 fo.o),AQ fo.o.a.p (rowsL Ga fo.o.rs),AQ fo.o.b.p (rowsL Ai (ET m)),AQ fo.o.c.p (rowsL Ai fo.ss),Ag b2 30 (CI g.mx),AQ g.mx.a.p (rowsL Am g.ps),AQ g.mx.b.p (rowsL Ai g.ts),AQ g.mx.c.p (rowsL Ai g.ss),Ag b1 66 (DZ m),AQ m.p (CF m.cs)] hz) lfo))) O O O λaq laq=>OkE.back (sl (sl sr)) (OkE.imp O (Cj call26 (λw hw=>UX (N4 g.ts ((p:Nat):Int) g.ts.length) (PR (ET m) p (ET m).length) (by rw [YI,hgt]) ap aq (Nat.le_trans V1 Z) w (inS (S:=S) hw 1 O lap) (inS (S:=S) hw 0 O laq)) O (OkE.back (sl (sl sr)) ?_))))
  refine Aq O (BQ (c:=false) O O) (OkE.nil (AC.subF (sL [1,5,6,7,48] O) (AC.then_ (AF.cond_false O (AF.skip ?_)))))
  refine AC.in_normal (AC.then_ (AF.region (AM O (AH (AW (c:=((p+1:Nat):Int)) O O (AU (a:=p) (b:=1) Z)) O (asg' O ?_)))))
  exact AE.nil (AC.subF (sL [1,5,6,7] O) (AC.round1 (p+1) Z Z (sF O) (sl (sl sr))))
 ·replace hc1:=of_decide_eq_false hc1
  refine AF.exit (AC.then_exit (AC.round1_exit (AC.in_exit (q1 ?_))))
  by_cases hv:0<=t/\t<(g.ts.length:Int)
  ·skip
   obtain ⟨u,hu⟩:=Int.eq_ofNat_of_zero_le hv.1
   subst hu
   have hul:u<g.ts.length:=by omega
   refine AF.region (BD 6 Dq O (AM O (Cj call29 (λw hw=>Kx g.mx u hul (Cc hnb hul) w (inS hw 7 O lg:Ro _ w g.mx)) O (AM O (AH (Aa (v:=(aG (Am (cor g.ps (g.ts.getD u (0,0,0)).1)))) O O) O ?_)))))
   refine AH (Aa (v:=(aG (Am (cor g.ps (g.ts.getD u (0,0,0)).2.1)))) O O) O (AH (Aa (v:=(aG (Am (cor g.ps (g.ts.getD u (0,0,0)).2.2)))) O O) O (al E8 O λb4=>al E8 O λb5=>al E8 O λb6=>FN O sizeOf51 O ?_))
   refine Cm O sizeOf51 O (A8 O sizeOf51 O (q3 (sL [1,5,6,7,8,9,10] O) (al UC O λb7=>AE.nil (q2 ?_))))
   refine BD 0 Fa O (BD 0 Fa O (BD 0 Fa O (AH (v:=(aG ([(Value.bool false),(Value.slice none 0 0),(Value.slice none 0 0),(Value.bool false),(Value.slice none 0 0),(Value.slice none 0 0),(Value.bool false),(Value.slice none 0 0),(Value.slice none 0 0),(Value.bool false),(Value.slice none 0 0),(Value.slice none 0 0),(Value.bool false),(Value.slice none 0 0),(Value.slice none 0 0),(Value.bool false),(Value.slice none 0 0),(Value.slice none 0 0)]))) (A6 (zs:=[(Value.bool false),(Value.slice none 0 0),(Value.slice none 0 0),(Value.bool false),(Value.slice none 0 0),(Value.slice none 0 0),(Value.bool false),(Value.slice none 0 0),(Value.slice none 0 0),(Value.bool false),(Value.slice none 0 0),(Value.slice none 0 0),(Value.bool false),(Value.slice none 0 0),(Value.slice none 0 0),(Value.bool false),(Value.slice none 0 0),(Value.slice none 0 0)]) (vs:=[(Value.bool false),(Value.slice none 0 0),(Value.slice none 0 0),(Value.bool false),(Value.slice none 0 0),(Value.slice none 0 0),(Value.bool false),(Value.slice none 0 0),(Value.slice none 0 0),(Value.bool false),(Value.slice none 0 0),(Value.slice none 0 0),(Value.bool false),(Value.slice none 0 0),(Value.slice none 0 0),(Value.bool false),(Value.slice none 0 0),(Value.slice none 0 0)]) (pv:=[(0,(aG ([(Value.bool false),(Value.slice none 0 0),(Value.slice none 0 0),(Value.bool false),(Value.slice none 0 0),(Value.slice none 0 0)]))),(1,(aG ([(Value.bool false),(Value.slice none 0 0),(Value.slice none 0 0),(Value.bool false),(Value.slice none 0 0),(Value.slice none 0 0)]))),(2,(aG ([(Value.bool false),(Value.slice none 0 0),(Value.slice none 0 0),(Value.bool false),(Value.slice none 0 0),(Value.slice none 0 0)])))]) zeroValue84 underlying84 sizeOf83 O O) O (al ar O λb8=>A8 O sizeOf84 O ?_))))
   refine q6 (sL [1,5,6,7,8,9,10,12] O) (q4 (AM O (AH (CU (c:=(decide (0<=u))) O O (WG (a:=0) (b:=u))) O (AM O ?_))))
   refine AE.mid (FM:=[(1,(vN u)),(5,(pP b2 0)),(6,(pP b3 0)),(7,(vN p)),(8,(pP b4 0)),(9,(pP b5 0)),(10,(pP b6 0)),(12,(pP b8 0)),(60,(vN u)),(61,(Value.bool (decide (0<=u)))),(62,(Value.bool (decide (0<=u)))),(68,(Value.bool ((decide (0<=u))&&(decide (u<((ET m).length))))))]) (LM:=(Ag b8 84 ([(Value.bool false),(Value.slice none 0 0),(Value.slice none 0 0),(Value.bool false),(Value.slice none 0 0),(Value.slice none 0 0),(Value.bool false),(Value.slice none 0 0),(Value.slice none 0 0),(Value.bool false),(Value.slice none 0 0),(Value.slice none 0 0),(Value.bool false),(Value.slice none 0 0),(Value.slice none 0 0),(Value.bool false),(Value.slice none 0 0),(Value.slice none 0 0)])::Ag b7 83 ([(Value.bool false),(Value.slice none 0 0),(Value.slice none 0 0),(Value.bool false),(Value.slice none 0 0),(Value.slice none 0 0)])::Ag b6 51 (Am (cor g.ps (g.ts.getD u (0,0,0)).2.2))::Ag b5 51 (Am (cor g.ps (g.ts.getD u (0,0,0)).2.1))::Ag b4 51 (Am (cor g.ps (g.ts.getD u (0,0,0)).1))::Be g1.z.n::Be g1.m::Ag b3 38 (B9 fo.o)::AQ fo.o.a.p (rowsL Ga fo.o.rs)::AQ fo.o.b.p (rowsL Ai (ET m))::AQ fo.o.c.p (rowsL Ai fo.ss)::Ag b2 30 (CI g.mx)::AQ g.mx.a.p (rowsL Am g.ps)::AQ g.mx.b.p (rowsL Ai g.ts)::AQ g.mx.c.p (rowsL Ai g.ss)::Ag b1 66 (DZ m)::AQ m.p (CF m.cs)::F9 fo.o.rs)) 6 ?_ ?_
   ·rcases Bool.eq_false_or_eq_true (decide (0<=u)) with hg1|hg1
    ·skip
     refine AE.retell (k:=62) (u:=Value.bool true) O (by rw [hg1]) ?_
     have hg1':=hg1
     replace hg1':=of_decide_eq_true hg1'
     refine AE.step (v:=(vN u)) (AB O) (Al O) O (AT O) (AE.step (v:=(pP b3 1)) (AB O) (AA O underlying38 O sizeOf23 O) O (AT O) (AE.step (v:=(Value.slice fo.o.b.p ((ET m).length) fo.o.b.c)) (AB O) (AK (i:=7) (v:=(Value.slice fo.o.b.p ((ET m).length) fo.o.b.c)) O O CP.a O) O (AT O) (AE.step (v:=(vN ((ET m).length))) (AB O) (AG O underlying23) O (AT O) (AE.step (v:=(Value.bool (decide (u<((ET m).length))))) (AB O) (Ae (c:=(decide (u<((ET m).length)))) O O (CL (a:=u) (b:=(ET m).length))) O (AT O) (AH (v:=(Value.bool (decide (u<((ET m).length))))) (Ac O O) O ?_)))))
     exact AE.nil (AC.mid (sS O (sS O (sS O (sS O (sS O (sS O (sS O (sS O (sS O (sS O (sS (by first|rfl|(rw [hg1];rfl)|rw [hg1]) (sS (by first|rfl|(rw [hg1];rfl)|rw [hg1]) (sN))))))))))))) (List.Sublist.refl _))
    ·skip
     refine AE.retell (k:=62) (u:=Value.bool false) O (by rw [hg1]) ?_
     have hg1':=hg1
     replace hg1':=of_decide_eq_false hg1'
     refine AE.skip (AJ O) O (AT O) (AE.skip (AJ O) O (AT O) (AE.skip (AJ O) O (AT O) (AE.skip (AJ O) O (AT O) (AE.skip (AJ O) O (AT O) (AH (v:=(Value.bool false)) (AP O O) O ?_)))))
     exact AE.nil (AC.mid (sS O (sS O (sS O (sS O (sS O (sS O (sS O (sS O (sS O (sS O (sS (by first|rfl|(rw [hg1];rfl)|rw [hg1]) (sS (by first|rfl|(rw [hg1];rfl)|rw [hg1]) (sN))))))))))))) (List.Sublist.refl _))
   refine AE.nil (AC.subF (sL [1,5,6,7,8,9,10,12,68] O) (AC.then_ ?_))
   refine AF.cond O (λhc3=>?_) (λhc3=>?_)
   ·simp only [Bool.and_eq_true,Bool.or_eq_true,Bool.and_eq_false_iff,Bool.or_eq_false_iff,Bool.not_eq_true',Bool.not_eq_false',decide_eq_true_eq,decide_eq_false_iff_not] at hc3
    refine Cd [(0,true),(1,true),(3,true),(4,true),(6,true),(7,true),(2,false),(5,false),(8,false),(9,true),(10,false)] (sl sr) (Da 6 EA O (Bb O (Da 6 EA O (Bb O (Da 6 EA O ?_)))))
    refine Bb O (OkE.imp O (cP (S:=S) (x:=(cor (Oo m) ((ET m).getD u (0,0,0)).1)) (args:=[(aG (B9 fo.o)),(vN u),(vI 0)]) call30 (λw hw=>EO fo.o u 0 Z (by decide) hnr w (Gb (x:=fo.o) (S:=S) hw 8 O (λz hz=>List.mem_append_right [Ag b8 84 ([(Value.bool false),(Value.slice none 0 0),(Value.slice none 0 0),(Value.bool false),(Value.slice none 0 0),(Value.slice none 0 0),(Value.bool false),(Value.slice none 0 0),(Value.slice none 0 0),(Value.bool false),(Value.slice none 0 0),(Value.slice none 0 0),(Value.bool false),(Value.slice none 0 0),(Value.slice none 0 0),(Value.bool false),(Value.slice none 0 0),(Value.slice none 0 0)]),Ag b7 83 ([(Value.bool false),(Value.slice none 0 0),(Value.slice none 0 0),(Value.bool false),(Value.slice none 0 0),(Value.slice none 0 0)]),Ag b6 51 (Am (cor g.ps (g.ts.getD u (0,0,0)).2.2)),Ag b5 51 (Am (cor g.ps (g.ts.getD u (0,0,0)).2.1)),Ag b4 51 (Am (cor g.ps (g.ts.getD u (0,0,0)).1)),Be g1.z.n,Be g1.m,Ag b3 38 (B9 fo.o),AQ fo.o.a.p (rowsL Ga fo.o.rs),AQ fo.o.b.p (rowsL Ai (ET m)),AQ fo.o.c.p (rowsL Ai fo.ss),Ag b2 30 (CI g.mx),AQ g.mx.a.p (rowsL Am g.ps),AQ g.mx.b.p (rowsL Ai g.ts),AQ g.mx.c.p (rowsL Ai g.ss),Ag b1 66 (DZ m),AQ m.p (CF m.cs)] hz) lfo)) O O O λg2 lg2=>OkE.back (sl (sl (sl (sl (sl sr))))) (OkE.imp O (cP (S:=S) (x:=(cor (Oo m) ((ET m).getD u (0,0,0)).2.1)) (args:=[(aG (B9 fo.o)),(vN u),(vI 1)]) call30 (λw hw=>EO fo.o u 1 Z (by decide) hnr w (Gb (x:=fo.o) (S:=S) hw 12 O (λz hz=>List.mem_append_right [Be g2.x.z.n,Be g2.x.m,Be g2.y.z.n,Be g2.y.m,Ag b8 84 ([(Value.bool false),(Value.slice none 0 0),(Value.slice none 0 0),(Value.bool false),(Value.slice none 0 0),(Value.slice none 0 0),(Value.bool false),(Value.slice none 0 0),(Value.slice none 0 0),(Value.bool false),(Value.slice none 0 0),(Value.slice none 0 0),(Value.bool false),(Value.slice none 0 0),(Value.slice none 0 0),(Value.bool false),(Value.slice none 0 0),(Value.slice none 0 0)]),Ag b7 83 ([(Value.bool false),(Value.slice none 0 0),(Value.slice none 0 0),(Value.bool false),(Value.slice none 0 0),(Value.slice none 0 0)]),Ag b6 51 (Am (cor g.ps (g.ts.getD u (0,0,0)).2.2)),Ag b5 51 (Am (cor g.ps (g.ts.getD u (0,0,0)).2.1)),Ag b4 51 (Am (cor g.ps (g.ts.getD u (0,0,0)).1)),Be g1.z.n,Be g1.m,Ag b3 38 (B9 fo.o),AQ fo.o.a.p (rowsL Ga fo.o.rs),AQ fo.o.b.p (rowsL Ai (ET m)),AQ fo.o.c.p (rowsL Ai fo.ss),Ag b2 30 (CI g.mx),AQ g.mx.a.p (rowsL Am g.ps),AQ g.mx.b.p (rowsL Ai g.ts),AQ g.mx.c.p (rowsL Ai g.ss),Ag b1 66 (DZ m),AQ m.p (CF m.cs)] hz) lfo)) O O O λg3 lg3=>?_))))
    refine OkE.back (sl (sl (sl (sl (sl (sl (sl (sl (sl sr))))))))) (OkE.imp O (cP (S:=S) (x:=(cor (Oo m) ((ET m).getD u (0,0,0)).2.2)) (args:=[(aG (B9 fo.o)),(vN u),(vI 2)]) call30 (λw hw=>EO fo.o u 2 Z (by decide) hnr w (Gb (x:=fo.o) (S:=S) hw 16 O (λz hz=>List.mem_append_right [Be g3.x.z.n,Be g3.x.m,Be g3.y.z.n,Be g3.y.m,Be g2.x.z.n,Be g2.x.m,Be g2.y.z.n,Be g2.y.m,Ag b8 84 ([(Value.bool false),(Value.slice none 0 0),(Value.slice none 0 0),(Value.bool false),(Value.slice none 0 0),(Value.slice none 0 0),(Value.bool false),(Value.slice none 0 0),(Value.slice none 0 0),(Value.bool false),(Value.slice none 0 0),(Value.slice none 0 0),(Value.bool false),(Value.slice none 0 0),(Value.slice none 0 0),(Value.bool false),(Value.slice none 0 0),(Value.slice none 0 0)]),Ag b7 83 ([(Value.bool false),(Value.slice none 0 0),(Value.slice none 0 0),(Value.bool false),(Value.slice none 0 0),(Value.slice none 0 0)]),Ag b6 51 (Am (cor g.ps (g.ts.getD u (0,0,0)).2.2)),Ag b5 51 (Am (cor g.ps (g.ts.getD u (0,0,0)).2.1)),Ag b4 51 (Am (cor g.ps (g.ts.getD u (0,0,0)).1)),Be g1.z.n,Be g1.m,Ag b3 38 (B9 fo.o),AQ fo.o.a.p (rowsL Ga fo.o.rs),AQ fo.o.b.p (rowsL Ai (ET m)),AQ fo.o.c.p (rowsL Ai fo.ss),Ag b2 30 (CI g.mx),AQ g.mx.a.p (rowsL Am g.ps),AQ g.mx.b.p (rowsL Ai g.ts),AQ g.mx.c.p (rowsL Ai g.ss),Ag b1 66 (DZ m),AQ m.p (CF m.cs)] hz) lfo)) O O O λg4 lg4=>OkE.back (sl (sl (sl (sl (sl (sl (sl (sl (sl (sl (sl (sl (sl sr))))))))))))) (Aq (v:=(aG (DE g2++DE g3++DE g4))) O (A6 (zs:=[(Value.bool false),(Value.slice none 0 0),(Value.slice none 0 0),(Value.bool false),(Value.slice none 0 0),(Value.slice none 0 0),(Value.bool false),(Value.slice none 0 0),(Value.slice none 0 0),(Value.bool false),(Value.slice none 0 0),(Value.slice none 0 0),(Value.bool false),(Value.slice none 0 0),(Value.slice none 0 0),(Value.bool false),(Value.slice none 0 0),(Value.slice none 0 0)]) (vs:=DE g2++DE g3++DE g4) (pv:=[(0,(aG (DE g2))),(1,(aG (DE g3))),(2,(aG (DE g4)))]) zeroValue84 underlying84 sizeOf83 O (Ef g2 g3 g4)) (OkE.imp O ?_))))
    refine Eg 12 (off:=0) (vs:=DE g2++DE g3++DE g4) (cs':=DE g2++DE g3++DE g4) (AS O) O sizeOf84 O (OkE.back (sl (sl (sl (sl (sl (sl (sl (sl (sl (sl (sl (sl (sl sr))))))))))))) (OkE.nil (AC.subF (sL [1,5,6,7,8,9,10,12] O) (q2 (BD 16 BO O ?_)))))
    refine AH (v:=(pP b8 0)) (AD (j:=0) O O underlying84 sizeOf83 O (by decide) O) O (Cy 12 (DE g2) Fa O (Cj (args:=[(aG (Am (cor g.ps (g.ts.getD u (0,0,0)).1))),(aG (DE g2))]) (v:=(Value.bool true)) call31 (λw hw=>(by have h9:=Iw (cor g.ps (g.ts.getD u (0,0,0)).1) g2 (Pn hlat _) (Nat.le_trans (hzr _) (by decide)) w (inS hw 8 O lg2) (hT.below hw.out);rw [show decide (cor g.ps (g.ts.getD u (0,0,0)).1=cor (Oo m) ((ET m).getD u (0,0,0)).1)=true from decide_eq_true (by rw [hgt,hgp])] at h9;exact h9)) O (AM O (AE.step (v:=(aG (Am (cor g.ps (g.ts.getD u (0,0,0)).2.1)))) (AB O) (Aj (i:=15) (vs:=Am (cor g.ps (g.ts.getD u (0,0,0)).2.1)) O O BO.a BO.s O O) O (AT O) (AE.step (v:=(pP b8 6)) (AB O) (AD (j:=1) O O underlying84 sizeOf83 O (by decide) O) O (AT O) ?_)))))
    refine AE.step (v:=(aG (DE g3))) (AB O) (Aj (i:=12) (vs:=DE g3) O O Fa.a Fa.s O O) O (AT O) (AE.call (v:=(Value.bool true)) (AB O) (Ao (args:=[(aG (Am (cor g.ps (g.ts.getD u (0,0,0)).2.1))),(aG (DE g3))]) O O call31) (λw hw=>(by have h9:=Iw (cor g.ps (g.ts.getD u (0,0,0)).2.1) g3 (Pn hlat _) (Nat.le_trans (hzr _) (by decide)) w (inS hw 4 O lg3) (hT.below hw.out);rw [show decide (cor g.ps (g.ts.getD u (0,0,0)).2.1=cor (Oo m) ((ET m).getD u (0,0,0)).2.1)=true from decide_eq_true (by rw [hgt,hgp])] at h9;exact h9)) O (AT O) (AH (v:=(Value.bool true)) (Ac O O) O (AM O (AE.step (v:=(aG (Am (cor g.ps (g.ts.getD u (0,0,0)).2.2)))) (AB O) (Aj (i:=14) (vs:=Am (cor g.ps (g.ts.getD u (0,0,0)).2.2)) O O BO.a BO.s O O) O (AT O) (AE.step (v:=(pP b8 12)) (AB O) (AD (j:=2) O O underlying84 sizeOf83 O (by decide) O) O (AT O) ?_)))))
    refine AE.step (v:=(aG (DE g4))) (AB O) (Aj (i:=12) (vs:=DE g4) O O Fa.a Fa.s O O) O (AT O) (AE.call (v:=(Value.bool true)) (AB O) (Ao (args:=[(aG (Am (cor g.ps (g.ts.getD u (0,0,0)).2.2))),(aG (DE g4))]) O O call31) (λw hw=>(by have h9:=Iw (cor g.ps (g.ts.getD u (0,0,0)).2.2) g4 (Pn hlat _) (Nat.le_trans (hzr _) (by decide)) w (inS hw 0 O lg4) (hT.below hw.out);rw [show decide (cor g.ps (g.ts.getD u (0,0,0)).2.2=cor (Oo m) ((ET m).getD u (0,0,0)).2.2)=true from decide_eq_true (by rw [hgt,hgp])] at h9;exact h9)) O (AT O) (AH (v:=(Value.bool true)) (Ac O O) O (AM O (AE.call (v:=(Value.bool true)) (AB O) (Ao (args:=[]) O O call8) (λw hw=>Lc w) O (AT O) (AH (v:=(Value.bool true)) (Ac O O) O ?_)))))
    exact asg' O (AE.nil (AC.subF (sL [1,5,6,7,8,9,10,12,4] O) (AC.then_ (AF.ret (AI O (AY (v:=(Value.bool true)) O) (λw hw=>⟨rfl,hw.out⟩))))))
   ·simp only [Bool.and_eq_true,Bool.or_eq_true,Bool.and_eq_false_iff,Bool.or_eq_false_iff,Bool.not_eq_true',Bool.not_eq_false',decide_eq_true_eq,decide_eq_false_iff_not] at hc3
    exfalso;omega
  ·skip
   refine AF.region (BD 6 Dq O (AM O (Cj call29 (λw hw=>PI g.mx t hv w (inS hw 7 O lg:Ro _ w g.mx)) O (AM O (AH (Aa (v:=(aG (Am (⟨0,0⟩:Pt)))) O O) O ?_)))))
   refine AH (Aa (v:=(aG (Am (⟨0,0⟩:Pt)))) O O) O (AH (Aa (v:=(aG (Am (⟨0,0⟩:Pt)))) O O) O (al E8 O λb4=>al E8 O λb5=>al E8 O λb6=>FN O sizeOf51 O ?_))
   refine Cm O sizeOf51 O (A8 O sizeOf51 O (q3 (sL [1,5,6,7,8,9,10] O) (al UC O λb7=>AE.nil (q2 ?_))))
   refine BD 0 Fa O (BD 0 Fa O (BD 0 Fa O (AH (v:=(aG ([(Value.bool false),(Value.slice none 0 0),(Value.slice none 0 0),(Value.bool false),(Value.slice none 0 0),(Value.slice none 0 0),(Value.bool false),(Value.slice none 0 0),(Value.slice none 0 0),(Value.bool false),(Value.slice none 0 0),(Value.slice none 0 0),(Value.bool false),(Value.slice none 0 0),(Value.slice none 0 0),(Value.bool false),(Value.slice none 0 0),(Value.slice none 0 0)]))) (A6 (zs:=[(Value.bool false),(Value.slice none 0 0),(Value.slice none 0 0),(Value.bool false),(Value.slice none 0 0),(Value.slice none 0 0),(Value.bool false),(Value.slice none 0 0),(Value.slice none 0 0),(Value.bool false),(Value.slice none 0 0),(Value.slice none 0 0),(Value.bool false),(Value.slice none 0 0),(Value.slice none 0 0),(Value.bool false),(Value.slice none 0 0),(Value.slice none 0 0)]) (vs:=[(Value.bool false),(Value.slice none 0 0),(Value.slice none 0 0),(Value.bool false),(Value.slice none 0 0),(Value.slice none 0 0),(Value.bool false),(Value.slice none 0 0),(Value.slice none 0 0),(Value.bool false),(Value.slice none 0 0),(Value.slice none 0 0),(Value.bool false),(Value.slice none 0 0),(Value.slice none 0 0),(Value.bool false),(Value.slice none 0 0),(Value.slice none 0 0)]) (pv:=[(0,(aG ([(Value.bool false),(Value.slice none 0 0),(Value.slice none 0 0),(Value.bool false),(Value.slice none 0 0),(Value.slice none 0 0)]))),(1,(aG ([(Value.bool false),(Value.slice none 0 0),(Value.slice none 0 0),(Value.bool false),(Value.slice none 0 0),(Value.slice none 0 0)]))),(2,(aG ([(Value.bool false),(Value.slice none 0 0),(Value.slice none 0 0),(Value.bool false),(Value.slice none 0 0),(Value.slice none 0 0)])))]) zeroValue84 underlying84 sizeOf83 O O) O (al ar O λb8=>A8 O sizeOf84 O ?_))))
   refine q6 (sL [1,5,6,7,8,9,10,12] O) (q4 (AM O (AH (CU (c:=(decide ((0:Int)<=t))) O O O) O (AM O ?_))))
   refine AE.mid (FM:=[(1,(vI t)),(5,(pP b2 0)),(6,(pP b3 0)),(7,(vN p)),(8,(pP b4 0)),(9,(pP b5 0)),(10,(pP b6 0)),(12,(pP b8 0)),(60,(vI t)),(61,(Value.bool (decide ((0:Int)<=t)))),(62,(Value.bool (decide ((0:Int)<=t)))),(68,(Value.bool ((decide ((0:Int)<=t))&&(decide (t<(((ET m).length:Nat):Int))))))]) (LM:=(Ag b8 84 ([(Value.bool false),(Value.slice none 0 0),(Value.slice none 0 0),(Value.bool false),(Value.slice none 0 0),(Value.slice none 0 0),(Value.bool false),(Value.slice none 0 0),(Value.slice none 0 0),(Value.bool false),(Value.slice none 0 0),(Value.slice none 0 0),(Value.bool false),(Value.slice none 0 0),(Value.slice none 0 0),(Value.bool false),(Value.slice none 0 0),(Value.slice none 0 0)])::Ag b7 83 ([(Value.bool false),(Value.slice none 0 0),(Value.slice none 0 0),(Value.bool false),(Value.slice none 0 0),(Value.slice none 0 0)])::Ag b6 51 (Am (⟨0,0⟩:Pt))::Ag b5 51 (Am (⟨0,0⟩:Pt))::Ag b4 51 (Am (⟨0,0⟩:Pt))::Be g1.z.n::Be g1.m::Ag b3 38 (B9 fo.o)::AQ fo.o.a.p (rowsL Ga fo.o.rs)::AQ fo.o.b.p (rowsL Ai (ET m))::AQ fo.o.c.p (rowsL Ai fo.ss)::Ag b2 30 (CI g.mx)::AQ g.mx.a.p (rowsL Am g.ps)::AQ g.mx.b.p (rowsL Ai g.ts)::AQ g.mx.c.p (rowsL Ai g.ss)::Ag b1 66 (DZ m)::AQ m.p (CF m.cs)::F9 fo.o.rs)) 6 ?_ ?_
   ·rcases Bool.eq_false_or_eq_true (decide ((0:Int)<=t)) with hg2|hg2
    ·skip
     refine AE.retell (k:=62) (u:=Value.bool true) O (by rw [hg2]) ?_
     have hg2':=hg2
     replace hg2':=of_decide_eq_true hg2'
     refine AE.step (v:=(vI t)) (AB O) (Al O) O (AT O) (AE.step (v:=(pP b3 1)) (AB O) (AA O underlying38 O sizeOf23 O) O (AT O) (AE.step (v:=(Value.slice fo.o.b.p ((ET m).length) fo.o.b.c)) (AB O) (AK (i:=7) (v:=(Value.slice fo.o.b.p ((ET m).length) fo.o.b.c)) O O CP.a O) O (AT O) (AE.step (v:=(vN ((ET m).length))) (AB O) (AG O underlying23) O (AT O) (AE.step (v:=(Value.bool (decide (t<(((ET m).length:Nat):Int))))) (AB O) (Ae (c:=(decide (t<(((ET m).length:Nat):Int)))) O O O) O (AT O) (AH (v:=(Value.bool (decide (t<(((ET m).length:Nat):Int))))) (Ac O O) O ?_)))))
     exact AE.nil (AC.mid (sS O (sS O (sS O (sS O (sS O (sS O (sS O (sS O (sS O (sS O (sS (by first|rfl|(rw [hg2];rfl)|rw [hg2]) (sS (by first|rfl|(rw [hg2];rfl)|rw [hg2]) (sN))))))))))))) (List.Sublist.refl _))
    ·skip
     refine AE.retell (k:=62) (u:=Value.bool false) O (by rw [hg2]) ?_
     have hg2':=hg2
     replace hg2':=of_decide_eq_false hg2'
     refine AE.skip (AJ O) O (AT O) (AE.skip (AJ O) O (AT O) (AE.skip (AJ O) O (AT O) (AE.skip (AJ O) O (AT O) (AE.skip (AJ O) O (AT O) (AH (v:=(Value.bool false)) (AP O O) O ?_)))))
     exact AE.nil (AC.mid (sS O (sS O (sS O (sS O (sS O (sS O (sS O (sS O (sS O (sS O (sS (by first|rfl|(rw [hg2];rfl)|rw [hg2]) (sS (by first|rfl|(rw [hg2];rfl)|rw [hg2]) (sN))))))))))))) (List.Sublist.refl _))
   refine AE.nil (AC.subF (sL [1,5,6,7,8,9,10,12,68] O) (AC.then_ ?_))
   refine AF.cond O (λhc3=>?_) (λhc3=>?_)
   ·simp only [Bool.and_eq_true,Bool.or_eq_true,Bool.and_eq_false_iff,Bool.or_eq_false_iff,Bool.not_eq_true',Bool.not_eq_false',decide_eq_true_eq,decide_eq_false_iff_not] at hc3
    exfalso;omega
   ·simp only [Bool.and_eq_true,Bool.or_eq_true,Bool.and_eq_false_iff,Bool.or_eq_false_iff,Bool.not_eq_true',Bool.not_eq_false',decide_eq_true_eq,decide_eq_false_iff_not] at hc3
    refine AF.skip (q2 (BD 4 BO O (AH (v:=(pP b8 0)) (AD (j:=0) O O underlying84 sizeOf83 O (by decide) O) O (Cy 0 ([(Value.bool false),(Value.slice none 0 0),(Value.slice none 0 0),(Value.bool false),(Value.slice none 0 0),(Value.slice none 0 0)]) Fa O (Cj (args:=[(aG (Am (⟨0,0⟩:Pt))),(aG ([(Value.bool false),(Value.slice none 0 0),(Value.slice none 0 0),(Value.bool false),(Value.slice none 0 0),(Value.slice none 0 0)]))]) (v:=(Value.bool true)) call31 (λw hw=>(by have h9:=Iw (S:=cm) (⟨0,0⟩:Pt) cC ⟨by unfold FW;decide +kernel,by unfold FW;decide +kernel⟩ (by decide +kernel) w P4 (hT.below hw.out);rw [show decide ((⟨0,0⟩:Pt)=⟨0,0⟩)=true from decide_eq_true O] at h9;exact h9)) O ?_)))))
    refine AM O (AE.step (v:=(aG (Am (⟨0,0⟩:Pt)))) (AB O) (Aj (i:=3) (vs:=Am (⟨0,0⟩:Pt)) O O BO.a BO.s O O) O (AT O) (AE.step (v:=(pP b8 6)) (AB O) (AD (j:=1) O O underlying84 sizeOf83 O (by decide) O) O (AT O) (AE.step (v:=(aG ([(Value.bool false),(Value.slice none 0 0),(Value.slice none 0 0),(Value.bool false),(Value.slice none 0 0),(Value.slice none 0 0)]))) (AB O) (Aj (i:=0) (vs:=[(Value.bool false),(Value.slice none 0 0),(Value.slice none 0 0),(Value.bool false),(Value.slice none 0 0),(Value.slice none 0 0)]) O O Fa.a Fa.s O O) O (AT O) (AE.call (v:=(Value.bool true)) (AB O) (Ao (args:=[(aG (Am (⟨0,0⟩:Pt))),(aG ([(Value.bool false),(Value.slice none 0 0),(Value.slice none 0 0),(Value.bool false),(Value.slice none 0 0),(Value.slice none 0 0)]))]) O O call31) (λw hw=>(by have h9:=Iw (S:=cm) (⟨0,0⟩:Pt) cC ⟨by unfold FW;decide +kernel,by unfold FW;decide +kernel⟩ (by decide +kernel) w P4 (hT.below hw.out);rw [show decide ((⟨0,0⟩:Pt)=⟨0,0⟩)=true from decide_eq_true O] at h9;exact h9)) O (AT O) (AH (v:=(Value.bool true)) (Ac O O) O ?_)))))
    refine AM O (AE.step (v:=(aG (Am (⟨0,0⟩:Pt)))) (AB O) (Aj (i:=2) (vs:=Am (⟨0,0⟩:Pt)) O O BO.a BO.s O O) O (AT O) (AE.step (v:=(pP b8 12)) (AB O) (AD (j:=2) O O underlying84 sizeOf83 O (by decide) O) O (AT O) (AE.step (v:=(aG ([(Value.bool false),(Value.slice none 0 0),(Value.slice none 0 0),(Value.bool false),(Value.slice none 0 0),(Value.slice none 0 0)]))) (AB O) (Aj (i:=0) (vs:=[(Value.bool false),(Value.slice none 0 0),(Value.slice none 0 0),(Value.bool false),(Value.slice none 0 0),(Value.slice none 0 0)]) O O Fa.a Fa.s O O) O (AT O) (AE.call (v:=(Value.bool true)) (AB O) (Ao (args:=[(aG (Am (⟨0,0⟩:Pt))),(aG ([(Value.bool false),(Value.slice none 0 0),(Value.slice none 0 0),(Value.bool false),(Value.slice none 0 0),(Value.slice none 0 0)]))]) O O call31) (λw hw=>(by have h9:=Iw (S:=cm) (⟨0,0⟩:Pt) cC ⟨by unfold FW;decide +kernel,by unfold FW;decide +kernel⟩ (by decide +kernel) w P4 (hT.below hw.out);rw [show decide ((⟨0,0⟩:Pt)=⟨0,0⟩)=true from decide_eq_true O] at h9;exact h9)) O (AT O) (AH (v:=(Value.bool true)) (Ac O O) O ?_)))))
    refine AM O (AE.call (v:=(Value.bool true)) (AB O) (Ao (args:=[]) O O call8) (λw hw=>Lc w) O (AT O) (AH (v:=(Value.bool true)) (Ac O O) O (asg' O (AE.nil (AC.subF (sL [1,5,6,7,8,9,10,12,4] O) ?_)))))
    exact AC.then_ (AF.ret (AI O (AY (v:=(Value.bool true)) O) (λw hw=>⟨rfl,hw.out⟩)))
end
section
open Go Go.RowKit Go.ChangeShapes Go.WideShapes Go.ChangeAt
theorem Xu:laidOutB Tryz.prog=true:=by kernel_rfl
theorem VX:ownKnob Tryz.prog.godebug=none:=by kernel_rfl
theorem HY {H:Type} {enc:TypeId×Value->H} {P:Program} (hl:laidOutB P=true) {W W':World} {sp:Nat->Bool} (hb:Gj W.heap.size W W') :
    ∀{ts:List TypeId} {vs:List Value} {ds:List (DataW H)} {ps:List MemPlace},(∀t∈ts,P.readableRec t=true/\t<P.types.size)->DataW.TrodAll enc P W 0 (λ_=>true) true ts vs ds ps ->
      (∀p∈ps,p.block<W.heap.size)->(∀p∈ps,sp p.block=true)->DataW.TrodAll enc P W' 0 sp true ts vs ds ps
  | [],_,_,_,_,h,_,_=>by
    obtain ⟨rfl,rfl,rfl⟩:=trodAll_nil h
    exact trodAll_mk0
  | t::ts,_,_,_,hr,h,hlt,hs=>by
    obtain ⟨v,vs1,d,ds1,a,b,rfl,rfl,rfl,h1,h2⟩:=trodAll_cons h
    exact ⟨a,b,WideElems.Trod_stays hl (hr t (by simp)).1 (hr t (by simp)).2 h1 (λx hx=>hb.same (hlt x (by simp [hx]))) (λx hx=>hs x (by simp [hx])),
      HY hl hb (λu hu=>hr u (by simp [hu])) h2 (λp hp=>hlt p (by simp [hp])) (λp hp=>hs p (by simp [hp])),rfl⟩
theorem U8 {H:Type} {enc:TypeId×Value->H} {P:Program} {f:Func} {s:ChangeSpec} {apart fresh handsOn again:Bool} {W W':World} {args:Array Value} {ds:List (DataW H)} {C2:List MemPlace} {tb:TypeId}
    (hW:DataW.Whole enc P f.params.toList s.vars apart W args.toList ds [] C2) (hv:s.vars=[]) (hfn:s.fn H ds=({ results:=[.lit (.bool true)],args:=ds }:Left H))
    (hrt:f.resultTypes=#[tb]) (hu:P.underlying tb=some .bool) (hb:Gj W.heap.size W W') (hl:laidOutB P=true) (hr:∀t∈f.params.toList,P.readableRec t=true/\t<P.types.size) :
    s.post enc P f apart fresh handsOn again W args (.bool true) W':=by
  have hlt:∀p∈C2,p.block<W.heap.size:=λp hp=>hW.lt p hp
  have hW2:=hW
  obtain ⟨pa,q,hA,hV,he,hz,hn⟩:=hW2
  rw [hv] at hV
  obtain ⟨_,rfl⟩:=trodVars_none hV
  simp only [List.append_nil] at he
  subst he
  have hres:∀(b:Nat) (sp:Nat->Bool) (hd:Bool),DataW.TrodAll enc P W' b sp hd f.resultTypes.toList ((Value.bool true).resultList f.resultTypes.size) (s.fn H (ds++[])).results []:=λb sp hd=>by
    rw [hrt,List.append_nil,hfn]
    exact trodAll_mk1 (shut_bool hu _)
  have hargs:∀sp:Nat->Bool,(∀p∈C2,sp p.block=true)->DataW.TrodAll enc P W' 0 sp true f.params.toList args.toList (s.fn H (ds++[])).args C2:=λsp hs=>by
    rw [List.append_nil,hfn]
    exact HY hl hb hr hA hlt hs
  have hvars:∀sp:Nat->Bool,DataW.TrodVars enc P W' sp s.vars (s.fn H (ds++[])).vars []:=λsp=>by
    rw [List.append_nil,hfn,hv];rfl
  have hold:∀p∈C2,(λb=>decide (b<W.heap.size)) p.block=true:=λp hp=>by simpa using hlt p hp
  refine ⟨ds,[],C2,[],C2,[],hW,hres _ _ _,hargs _ hold,hvars _,World.keptBut_mono (λp hp=>⟨hp,Or.inr (by simpa using hp)⟩) (hb.frame (·∈C2)),λ_=>⟨?_,_,_,([]++C2)++[],⟨[]++C2,[],trodAll_append (hargs _ (λ_ _=>rfl)) (hres _ _ _),hvars _,rfl,?_,?_⟩,?_⟩⟩
  · exact ok_one hrt O (okWide_bool_mk hu _)
  · intro b off hp
    have hp':MemPlace.cell b off∈C2:=by simpa using hp
    rw [hb.frozen (hlt _ hp')]
    exact hz b off hp'
  · intro ha
    have:=hn ha
    simpa using this
  · intro p hp _
    simpa using hp
end
end Go.Proofs.YtpgncndhhhllfaaGreatDoor
