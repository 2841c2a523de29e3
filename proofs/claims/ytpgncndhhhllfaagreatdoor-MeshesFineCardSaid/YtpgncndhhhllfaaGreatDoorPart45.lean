import Derived.Test.YtpgncndhhhllfaaGreatDoorPart03
import Derived.Test.YtpgncndhhhllfaaGreatDoorPart17
import Derived.Test.YtpgncndhhhllfaaGreatDoorPart24
import Derived.Test.YtpgncndhhhllfaaGreatDoorPart30
import Derived.Test.YtpgncndhhhllfaaGreatDoorPart44
namespace Go.Proofs.YtpgncndhhhllfaaGreatDoor
open Go Go.RowKit Go.Proofs.Tryz
set_option linter.unusedVariables false
set_option linter.unusedSimpArgs false
section
set_option maxRecDepth 100000
theorem ZI (t:T3) (p:Nat) (y:RX (Ai t) 3) (w:World) {S:Nat->Prop} (hy:Ro S w y):Calls prog 147 #[(Value.slice y.p 3 y.c),(vN p)] w (An w (vI (Vz t p))):=by
 have ly:=Cl (W:=w) hy
 refine Ah (args:=[(Value.slice y.p 3 y.c),(vN p)]) (L:=[AQ y.p (Ai t)]) func147 O O (AT O) (Ed hy Ax) (AF.subF (sL [0,1] O) (q4 (asg' O (AE.nil (q1 ?_)))))
 refine q4 (AM O (AH (v:=(vI 3)) (AG O underlying70) O (AM O (AE.nil (AC.subF (sL [0,1,4,7,8] O) ?_)))))
 refine AC.then_ (AF.block (AF.unroll 4 (FP.step (q4 (AH (Ae (c:=true) O O (by decide)) O ?_)))))
 refine AE.nil (q1 (AF.cond_true O (AF.skip (q1 (AF.block ?_)))))
 refine q4 (AM O (asg' O (q3 (sL [0,1,4,7,8,5] O) (AM O (AM O ?_)))))
 refine AM O (AH (v:=(pP (pB y.p) (pO y.p+0*1))) (AN (j:=0) O O y.ok underlying70 sizeOf3 O Z) O (AH (Ad (v:=(vN t.1)) (i:=0) O O (y.ok.ne Z) Bj O) O (AH (BL (c:=(decide (p=t.1))) O O (Iv (a:=p) (b:=t.1))) O (AE.nil (AC.subF (sL [0,1,4,7,8,5,16] O) ?_)))))
 refine AC.then_ ?_
 refine AF.cond O (λhc1=>?_) (λhc1=>?_)
 ·replace hc1:=of_decide_eq_true hc1
  have hr:Vz t p=0:=by unfold Vz;rw [if_pos hc1]
  refine q4 (AM O (asg' O (AE.nil (AC.subF (sL [0,1,4,7,8,5] O) (AC.then_ ?_)))))
  exact AF.ret (AC.in_ret (AC.then_ret (AC.then_ret (AC.in_ret (AC.then_ret (AI O (AY (v:=(vI 0)) O) (λw hw=>⟨by rw [hr]<;>rfl,hw.out⟩)))))))
 ·replace hc1:=of_decide_eq_false hc1
  have k0:=hc1
  refine AF.skip (AC.in_normal (AC.then_ (AF.region (AH (AW (c:=(1:Int)) O O (by decide)) O (AM O ?_)))))
  refine AE.nil (AC.subF (sL [0,1,4,7,8,5] O) (AC.again (FP.step (q4 (AH (Ae (c:=true) O O (by decide)) O ?_)))))
  refine AE.nil (q1 (AF.cond_true O (AF.skip (q1 (AF.block ?_)))))
  refine q4 (AM O (asg' O (q3 (sL [0,1,4,7,8,5] O) (AM O (AM O ?_)))))
  refine AM O (AH (v:=(pP (pB y.p) (pO y.p+1*1))) (AN (j:=1) O O y.ok underlying70 sizeOf3 O Z) O (AH (Ad (v:=(vN t.2.1)) (i:=0) O O (y.ok.ne Z) Bj O) O (AH (BL (c:=(decide (p=t.2.1))) O O (Iv (a:=p) (b:=t.2.1))) O (AE.nil (AC.subF (sL [0,1,4,7,8,5,16] O) ?_)))))
  refine AC.then_ ?_
  refine AF.cond O (λhc1=>?_) (λhc1=>?_)
  ·replace hc1:=of_decide_eq_true hc1
   have hr:Vz t p=1:=by unfold Vz;rw [if_neg k0,if_pos hc1]
   refine q4 (AM O (asg' O (AE.nil (AC.subF (sL [0,1,4,7,8,5] O) (AC.then_ ?_)))))
   exact AF.ret (AC.in_ret (AC.then_ret (AC.then_ret (AC.in_ret (AC.then_ret (AI O (AY (v:=(vI 1)) O) (λw hw=>⟨by rw [hr]<;>rfl,hw.out⟩)))))))
  ·replace hc1:=of_decide_eq_false hc1
   have k1:=hc1
   refine AF.skip (AC.in_normal (AC.then_ (AF.region (AH (AW (c:=(2:Int)) O O (by decide)) O (AM O ?_)))))
   refine AE.nil (AC.subF (sL [0,1,4,7,8,5] O) (AC.again (FP.step (q4 (AH (Ae (c:=true) O O (by decide)) O ?_)))))
   refine AE.nil (q1 (AF.cond_true O (AF.skip (q1 (AF.block ?_)))))
   refine q4 (AM O (asg' O (q3 (sL [0,1,4,7,8,5] O) (AM O (AM O ?_)))))
   refine AM O (AH (v:=(pP (pB y.p) (pO y.p+2*1))) (AN (j:=2) O O y.ok underlying70 sizeOf3 O Z) O (AH (Ad (v:=(vN t.2.2)) (i:=0) O O (y.ok.ne Z) Bj O) O (AH (BL (c:=(decide (p=t.2.2))) O O (Iv (a:=p) (b:=t.2.2))) O (AE.nil (AC.subF (sL [0,1,4,7,8,5,16] O) ?_)))))
   refine AC.then_ ?_
   refine AF.cond O (λhc1=>?_) (λhc1=>?_)
   ·replace hc1:=of_decide_eq_true hc1
    have hr:Vz t p=2:=by unfold Vz;rw [if_neg k0,if_neg k1,if_pos hc1]
    refine q4 (AM O (asg' O (AE.nil (AC.subF (sL [0,1,4,7,8,5] O) (AC.then_ ?_)))))
    exact AF.ret (AC.in_ret (AC.then_ret (AC.then_ret (AC.in_ret (AC.then_ret (AI O (AY (v:=(vI 2)) O) (λw hw=>⟨by rw [hr]<;>rfl,hw.out⟩)))))))
   ·replace hc1:=of_decide_eq_false hc1
    have k2:=hc1
    have hr:Vz t p = -1:=by unfold Vz;rw [if_neg k0,if_neg k1,if_neg k2]
    refine AF.skip (AC.in_normal (AC.then_ (AF.region (AH (AW (c:=(3:Int)) O O (by decide)) O (AM O ?_)))))
    refine AE.nil (AC.subF (sL [0,1,4,7,8,5] O) (AC.again (FP.step (q4 (AH (Ae (c:=false) O O (by decide)) O ?_)))))
    refine AE.nil (q1 (AF.cond_false O (AF.exit (AC.then_exit (AC.then_exit ?_)))))
    refine AC.in_exit (q2 (asg' O (AE.nil (AC.subF (sL [0,1,4,7,8,5] O) (AC.then_ ?_)))))
    exact AF.ret (AI O (AY (v:=(vI (-1:Int))) O) (λw hw=>⟨by rw [hr]<;>rfl,hw.out⟩))
theorem Tu (t:T3) (p:Nat) (y:RX (Ai t) 3) (w:World) {S:Nat->Prop} (hy:Ro S w y):Calls prog 82 #[(Value.slice y.p 3 y.c),(vN p)] w (An w (Value.bool (CS t p))):=by
 have ly:=Cl (W:=w) hy
 refine Ah (args:=[(Value.slice y.p 3 y.c),(vN p)]) (L:=[AQ y.p (Ai t)]) func82 O O (AT O) (Ed hy Ax) (AF.subF (sL [0,1] O) (q4 (asg' O (AE.nil (q2 ?_)))))
 refine AM O (AM O (Cj call147 (λw hw=>ZI t p y w (inS hw 0 O ly)) O (AH (CU (c:=(CS t p)) O O (Yh t p)) O (asg' O (AE.nil ?_)))))
 exact AC.subF (sL [4] O) (AC.then_ (AF.ret (AI O (AY (v:=(Value.bool (CS t p))) O) (λw hw=>⟨rfl,hw.out⟩))))
theorem EY (x0:Pt) (x1:Pt) (x2:Pt):Instr.fill (λi=>some (i*10,10)) (Hv ((⟨0,0⟩,⟨0,0⟩,⟨0,0⟩):Q3)).toArray [(0,.agg (Am x0).toArray),(1,.agg (Am x1).toArray),(2,.agg (Am x2).toArray)]=some (Am x0++Am x1++Am x2).toArray:=by kernel_rfl
theorem K1 {ps:List Pt} {ts ss:List T3} (x:MX ps ts ss) (t:Nat) (ht:t<ts.length) (htl:ts.length<=1000000) (hp:ps.length<=1000000) (hk:Oc ps.length (ts.getD t (0,0,0))=true) (w:World) {S:Nat->Prop} (hx:Ro S w x):Calls prog 127 #[(aG (CI x)),(vN t)] w (An w (aG (Hv (Bl ps (ts.getD t (0,0,0)))))):=by
 obtain ⟨k1,k2,k3⟩:=De hk
 obtain ⟨T,hT⟩:∃q,q=ts.getD t (0,0,0):=⟨_,rfl⟩
 rw [<-hT] at k1 k2 k3
 have lx:=Cl (W:=w) hx
 refine Ah (args:=[(aG (CI x)),(vN t)]) (L:=[AQ x.a.p (rowsL Am ps),AQ x.b.p (rowsL Ai ts),AQ x.c.p (rowsL Ai ss)]) func127 O O (AT O) (Ed hx Ax) (AF.subF (sL [0,1] O) (q4 (BU (cs:=CI x) O λb1=>al WN O λb2=>q3 (sL [1,2,4] O) ?_)))
 refine AH (v:=(pP b1 1)) (AA O underlying30 O sizeOf23 O) O (BA 1 (Value.slice x.b.p ts.length x.b.c) CP O (AM O (AH (v:=(pP (pB x.b.p) (pO x.b.p+t*3))) (AN (j:=t) O O x.b.ok underlying23 sizeOf53 O Z) O (AH (v:=(aG (Ai (ts.getD t ((0,0,0):Nat×Nat×Nat))))) (AZ (vs:=Ai (ts.getD t ((0,0,0):Nat×Nat×Nat))) (i:=3) O O (BF.ne x.b.ok Z) Gf (A7 Az _ _ _ Z) (Az _)) O (AE.retell (k:=10) (u:=(aG (Ai T))) O (by rw [hT]) ?_)))))
 refine al L1 O λb3=>A8 O sizeOf53 O (q6 (sL [2,4,5] O) (Cd [(0,true),(1,true),(2,true),(3,true),(4,true),(5,true),(6,true),(7,true),(8,true),(9,true),(10,true),(11,true),(12,true),(13,true),(14,true),(15,true),(16,true),(17,true),(18,true),(19,false)] (sk (sl sr)) (Aq (v:=(pP b1 0)) O (AA O underlying30 O sizeOf28 O) (Bd 1 (Value.slice x.a.p ps.length x.a.c) EB O ?_))))
 refine Aq (v:=(pP b3 0)) O (AD (j:=0) O O underlying53 sizeOf3 O (by decide) O) (Bd 0 (vN T.1) Bj O (Aq (v:=(pP (pB x.a.p) (pO x.a.p+T.1*10))) O (AN (j:=T.1) O O x.a.ok underlying28 sizeOf51 O Z) (Aq (v:=(aG (Am (ps.getD T.1 (⟨0,0⟩:Pt))))) O (AZ (vs:=Am (ps.getD T.1 (⟨0,0⟩:Pt))) (i:=2) O O (BF.ne x.a.ok Z) BO (A7 BM _ _ _ Z) (BM _)) (Aq (v:=(pP b1 0)) O (AA O underlying30 O sizeOf28 O) (Bd 1 (Value.slice x.a.p ps.length x.a.c) EB O ?_)))))
 refine Aq (v:=(pP b3 1)) O (AD (j:=1) O O underlying53 sizeOf3 O (by decide) O) (Bd 0 (vN T.2.1) Bj O (Aq (v:=(pP (pB x.a.p) (pO x.a.p+T.2.1*10))) O (AN (j:=T.2.1) O O x.a.ok underlying28 sizeOf51 O Z) (Aq (v:=(aG (Am (ps.getD T.2.1 (⟨0,0⟩:Pt))))) O (AZ (vs:=Am (ps.getD T.2.1 (⟨0,0⟩:Pt))) (i:=2) O O (BF.ne x.a.ok Z) BO (A7 BM _ _ _ Z) (BM _)) (Aq (v:=(pP b1 0)) O (AA O underlying30 O sizeOf28 O) (Bd 1 (Value.slice x.a.p ps.length x.a.c) EB O ?_)))))
 refine Aq (v:=(pP b3 2)) O (AD (j:=2) O O underlying53 sizeOf3 O (by decide) O) (Bd 0 (vN T.2.2) Bj O (Aq (v:=(pP (pB x.a.p) (pO x.a.p+T.2.2*10))) O (AN (j:=T.2.2) O O x.a.ok underlying28 sizeOf51 O Z) (Aq (v:=(aG (Am (ps.getD T.2.2 (⟨0,0⟩:Pt))))) O (AZ (vs:=Am (ps.getD T.2.2 (⟨0,0⟩:Pt))) (i:=2) O O (BF.ne x.a.ok Z) BO (A7 BM _ _ _ Z) (BM _)) (Aq (v:=(aG (Am (ps.getD T.1 (⟨0,0⟩:Pt))++Am (ps.getD T.2.1 (⟨0,0⟩:Pt))++Am (ps.getD T.2.2 (⟨0,0⟩:Pt))))) O (A6 (zs:=Hv ((⟨0,0⟩,⟨0,0⟩,⟨0,0⟩):Q3)) (vs:=Am (ps.getD T.1 (⟨0,0⟩:Pt))++Am (ps.getD T.2.1 (⟨0,0⟩:Pt))++Am (ps.getD T.2.2 (⟨0,0⟩:Pt))) (pv:=[(0,(aG (Am (ps.getD T.1 (⟨0,0⟩:Pt))))),(1,(aG (Am (ps.getD T.2.1 (⟨0,0⟩:Pt))))),(2,(aG (Am (ps.getD T.2.2 (⟨0,0⟩:Pt)))))]) zeroValue207 underlying207 sizeOf51 O (EY (ps.getD T.1 (⟨0,0⟩:Pt)) (ps.getD T.2.1 (⟨0,0⟩:Pt)) (ps.getD T.2.2 (⟨0,0⟩:Pt)))) (OkE.imp O ?_)))))
 exact Cm O sizeOf207 O (OkE.back (sk (sl sr)) (OkE.nil (AC.subF (sL [2,4,5] O) (AC.then_ (AF.ret (AI O (Ap (i:=1) (cs:=Am (ps.getD T.1 (⟨0,0⟩:Pt))++Am (ps.getD T.2.1 (⟨0,0⟩:Pt))++Am (ps.getD T.2.2 (⟨0,0⟩:Pt))) O O isAgg207 sizeOf207 O) (λw hw=>⟨by rw [<-hT];unfold Bl cor;rw [<-bh],hw.out⟩)))))))
theorem NH (r p q:Pt) (bp:BX (Am p)) (bq:BX (Am q)) (hs:B_ p+B_ q+B_ r<=10000000) (w:World) {S:Nat->Prop} (hbp:Ro S w bp) (hbq:Ro S w bq):Calls prog 186 #[(aG (Am r)),(pP bp.b 0),(pP bq.b 0)] w (An w (Value.bool (NY p q r))):=by
 have lbp:=Cl (W:=w) hbp
 have lbq:=Cl (W:=w) hbq
 refine Ah (args:=[(aG (Am r)),(pP bp.b 0),(pP bq.b 0)]) (L:=[AQ (some ⟨bp.b,0,none⟩) (Am p),AQ (some ⟨bq.b,0,none⟩) (Am q)]) func186 O O (AT O) (Ed hbp (Ed hbq Ax)) (AF.subF (sL [0,1,2] O) (q4 (BU (cs:=Am r) O λb1=>asg' O (q3 (sL [1,2,3,4] O) ?_))))
 refine AH (v:=(aG (Am p))) (AZ (q:=some ⟨bp.b,0,none⟩) (vs:=Am p) (off:=0) (i:=1) O O (λe=>by cases e) BO O O) O (AH (v:=(aG (Am q))) (AZ (q:=some ⟨bq.b,0,none⟩) (vs:=Am q) (off:=0) (i:=2) O O (λe=>by cases e) BO O O) O (BD 0 BO O (ck' call121 (IC p q r Z) O (AH (B3 (c:=(NY p q r)) O O O) O (asg' O ?_)))))
 exact AE.nil (AC.subF (sL [4] O) (AC.then_ (AF.ret (AI O (AY (v:=(Value.bool (NY p q r))) O) (λw hw=>⟨rfl,hw.out⟩)))))
theorem aL (p q:Pt) (B:Q3) (bp:BX (Am p)) (bq:BX (Am q)) (bo:BX (Hv B)) (hs:B_ p<=1000000/\B_ q<=1000000) (hB:B_ B.1<=1000000/\B_ B.2.1<=1000000/\B_ B.2.2<=1000000) (w:World) {S:Nat->Prop} (hbp:Ro S w bp) (hbq:Ro S w bq) (hbo:Ro S w bo):Calls prog 243 #[(Value.slice (some ⟨bo.b,0,none⟩) 3 3),(Value.func (.func 186) #[] #[(pP bp.b 0),(pP bq.b 0)])] w (An w (vI (Uo p q B))):=by
 have lbp:=Cl (W:=w) hbp
 have lbq:=Cl (W:=w) hbq
 have lbo:=Cl (W:=w) hbo
 refine Ah (args:=[(Value.slice (some ⟨bo.b,0,none⟩) 3 3),(Value.func (.func 186) #[] #[(pP bp.b 0),(pP bq.b 0)])]) (L:=[AQ (some ⟨bp.b,0,none⟩) (Am p),AQ (some ⟨bq.b,0,none⟩) (Am q),AQ (some ⟨bo.b,0,none⟩) (Hv B)]) func243 O O (AT O) (Ed hbp (Ed hbq (Ed hbo Ax))) (AF.subF (sL [0,1] O) (q4 (asg' O (AE.nil (q1 ?_)))))
 refine q4 (AM O (AH (v:=(vI 3)) (AG O underlying28) O (AM O (AE.nil (AC.subF (sL [0,1,4,7,8] O) ?_)))))
 refine AC.then_ (AF.block (AF.unroll 4 (FP.step (q4 (AH (Ae (c:=true) O O (by decide)) O ?_)))))
 refine AE.nil (q1 (AF.cond_true O (AF.skip (q1 (AF.block ?_)))))
 refine q4 (AM O (asg' O (q3 (sL [0,1,4,7,8,5] O) (AM O (AM O ?_)))))
 refine AM O (AH (v:=(pP bo.b 0)) (AL (j:=0) O O underlying28 sizeOf51 O Z O) O (AH (v:=(aG (Am B.1))) (AZ (q:=some ⟨bo.b,0,none⟩) (vs:=Am B.1) (off:=0) (i:=2) O O (λe=>by cases e) BO O O) O (AE.call (v:=(Value.bool (NY p q B.1))) (AS O) (IG (args:=[(aG (Am B.1))]) (caps:=[(pP bp.b 0),(pP bq.b 0)]) (all:=[(aG (Am B.1)),(pP bp.b 0),(pP bq.b 0)]) O O O call186) (λw hw=>NH B.1 p q bp bq Z w (inS hw 0 O lbp) (inS hw 1 O lbq)) O (AT O) (AE.nil (AC.subF (sL [0,1,4,7,8,5,16] O) ?_)))))
 refine AC.then_ ?_
 refine AF.cond O (λhc1=>?_) (λhc1=>?_)
 ·skip
  have hr:Uo p q B=0:=by unfold Uo;rw [if_pos hc1]
  refine q4 (AM O (asg' O (AE.nil (AC.subF (sL [0,1,4,7,8,5] O) (AC.then_ ?_)))))
  exact AF.ret (AC.in_ret (AC.then_ret (AC.then_ret (AC.in_ret (AC.then_ret (AI O (AY (v:=(vI 0)) O) (λw hw=>⟨by rw [hr]<;>rfl,hw.out⟩)))))))
 ·skip
  have k0:¬NY p q B.1=true:=by simpa using hc1
  refine AF.skip (AC.in_normal (AC.then_ (AF.region (AH (AW (c:=(1:Int)) O O (by decide)) O (AM O ?_)))))
  refine AE.nil (AC.subF (sL [0,1,4,7,8,5] O) (AC.again (FP.step (q4 (AH (Ae (c:=true) O O (by decide)) O ?_)))))
  refine AE.nil (q1 (AF.cond_true O (AF.skip (q1 (AF.block ?_)))))
  refine q4 (AM O (asg' O (q3 (sL [0,1,4,7,8,5] O) (AM O (AM O ?_)))))
  refine AM O (AH (v:=(pP bo.b 10)) (AL (j:=1) O O underlying28 sizeOf51 O Z O) O (AH (v:=(aG (Am B.2.1))) (AZ (q:=some ⟨bo.b,0,none⟩) (vs:=Am B.2.1) (off:=10) (i:=2) O O (λe=>by cases e) BO O O) O (AE.call (v:=(Value.bool (NY p q B.2.1))) (AS O) (IG (args:=[(aG (Am B.2.1))]) (caps:=[(pP bp.b 0),(pP bq.b 0)]) (all:=[(aG (Am B.2.1)),(pP bp.b 0),(pP bq.b 0)]) O O O call186) (λw hw=>NH B.2.1 p q bp bq Z w (inS hw 0 O lbp) (inS hw 1 O lbq)) O (AT O) (AE.nil (AC.subF (sL [0,1,4,7,8,5,16] O) ?_)))))
  refine AC.then_ ?_
  refine AF.cond O (λhc1=>?_) (λhc1=>?_)
  ·skip
   have hr:Uo p q B=1:=by unfold Uo;rw [if_neg k0,if_pos hc1]
   refine q4 (AM O (asg' O (AE.nil (AC.subF (sL [0,1,4,7,8,5] O) (AC.then_ ?_)))))
   exact AF.ret (AC.in_ret (AC.then_ret (AC.then_ret (AC.in_ret (AC.then_ret (AI O (AY (v:=(vI 1)) O) (λw hw=>⟨by rw [hr]<;>rfl,hw.out⟩)))))))
  ·skip
   have k1:¬NY p q B.2.1=true:=by simpa using hc1
   refine AF.skip (AC.in_normal (AC.then_ (AF.region (AH (AW (c:=(2:Int)) O O (by decide)) O (AM O ?_)))))
   refine AE.nil (AC.subF (sL [0,1,4,7,8,5] O) (AC.again (FP.step (q4 (AH (Ae (c:=true) O O (by decide)) O ?_)))))
   refine AE.nil (q1 (AF.cond_true O (AF.skip (q1 (AF.block ?_)))))
   refine q4 (AM O (asg' O (q3 (sL [0,1,4,7,8,5] O) (AM O (AM O ?_)))))
   refine AM O (AH (v:=(pP bo.b 20)) (AL (j:=2) O O underlying28 sizeOf51 O Z O) O (AH (v:=(aG (Am B.2.2))) (AZ (q:=some ⟨bo.b,0,none⟩) (vs:=Am B.2.2) (off:=20) (i:=2) O O (λe=>by cases e) BO O O) O (AE.call (v:=(Value.bool (NY p q B.2.2))) (AS O) (IG (args:=[(aG (Am B.2.2))]) (caps:=[(pP bp.b 0),(pP bq.b 0)]) (all:=[(aG (Am B.2.2)),(pP bp.b 0),(pP bq.b 0)]) O O O call186) (λw hw=>NH B.2.2 p q bp bq Z w (inS hw 0 O lbp) (inS hw 1 O lbq)) O (AT O) (AE.nil (AC.subF (sL [0,1,4,7,8,5,16] O) ?_)))))
   refine AC.then_ ?_
   refine AF.cond O (λhc1=>?_) (λhc1=>?_)
   ·skip
    have hr:Uo p q B=2:=by unfold Uo;rw [if_neg k0,if_neg k1,if_pos hc1]
    refine q4 (AM O (asg' O (AE.nil (AC.subF (sL [0,1,4,7,8,5] O) (AC.then_ ?_)))))
    exact AF.ret (AC.in_ret (AC.then_ret (AC.then_ret (AC.in_ret (AC.then_ret (AI O (AY (v:=(vI 2)) O) (λw hw=>⟨by rw [hr]<;>rfl,hw.out⟩)))))))
   ·skip
    have k2:¬NY p q B.2.2=true:=by simpa using hc1
    have hr:Uo p q B = -1:=by unfold Uo;rw [if_neg k0,if_neg k1,if_neg k2]
    refine AF.skip (AC.in_normal (AC.then_ (AF.region (AH (AW (c:=(3:Int)) O O (by decide)) O (AM O ?_)))))
    refine AE.nil (AC.subF (sL [0,1,4,7,8,5] O) (AC.again (FP.step (q4 (AH (Ae (c:=false) O O (by decide)) O ?_)))))
    refine AE.nil (q1 (AF.cond_false O (AF.exit (AC.then_exit (AC.then_exit ?_)))))
    refine AC.in_exit (q2 (asg' O (AE.nil (AC.subF (sL [0,1,4,7,8,5] O) (AC.then_ ?_)))))
    exact AF.ret (AI O (AY (v:=(vI (-1:Int))) O) (λw hw=>⟨by rw [hr]<;>rfl,hw.out⟩))
theorem NF (p q:Pt) (B:Q3) (bp:BX (Am p)) (bq:BX (Am q)) (bo:BX (Hv B)) (hs:B_ p<=1000000/\B_ q<=1000000) (hB:B_ B.1<=1000000/\B_ B.2.1<=1000000/\B_ B.2.2<=1000000) (w:World) {S:Nat->Prop} (hbp:Ro S w bp) (hbq:Ro S w bq) (hbo:Ro S w bo):Calls prog 185 #[(Value.slice (some ⟨bo.b,0,none⟩) 3 3),(Value.func (.func 186) #[] #[(pP bp.b 0),(pP bq.b 0)])] w (An w (Value.bool (GS p q B))):=by
 have lbp:=Cl (W:=w) hbp
 have lbq:=Cl (W:=w) hbq
 have lbo:=Cl (W:=w) hbo
 refine Ah (args:=[(Value.slice (some ⟨bo.b,0,none⟩) 3 3),(Value.func (.func 186) #[] #[(pP bp.b 0),(pP bq.b 0)])]) (L:=[AQ (some ⟨bp.b,0,none⟩) (Am p),AQ (some ⟨bq.b,0,none⟩) (Am q),AQ (some ⟨bo.b,0,none⟩) (Hv B)]) func185 O O (AT O) (Ed hbp (Ed hbq (Ed hbo Ax))) (AF.subF (sL [0,1] O) (q4 (asg' O (AE.nil (q2 ?_)))))
 refine AM O (AM O (Cj call243 (λw hw=>aL p q B bp bq bo hs hB w (inS hw 0 O lbp) (inS hw 1 O lbq) (inS hw 2 O lbo)) O (AH (CU (c:=(GS p q B)) O O (Xb p q B)) O (asg' O (AE.nil ?_)))))
 exact AC.subF (sL [4] O) (AC.then_ (AF.ret (AI O (AY (v:=(Value.bool (GS p q B))) O) (λw hw=>⟨rfl,hw.out⟩))))
set_option maxHeartbeats 1000000 in
theorem U7 (A B:Q3) (hA:B_ A.1<=1000000/\B_ A.2.1<=1000000/\B_ A.2.2<=1000000) (hB:B_ B.1<=1000000/\B_ B.2.1<=1000000/\B_ B.2.2<=1000000) (w:World)  :Calls prog 128 #[(aG (Hv A)),(aG (Hv B))] w (An w (Value.bool (EW A B))):=by
 refine Af (args:=[(aG (Hv A)),(aG (Hv B))]) func128 O O (AT O) (AF.subF (sL [0,1] O) (q4 (BU (cs:=Hv A) O λb1=>BU (cs:=Hv B) O λb2=>AE.frzX 0 O O λhnb2=>?_)))
 refine asg' O (q6 (sL [2,3,4] O) (q4 (AM O (AE.nil (AC.then_ ?_)))))
 refine AF.block (AF.unroll 4 (FP.step (q4 (AH (Ae (c:=true) O O (by decide)) O (AE.nil ?_)))))
 refine q1 (AF.cond_true O (AF.skip (q1 (AF.block (q4 ?_)))))
 refine AM O (asg' O (q6 (sL [2,3,4,8,5] O) (rN [(0,true),(1,true),(2,true),(3,true),(4,true),(5,true),(6,true),(7,true)] [⟨8,6,51,Am (⟨0,0⟩:Pt)⟩,⟨9,7,51,Am (⟨0,0⟩:Pt)⟩] [(10,false),(11,false)] sr (by kernel_rfl) (λ_ _ d _ _ h=>by cases d<;>exact h) (HV O O E8 O (HV O O E8 O (JV))) O (Pf O (Hq (v:=(pP b1 0)) O (AD (j:=0) O O underlying207 sizeOf51 O (by decide) O) O ?_)))))
 refine U6 1 (Am A.1) BO O (Pf O (Hq O (AW (c:=(1:Int)) O O (by decide)) O (Hq O (Bs (c:=(1:Int)) O O (by decide) (by decide)) O (Hq (v:=(pP b1 10)) O (AD (j:=1) O O underlying207 sizeOf51 O (by decide) O) O (U6 1 (Am A.2.1) BO O ?_)))))
 refine Ci.news2 λb3 b4=>OkE.imp O (A8 O sizeOf51 O (OkE.back (sl (sl sr)) (OkE.imp O (Cm O sizeOf51 O ?_))))
 refine OkE.back (sl (sl sr)) (OkE.nil (AC.subF (sL [2,3,4,8,7,6] O) (q2 (AH (v:=(Value.slice (some ⟨b2,0,none⟩) 3 3)) (D0 O underlying207 sizeOf51 (by decide)) O (AE.frzX 0 O O λhnb3=>?_)))))
 refine AE.frzX 1 O O λhnb4=>AH (v:=(Value.func (.func 186) #[] #[(pP b3 0),(pP b4 0)])) (FV (vs:=[]) (us:=[(pP b3 0),(pP b4 0)]) O O) O (Cj call185 (λw hw=>NF A.1 A.2.1 B ⟨b3⟩ ⟨b4⟩ ⟨b2⟩ Z hB w (Ww (S:=λ_=>False) (x:=(⟨b3⟩:BX (Am A.1))) hw 0 O hnb3) (Ww (S:=λ_=>False) (x:=(⟨b4⟩:BX (Am A.2.1))) hw 1 O hnb4) (Ww (S:=λ_=>False) (x:=(⟨b2⟩:BX (Hv B))) hw 2 O hnb2)) O (AH (BQ (c:=(!(GS A.1 A.2.1 B))) O O) O (AE.nil (AC.subF (sL [2,3,4,8,7,6,22] O) ?_))))
 refine AC.then_ ?_
 refine AF.cond O (λhc1=>?_) (λhc1=>?_)
 ·simp only [Bool.and_eq_true,Bool.or_eq_true,Bool.and_eq_false_iff,Bool.or_eq_false_iff,Bool.not_eq_true',Bool.not_eq_false',decide_eq_true_eq,decide_eq_false_iff_not] at hc1
  have hr:EW A B=true:=by unfold EW;rw [(by simpa using hc1:GS A.1 A.2.1 B=false)];simp
  refine q4 (asg' O (AE.nil (AC.then_ (AF.ret (AC.in_ret ?_)))))
  exact AC.then_ret (AC.then_ret (AC.in_ret (AC.then_ret (AI O (AY (v:=(Value.bool true)) O) (λw hw=>⟨by rw [hr],hw.out⟩)))))
 ·simp only [Bool.and_eq_true,Bool.or_eq_true,Bool.and_eq_false_iff,Bool.or_eq_false_iff,Bool.not_eq_true',Bool.not_eq_false',decide_eq_true_eq,decide_eq_false_iff_not] at hc1
  have k0:GS A.1 A.2.1 B=true:=by simpa using hc1
  refine AF.skip (AC.in_normal (AC.then_ (AF.region (AH (AW (c:=(1:Int)) O O (by decide)) O (AM O ?_)))))
  refine AE.nil (AC.subF (sL [2,3,4,8,7,6] O) (AC.again (FP.step (q4 (AH (Ae (c:=true) O O (by decide)) O ?_)))))
  refine AE.nil (q1 (AF.cond_true O (AF.skip (q1 (AF.block ?_)))))
  refine q4 (AM O (asg' O (q6 (sL [2,3,4,8,7,6,5] O) (AF.subF (sL [2,3,4,8,5] O) (rN [(0,true),(1,true),(2,true),(3,true),(4,true),(5,true),(6,true),(7,true)] [⟨8,6,51,Am (⟨0,0⟩:Pt)⟩,⟨9,7,51,Am (⟨0,0⟩:Pt)⟩] [(10,false),(11,false)] sr (by kernel_rfl) (λ_ _ d _ _ h=>by cases d<;>exact h) (HV O O E8 O (HV O O E8 O (JV))) O ?_)))))
  refine Pf O (Hq (v:=(pP b1 10)) O (AD (j:=1) O O underlying207 sizeOf51 O (by decide) O) O (U6 3 (Am A.2.1) BO O (Pf O (Hq O (AW (c:=(2:Int)) O O (by decide)) O (Hq O (Bs (c:=(2:Int)) O O (by decide) (by decide)) O ?_)))))
  refine Hq (v:=(pP b1 20)) O (AD (j:=2) O O underlying207 sizeOf51 O (by decide) O) O (U6 3 (Am A.2.2) BO O (Ci.news2 λb5 b6=>OkE.imp O (A8 O sizeOf51 O (OkE.back (sl (sl sr)) ?_))))
  refine OkE.imp O (Cm O sizeOf51 O (OkE.back (sl (sl sr)) (OkE.nil (AC.subF (sL [2,3,4,8,7,6] O) (q2 ?_)))))
  refine AH (v:=(Value.slice (some ⟨b2,0,none⟩) 3 3)) (D0 O underlying207 sizeOf51 (by decide)) O (AE.frzX 0 O O λhnb5=>AE.frzX 1 O O λhnb6=>AH (v:=(Value.func (.func 186) #[] #[(pP b5 0),(pP b6 0)])) (FV (vs:=[]) (us:=[(pP b5 0),(pP b6 0)]) O O) O (Cj call185 (λw hw=>NF A.2.1 A.2.2 B ⟨b5⟩ ⟨b6⟩ ⟨b2⟩ Z hB w (Ww (S:=λ_=>False) (x:=(⟨b5⟩:BX (Am A.2.1))) hw 0 O hnb5) (Ww (S:=λ_=>False) (x:=(⟨b6⟩:BX (Am A.2.2))) hw 1 O hnb6) (Ww (S:=λ_=>False) (x:=(⟨b2⟩:BX (Hv B))) hw 4 O hnb2)) O (AH (BQ (c:=(!(GS A.2.1 A.2.2 B))) O O) O ?_)))
  refine AE.nil (AC.subF (sL [2,3,4,8,7,6,22] O) (AC.then_ ?_))
  refine AF.cond O (λhc1=>?_) (λhc1=>?_)
  ·simp only [Bool.and_eq_true,Bool.or_eq_true,Bool.and_eq_false_iff,Bool.or_eq_false_iff,Bool.not_eq_true',Bool.not_eq_false',decide_eq_true_eq,decide_eq_false_iff_not] at hc1
   have hr:EW A B=true:=by unfold EW;rw [k0,(by simpa using hc1:GS A.2.1 A.2.2 B=false)];simp
   refine q4 (asg' O (AE.nil (AC.then_ (AF.ret (AC.in_ret ?_)))))
   exact AC.then_ret (AC.then_ret (AC.in_ret (AC.then_ret (AI O (AY (v:=(Value.bool true)) O) (λw hw=>⟨by rw [hr],hw.out⟩)))))
  ·simp only [Bool.and_eq_true,Bool.or_eq_true,Bool.and_eq_false_iff,Bool.or_eq_false_iff,Bool.not_eq_true',Bool.not_eq_false',decide_eq_true_eq,decide_eq_false_iff_not] at hc1
   have k1:GS A.2.1 A.2.2 B=true:=by simpa using hc1
   refine AF.skip (AC.in_normal (AC.then_ (AF.region (AH (AW (c:=(2:Int)) O O (by decide)) O (AM O ?_)))))
   refine AE.nil (AC.subF (sL [2,3,4,8,7,6] O) (AC.again (FP.step (q4 (AH (Ae (c:=true) O O (by decide)) O ?_)))))
   refine AE.nil (q1 (AF.cond_true O (AF.skip (q1 (AF.block ?_)))))
   refine q4 (AM O (asg' O (q6 (sL [2,3,4,8,7,6,5] O) (AF.subF (sL [2,3,4,8,5] O) (rN [(0,true),(1,true),(2,true),(3,true),(4,true),(5,true),(6,true),(7,true)] [⟨8,6,51,Am (⟨0,0⟩:Pt)⟩,⟨9,7,51,Am (⟨0,0⟩:Pt)⟩] [(10,false),(11,false)] sr (by kernel_rfl) (λ_ _ d _ _ h=>by cases d<;>exact h) (HV O O E8 O (HV O O E8 O (JV))) O ?_)))))
   refine Pf O (Hq (v:=(pP b1 20)) O (AD (j:=2) O O underlying207 sizeOf51 O (by decide) O) O (U6 5 (Am A.2.2) BO O (Pf O (Hq O (AW (c:=(3:Int)) O O (by decide)) O (Hq O (Bs (c:=(0:Int)) O O (by decide) (by decide)) O ?_)))))
   refine Hq (v:=(pP b1 0)) O (AD (j:=0) O O underlying207 sizeOf51 O (by decide) O) O (U6 5 (Am A.1) BO O (Ci.news2 λb7 b8=>OkE.imp O (A8 O sizeOf51 O (OkE.back (sl (sl sr)) ?_))))
   refine OkE.imp O (Cm O sizeOf51 O (OkE.back (sl (sl sr)) (OkE.nil (AC.subF (sL [2,3,4,8,7,6] O) (q2 ?_)))))
   refine AH (v:=(Value.slice (some ⟨b2,0,none⟩) 3 3)) (D0 O underlying207 sizeOf51 (by decide)) O (AE.frzX 0 O O λhnb7=>AE.frzX 1 O O λhnb8=>AH (v:=(Value.func (.func 186) #[] #[(pP b7 0),(pP b8 0)])) (FV (vs:=[]) (us:=[(pP b7 0),(pP b8 0)]) O O) O (Cj call185 (λw hw=>NF A.2.2 A.1 B ⟨b7⟩ ⟨b8⟩ ⟨b2⟩ Z hB w (Ww (S:=λ_=>False) (x:=(⟨b7⟩:BX (Am A.2.2))) hw 0 O hnb7) (Ww (S:=λ_=>False) (x:=(⟨b8⟩:BX (Am A.1))) hw 1 O hnb8) (Ww (S:=λ_=>False) (x:=(⟨b2⟩:BX (Hv B))) hw 6 O hnb2)) O (AH (BQ (c:=(!(GS A.2.2 A.1 B))) O O) O ?_)))
   refine AE.nil (AC.subF (sL [2,3,4,8,7,6,22] O) (AC.then_ ?_))
   refine AF.cond O (λhc1=>?_) (λhc1=>?_)
   ·simp only [Bool.and_eq_true,Bool.or_eq_true,Bool.and_eq_false_iff,Bool.or_eq_false_iff,Bool.not_eq_true',Bool.not_eq_false',decide_eq_true_eq,decide_eq_false_iff_not] at hc1
    have hr:EW A B=true:=by unfold EW;rw [k0,k1,(by simpa using hc1:GS A.2.2 A.1 B=false)];simp
    refine q4 (asg' O (AE.nil (AC.then_ (AF.ret (AC.in_ret ?_)))))
    exact AC.then_ret (AC.then_ret (AC.in_ret (AC.then_ret (AI O (AY (v:=(Value.bool true)) O) (λw hw=>⟨by rw [hr],hw.out⟩)))))
   ·simp only [Bool.and_eq_true,Bool.or_eq_true,Bool.and_eq_false_iff,Bool.or_eq_false_iff,Bool.not_eq_true',Bool.not_eq_false',decide_eq_true_eq,decide_eq_false_iff_not] at hc1
    have k2:GS A.2.2 A.1 B=true:=by simpa using hc1
    have hr:EW A B=false:=by unfold EW;rw [k0,k1,k2];rfl
    refine AF.skip (AC.in_normal (AC.then_ (AF.region (AH (AW (c:=(3:Int)) O O (by decide)) O (AM O ?_)))))
    refine AE.nil (AC.subF (sL [2,3,4,8,7,6] O) (AC.again (FP.step (q4 (AH (Ae (c:=false) O O (by decide)) O ?_)))))
    refine AE.nil (q1 (AF.cond_false O (AF.exit (AC.then_exit (AC.then_exit ?_)))))
    refine AC.in_exit (q2 (asg' O (AE.nil (AC.subF (sL [2,3,4,8,7,6] O) (AC.then_ ?_)))))
    exact AF.ret (AI O (AY (v:=(Value.bool false)) O) (λw hw=>⟨by rw [hr],hw.out⟩))
end
end Go.Proofs.YtpgncndhhhllfaaGreatDoor
