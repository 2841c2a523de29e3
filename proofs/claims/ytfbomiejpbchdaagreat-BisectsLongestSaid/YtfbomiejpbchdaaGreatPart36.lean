import Derived.Test.YtfbomiejpbchdaaGreatPart06
import Derived.Test.YtfbomiejpbchdaaGreatPart19
import Derived.Test.YtfbomiejpbchdaaGreatPart25
import Derived.Test.YtfbomiejpbchdaaGreatPart31
import Derived.Test.YtfbomiejpbchdaaGreatPart33
import Derived.Test.YtfbomiejpbchdaaGreatPart35
namespace Go.Proofs.YtfbomiejpbchdaaGreat
open Go Go.RowKit Go.Proofs.Tryz
set_option linter.unusedVariables false
set_option linter.unusedSimpArgs false
section
set_option maxRecDepth 100000
theorem XZ (t:T3) (p:Nat) (y:RX (Af t) 3) (w:World) {S:Nat->Prop} (hy:Ro S w y):Calls prog 181 #[(Value.slice y.p 3 y.c),(vN p)] w (Aq w (vI (S9 t p))):=by
 have ly:=DU (W:=w) hy
 refine A6 (args:=[(Value.slice y.p 3 y.c),(vN p)]) (L:=[AY y.p (Af t)]) func181 O O (Ac O) (DV hy BN) (AF.subF (sL [0,1] O) (q4 (AL O (AE.nil (q1 ?_)))))
 refine q4 (AS O (AH (v:=(vI 3)) (AG O underlying33) O (AS O (AE.nil (AD.subF (sL [0,1,4,7,8] O) ?_)))))
 refine AD.then_ (AF.block (AF.unroll 4 (FO.step (q4 (AH (Ak (c:=true) O O (by decide)) O ?_)))))
 refine AE.nil (q1 (AF.cond_true O (AF.skip (q1 (AF.block ?_)))))
 refine q4 (AS O (AL O (q3 (sL [0,1,4,7,8,5] O) (AS O (AS O ?_)))))
 refine AS O (AH (v:=(pP (pB y.p) (pO y.p+0*1))) (AQ (j:=0) O O y.ok underlying33 sizeOf3 O Z) O (AH (Ap (v:=(vN t.1)) (i:=0) O O (y.ok.ne Z) Bn O) O (AH (BY (c:=(decide (p=t.1))) O O (Oa (a:=p) (b:=t.1))) O (AE.nil (AD.subF (sL [0,1,4,7,8,5,16] O) ?_)))))
 refine AD.then_ ?_
 refine AF.cond O (λhc1=>?_) (λhc1=>?_)
 ·replace hc1:=of_decide_eq_true hc1
  have hr:S9 t p=0:=by unfold S9;rw [if_pos hc1]
  refine q4 (AS O (AL O (AE.nil (AD.subF (sL [0,1,4,7,8,5] O) (AD.then_ ?_)))))
  exact AF.ret (AD.in_ret (AD.then_ret (AD.then_ret (AD.in_ret (AD.then_ret (AR O (Ai (v:=(vI 0)) O) (λw hw=>⟨by rw [hr]<;>rfl,hw.out⟩)))))))
 ·replace hc1:=of_decide_eq_false hc1
  have k0:=hc1
  refine AF.skip (AD.in_normal (AD.then_ (AF.region (AH (AW (c:=(1:Int)) O O (by decide)) O (AS O ?_)))))
  refine AE.nil (AD.subF (sL [0,1,4,7,8,5] O) (AD.again (FO.step (q4 (AH (Ak (c:=true) O O (by decide)) O ?_)))))
  refine AE.nil (q1 (AF.cond_true O (AF.skip (q1 (AF.block ?_)))))
  refine q4 (AS O (AL O (q3 (sL [0,1,4,7,8,5] O) (AS O (AS O ?_)))))
  refine AS O (AH (v:=(pP (pB y.p) (pO y.p+1*1))) (AQ (j:=1) O O y.ok underlying33 sizeOf3 O Z) O (AH (Ap (v:=(vN t.2.1)) (i:=0) O O (y.ok.ne Z) Bn O) O (AH (BY (c:=(decide (p=t.2.1))) O O (Oa (a:=p) (b:=t.2.1))) O (AE.nil (AD.subF (sL [0,1,4,7,8,5,16] O) ?_)))))
  refine AD.then_ ?_
  refine AF.cond O (λhc1=>?_) (λhc1=>?_)
  ·replace hc1:=of_decide_eq_true hc1
   have hr:S9 t p=1:=by unfold S9;rw [if_neg k0,if_pos hc1]
   refine q4 (AS O (AL O (AE.nil (AD.subF (sL [0,1,4,7,8,5] O) (AD.then_ ?_)))))
   exact AF.ret (AD.in_ret (AD.then_ret (AD.then_ret (AD.in_ret (AD.then_ret (AR O (Ai (v:=(vI 1)) O) (λw hw=>⟨by rw [hr]<;>rfl,hw.out⟩)))))))
  ·replace hc1:=of_decide_eq_false hc1
   have k1:=hc1
   refine AF.skip (AD.in_normal (AD.then_ (AF.region (AH (AW (c:=(2:Int)) O O (by decide)) O (AS O ?_)))))
   refine AE.nil (AD.subF (sL [0,1,4,7,8,5] O) (AD.again (FO.step (q4 (AH (Ak (c:=true) O O (by decide)) O ?_)))))
   refine AE.nil (q1 (AF.cond_true O (AF.skip (q1 (AF.block ?_)))))
   refine q4 (AS O (AL O (q3 (sL [0,1,4,7,8,5] O) (AS O (AS O ?_)))))
   refine AS O (AH (v:=(pP (pB y.p) (pO y.p+2*1))) (AQ (j:=2) O O y.ok underlying33 sizeOf3 O Z) O (AH (Ap (v:=(vN t.2.2)) (i:=0) O O (y.ok.ne Z) Bn O) O (AH (BY (c:=(decide (p=t.2.2))) O O (Oa (a:=p) (b:=t.2.2))) O (AE.nil (AD.subF (sL [0,1,4,7,8,5,16] O) ?_)))))
   refine AD.then_ ?_
   refine AF.cond O (λhc1=>?_) (λhc1=>?_)
   ·replace hc1:=of_decide_eq_true hc1
    have hr:S9 t p=2:=by unfold S9;rw [if_neg k0,if_neg k1,if_pos hc1]
    refine q4 (AS O (AL O (AE.nil (AD.subF (sL [0,1,4,7,8,5] O) (AD.then_ ?_)))))
    exact AF.ret (AD.in_ret (AD.then_ret (AD.then_ret (AD.in_ret (AD.then_ret (AR O (Ai (v:=(vI 2)) O) (λw hw=>⟨by rw [hr]<;>rfl,hw.out⟩)))))))
   ·replace hc1:=of_decide_eq_false hc1
    have k2:=hc1
    have hr:S9 t p = -1:=by unfold S9;rw [if_neg k0,if_neg k1,if_neg k2]
    refine AF.skip (AD.in_normal (AD.then_ (AF.region (AH (AW (c:=(3:Int)) O O (by decide)) O (AS O ?_)))))
    refine AE.nil (AD.subF (sL [0,1,4,7,8,5] O) (AD.again (FO.step (q4 (AH (Ak (c:=false) O O (by decide)) O ?_)))))
    refine AE.nil (q1 (AF.cond_false O (AF.exit (AD.then_exit (AD.then_exit ?_)))))
    refine AD.in_exit (q2 (AL O (AE.nil (AD.subF (sL [0,1,4,7,8,5] O) (AD.then_ ?_)))))
    exact AF.ret (AR O (Ai (v:=(vI (-1:Int))) O) (λw hw=>⟨by rw [hr]<;>rfl,hw.out⟩))
theorem U9 (t:T3) (p:Nat) (y:RX (Af t) 3) (w:World) {S:Nat->Prop} (hy:Ro S w y):Calls prog 135 #[(Value.slice y.p 3 y.c),(vN p)] w (Aq w (Value.bool (CS t p))):=by
 have ly:=DU (W:=w) hy
 refine A6 (args:=[(Value.slice y.p 3 y.c),(vN p)]) (L:=[AY y.p (Af t)]) func135 O O (Ac O) (DV hy BN) (AF.subF (sL [0,1] O) (q4 (AL O (AE.nil (q2 ?_)))))
 refine AS O (AS O (Ee call181 (λw hw=>XZ t p y w (Cq hw 0 O ly)) O (AH (DY (c:=(CS t p)) O O (W6 t p)) O (AL O (AE.nil ?_)))))
 exact AD.subF (sL [4] O) (AD.then_ (AF.ret (AR O (Ai (v:=(Value.bool (CS t p))) O) (λw hw=>⟨rfl,hw.out⟩))))
theorem EV (x0:Pt) (x1:Pt) (x2:Pt):Instr.fill (λi=>some (i*10,10)) (HR ((⟨0,0⟩,⟨0,0⟩,⟨0,0⟩):Q3)).toArray [(0,.agg (Am x0).toArray),(1,.agg (Am x1).toArray),(2,.agg (Am x2).toArray)]=some (Am x0++Am x1++Am x2).toArray:=by kernel_rfl
theorem K4 {ps:List Pt} {ts ss:List T3} (x:MX ps ts ss) (t:Nat) (ht:t<ts.length) (htl:ts.length<=1000000) (hp:ps.length<=1000000) (hk:I0 ps.length (ts.getD t (0,0,0))=true) (w:World) {S:Nat->Prop} (hx:Ro S w x):Calls prog 133 #[(aG (Bk x)),(vN t)] w (Aq w (aG (HR (Bs ps (ts.getD t (0,0,0)))))):=by
 obtain ⟨k1,k2,k3⟩:=Cd hk
 obtain ⟨T,hT⟩:∃q,q=ts.getD t (0,0,0):=⟨_,rfl⟩
 rw [<-hT] at k1 k2 k3
 have lx:=DU (W:=w) hx
 refine A6 (args:=[(aG (Bk x)),(vN t)]) (L:=[AY x.a.p (rowsL Am ps),AY x.b.p (rowsL Af ts),AY x.c.p (rowsL Af ss)]) func133 O O (Ac O) (DV hx BN) (AF.subF (sL [0,1] O) (q4 (Bg (cs:=Bk x) O λb1=>al Tw O λb2=>q3 (sL [1,2,4] O) ?_)))
 refine AH (v:=(pP b1 1)) (AA O underlying31 O sizeOf28 O) O (BJ 1 (Value.slice x.b.p ts.length x.b.c) B4 O (AS O (AH (v:=(pP (pB x.b.p) (pO x.b.p+t*3))) (AQ (j:=t) O O x.b.ok underlying28 sizeOf76 O Z) O (AH (v:=(aG (Af (ts.getD t ((0,0,0):Nat×Nat×Nat))))) (AO (vs:=Af (ts.getD t ((0,0,0):Nat×Nat×Nat))) (i:=3) O O (BI.ne x.b.ok Z) Cr (An Ah _ _ _ Z) (Ah _)) O (AE.retell (k:=10) (u:=(aG (Af T))) O (by rw [hT]) ?_)))))
 refine al J3 O λb3=>Aw O sizeOf76 O (q6 (sL [2,4,5] O) (Cm [(0,true),(1,true),(2,true),(3,true),(4,true),(5,true),(6,true),(7,true),(8,true),(9,true),(10,true),(11,true),(12,true),(13,true),(14,true),(15,true),(16,true),(17,true),(18,true),(19,false)] (sk (sl sr)) (Au (v:=(pP b1 0)) O (AA O underlying31 O sizeOf27 O) (Be 1 (Value.slice x.a.p ps.length x.a.c) DG O ?_))))
 refine Au (v:=(pP b3 0)) O (AC (j:=0) O O underlying76 sizeOf3 O (by decide) O) (Be 0 (vN T.1) Bn O (Au (v:=(pP (pB x.a.p) (pO x.a.p+T.1*10))) O (AQ (j:=T.1) O O x.a.ok underlying27 sizeOf55 O Z) (Au (v:=(aG (Am (ps.getD T.1 (⟨0,0⟩:Pt))))) O (AO (vs:=Am (ps.getD T.1 (⟨0,0⟩:Pt))) (i:=2) O O (BI.ne x.a.ok Z) BQ (An BG _ _ _ Z) (BG _)) (Au (v:=(pP b1 0)) O (AA O underlying31 O sizeOf27 O) (Be 1 (Value.slice x.a.p ps.length x.a.c) DG O ?_)))))
 refine Au (v:=(pP b3 1)) O (AC (j:=1) O O underlying76 sizeOf3 O (by decide) O) (Be 0 (vN T.2.1) Bn O (Au (v:=(pP (pB x.a.p) (pO x.a.p+T.2.1*10))) O (AQ (j:=T.2.1) O O x.a.ok underlying27 sizeOf55 O Z) (Au (v:=(aG (Am (ps.getD T.2.1 (⟨0,0⟩:Pt))))) O (AO (vs:=Am (ps.getD T.2.1 (⟨0,0⟩:Pt))) (i:=2) O O (BI.ne x.a.ok Z) BQ (An BG _ _ _ Z) (BG _)) (Au (v:=(pP b1 0)) O (AA O underlying31 O sizeOf27 O) (Be 1 (Value.slice x.a.p ps.length x.a.c) DG O ?_)))))
 refine Au (v:=(pP b3 2)) O (AC (j:=2) O O underlying76 sizeOf3 O (by decide) O) (Be 0 (vN T.2.2) Bn O (Au (v:=(pP (pB x.a.p) (pO x.a.p+T.2.2*10))) O (AQ (j:=T.2.2) O O x.a.ok underlying27 sizeOf55 O Z) (Au (v:=(aG (Am (ps.getD T.2.2 (⟨0,0⟩:Pt))))) O (AO (vs:=Am (ps.getD T.2.2 (⟨0,0⟩:Pt))) (i:=2) O O (BI.ne x.a.ok Z) BQ (An BG _ _ _ Z) (BG _)) (Au (v:=(aG (Am (ps.getD T.1 (⟨0,0⟩:Pt))++Am (ps.getD T.2.1 (⟨0,0⟩:Pt))++Am (ps.getD T.2.2 (⟨0,0⟩:Pt))))) O (Al (zs:=HR ((⟨0,0⟩,⟨0,0⟩,⟨0,0⟩):Q3)) (vs:=Am (ps.getD T.1 (⟨0,0⟩:Pt))++Am (ps.getD T.2.1 (⟨0,0⟩:Pt))++Am (ps.getD T.2.2 (⟨0,0⟩:Pt))) (pv:=[(0,(aG (Am (ps.getD T.1 (⟨0,0⟩:Pt))))),(1,(aG (Am (ps.getD T.2.1 (⟨0,0⟩:Pt))))),(2,(aG (Am (ps.getD T.2.2 (⟨0,0⟩:Pt)))))]) zeroValue212 underlying212 sizeOf55 O (EV (ps.getD T.1 (⟨0,0⟩:Pt)) (ps.getD T.2.1 (⟨0,0⟩:Pt)) (ps.getD T.2.2 (⟨0,0⟩:Pt)))) (AT.imp O ?_)))))
 exact DP O sizeOf212 O (AT.back (sk (sl sr)) (AT.nil (AD.subF (sL [2,4,5] O) (AD.then_ (AF.ret (AR O (Az (i:=1) (cs:=Am (ps.getD T.1 (⟨0,0⟩:Pt))++Am (ps.getD T.2.1 (⟨0,0⟩:Pt))++Am (ps.getD T.2.2 (⟨0,0⟩:Pt))) O O isAgg212 sizeOf212 O) (λw hw=>⟨by rw [<-hT];unfold Bs cor;rw [<-Yl],hw.out⟩)))))))
theorem NC (r p q:Pt) (bp:BX (Am p)) (bq:BX (Am q)) (hs:B5 p+B5 q+B5 r<=10000000) (w:World) {S:Nat->Prop} (hbp:Ro S w bp) (hbq:Ro S w bq):Calls prog 180 #[(aG (Am r)),(pP bp.b 0),(pP bq.b 0)] w (Aq w (Value.bool (NT p q r))):=by
 have lbp:=DU (W:=w) hbp
 have lbq:=DU (W:=w) hbq
 refine A6 (args:=[(aG (Am r)),(pP bp.b 0),(pP bq.b 0)]) (L:=[AY (some ⟨bp.b,0,none⟩) (Am p),AY (some ⟨bq.b,0,none⟩) (Am q)]) func180 O O (Ac O) (DV hbp (DV hbq BN)) (AF.subF (sL [0,1,2] O) (q4 (Bg (cs:=Am r) O λb1=>AL O (q3 (sL [1,2,3,4] O) ?_))))
 refine AH (v:=(aG (Am p))) (AO (q:=some ⟨bp.b,0,none⟩) (vs:=Am p) (off:=0) (i:=1) O O (λe=>by cases e) BQ O O) O (AH (v:=(aG (Am q))) (AO (q:=some ⟨bq.b,0,none⟩) (vs:=Am q) (off:=0) (i:=2) O O (λe=>by cases e) BQ O O) O (BA 0 BQ O (BR call52 (OI p q r Z) O (AH (CW (c:=(NT p q r)) O O O) O (AL O ?_)))))
 exact AE.nil (AD.subF (sL [4] O) (AD.then_ (AF.ret (AR O (Ai (v:=(Value.bool (NT p q r))) O) (λw hw=>⟨rfl,hw.out⟩)))))
theorem X0 (p q:Pt) (B:Q3) (bp:BX (Am p)) (bq:BX (Am q)) (bo:BX (HR B)) (hs:B5 p<=1000000/\B5 q<=1000000) (hB:B5 B.1<=1000000/\B5 B.2.1<=1000000/\B5 B.2.2<=1000000) (w:World) {S:Nat->Prop} (hbp:Ro S w bp) (hbq:Ro S w bq) (hbo:Ro S w bo):Calls prog 231 #[(Value.slice (some ⟨bo.b,0,none⟩) 3 3),(Value.func (.func 180) #[] #[(pP bp.b 0),(pP bq.b 0)])] w (Aq w (vI (Se p q B))):=by
 have lbp:=DU (W:=w) hbp
 have lbq:=DU (W:=w) hbq
 have lbo:=DU (W:=w) hbo
 refine A6 (args:=[(Value.slice (some ⟨bo.b,0,none⟩) 3 3),(Value.func (.func 180) #[] #[(pP bp.b 0),(pP bq.b 0)])]) (L:=[AY (some ⟨bp.b,0,none⟩) (Am p),AY (some ⟨bq.b,0,none⟩) (Am q),AY (some ⟨bo.b,0,none⟩) (HR B)]) func231 O O (Ac O) (DV hbp (DV hbq (DV hbo BN))) (AF.subF (sL [0,1] O) (q4 (AL O (AE.nil (q1 ?_)))))
 refine q4 (AS O (AH (v:=(vI 3)) (AG O underlying27) O (AS O (AE.nil (AD.subF (sL [0,1,4,7,8] O) ?_)))))
 refine AD.then_ (AF.block (AF.unroll 4 (FO.step (q4 (AH (Ak (c:=true) O O (by decide)) O ?_)))))
 refine AE.nil (q1 (AF.cond_true O (AF.skip (q1 (AF.block ?_)))))
 refine q4 (AS O (AL O (q3 (sL [0,1,4,7,8,5] O) (AS O (AS O ?_)))))
 refine AS O (AH (v:=(pP bo.b 0)) (AM (j:=0) O O underlying27 sizeOf55 O Z O) O (AH (v:=(aG (Am B.1))) (AO (q:=some ⟨bo.b,0,none⟩) (vs:=Am B.1) (off:=0) (i:=2) O O (λe=>by cases e) BQ O O) O (AE.call (v:=(Value.bool (NT p q B.1))) (AK O) (Cg (args:=[(aG (Am B.1))]) (caps:=[(pP bp.b 0),(pP bq.b 0)]) (all:=[(aG (Am B.1)),(pP bp.b 0),(pP bq.b 0)]) O O O call180) (λw hw=>NC B.1 p q bp bq Z w (Cq hw 0 O lbp) (Cq hw 1 O lbq)) O (Ac O) (AE.nil (AD.subF (sL [0,1,4,7,8,5,16] O) ?_)))))
 refine AD.then_ ?_
 refine AF.cond O (λhc1=>?_) (λhc1=>?_)
 ·skip
  have hr:Se p q B=0:=by unfold Se;rw [if_pos hc1]
  refine q4 (AS O (AL O (AE.nil (AD.subF (sL [0,1,4,7,8,5] O) (AD.then_ ?_)))))
  exact AF.ret (AD.in_ret (AD.then_ret (AD.then_ret (AD.in_ret (AD.then_ret (AR O (Ai (v:=(vI 0)) O) (λw hw=>⟨by rw [hr]<;>rfl,hw.out⟩)))))))
 ·skip
  have k0:¬NT p q B.1=true:=by simpa using hc1
  refine AF.skip (AD.in_normal (AD.then_ (AF.region (AH (AW (c:=(1:Int)) O O (by decide)) O (AS O ?_)))))
  refine AE.nil (AD.subF (sL [0,1,4,7,8,5] O) (AD.again (FO.step (q4 (AH (Ak (c:=true) O O (by decide)) O ?_)))))
  refine AE.nil (q1 (AF.cond_true O (AF.skip (q1 (AF.block ?_)))))
  refine q4 (AS O (AL O (q3 (sL [0,1,4,7,8,5] O) (AS O (AS O ?_)))))
  refine AS O (AH (v:=(pP bo.b 10)) (AM (j:=1) O O underlying27 sizeOf55 O Z O) O (AH (v:=(aG (Am B.2.1))) (AO (q:=some ⟨bo.b,0,none⟩) (vs:=Am B.2.1) (off:=10) (i:=2) O O (λe=>by cases e) BQ O O) O (AE.call (v:=(Value.bool (NT p q B.2.1))) (AK O) (Cg (args:=[(aG (Am B.2.1))]) (caps:=[(pP bp.b 0),(pP bq.b 0)]) (all:=[(aG (Am B.2.1)),(pP bp.b 0),(pP bq.b 0)]) O O O call180) (λw hw=>NC B.2.1 p q bp bq Z w (Cq hw 0 O lbp) (Cq hw 1 O lbq)) O (Ac O) (AE.nil (AD.subF (sL [0,1,4,7,8,5,16] O) ?_)))))
  refine AD.then_ ?_
  refine AF.cond O (λhc1=>?_) (λhc1=>?_)
  ·skip
   have hr:Se p q B=1:=by unfold Se;rw [if_neg k0,if_pos hc1]
   refine q4 (AS O (AL O (AE.nil (AD.subF (sL [0,1,4,7,8,5] O) (AD.then_ ?_)))))
   exact AF.ret (AD.in_ret (AD.then_ret (AD.then_ret (AD.in_ret (AD.then_ret (AR O (Ai (v:=(vI 1)) O) (λw hw=>⟨by rw [hr]<;>rfl,hw.out⟩)))))))
  ·skip
   have k1:¬NT p q B.2.1=true:=by simpa using hc1
   refine AF.skip (AD.in_normal (AD.then_ (AF.region (AH (AW (c:=(2:Int)) O O (by decide)) O (AS O ?_)))))
   refine AE.nil (AD.subF (sL [0,1,4,7,8,5] O) (AD.again (FO.step (q4 (AH (Ak (c:=true) O O (by decide)) O ?_)))))
   refine AE.nil (q1 (AF.cond_true O (AF.skip (q1 (AF.block ?_)))))
   refine q4 (AS O (AL O (q3 (sL [0,1,4,7,8,5] O) (AS O (AS O ?_)))))
   refine AS O (AH (v:=(pP bo.b 20)) (AM (j:=2) O O underlying27 sizeOf55 O Z O) O (AH (v:=(aG (Am B.2.2))) (AO (q:=some ⟨bo.b,0,none⟩) (vs:=Am B.2.2) (off:=20) (i:=2) O O (λe=>by cases e) BQ O O) O (AE.call (v:=(Value.bool (NT p q B.2.2))) (AK O) (Cg (args:=[(aG (Am B.2.2))]) (caps:=[(pP bp.b 0),(pP bq.b 0)]) (all:=[(aG (Am B.2.2)),(pP bp.b 0),(pP bq.b 0)]) O O O call180) (λw hw=>NC B.2.2 p q bp bq Z w (Cq hw 0 O lbp) (Cq hw 1 O lbq)) O (Ac O) (AE.nil (AD.subF (sL [0,1,4,7,8,5,16] O) ?_)))))
   refine AD.then_ ?_
   refine AF.cond O (λhc1=>?_) (λhc1=>?_)
   ·skip
    have hr:Se p q B=2:=by unfold Se;rw [if_neg k0,if_neg k1,if_pos hc1]
    refine q4 (AS O (AL O (AE.nil (AD.subF (sL [0,1,4,7,8,5] O) (AD.then_ ?_)))))
    exact AF.ret (AD.in_ret (AD.then_ret (AD.then_ret (AD.in_ret (AD.then_ret (AR O (Ai (v:=(vI 2)) O) (λw hw=>⟨by rw [hr]<;>rfl,hw.out⟩)))))))
   ·skip
    have k2:¬NT p q B.2.2=true:=by simpa using hc1
    have hr:Se p q B = -1:=by unfold Se;rw [if_neg k0,if_neg k1,if_neg k2]
    refine AF.skip (AD.in_normal (AD.then_ (AF.region (AH (AW (c:=(3:Int)) O O (by decide)) O (AS O ?_)))))
    refine AE.nil (AD.subF (sL [0,1,4,7,8,5] O) (AD.again (FO.step (q4 (AH (Ak (c:=false) O O (by decide)) O ?_)))))
    refine AE.nil (q1 (AF.cond_false O (AF.exit (AD.then_exit (AD.then_exit ?_)))))
    refine AD.in_exit (q2 (AL O (AE.nil (AD.subF (sL [0,1,4,7,8,5] O) (AD.then_ ?_)))))
    exact AF.ret (AR O (Ai (v:=(vI (-1:Int))) O) (λw hw=>⟨by rw [hr]<;>rfl,hw.out⟩))
theorem NA (p q:Pt) (B:Q3) (bp:BX (Am p)) (bq:BX (Am q)) (bo:BX (HR B)) (hs:B5 p<=1000000/\B5 q<=1000000) (hB:B5 B.1<=1000000/\B5 B.2.1<=1000000/\B5 B.2.2<=1000000) (w:World) {S:Nat->Prop} (hbp:Ro S w bp) (hbq:Ro S w bq) (hbo:Ro S w bo):Calls prog 179 #[(Value.slice (some ⟨bo.b,0,none⟩) 3 3),(Value.func (.func 180) #[] #[(pP bp.b 0),(pP bq.b 0)])] w (Aq w (Value.bool (Fx p q B))):=by
 have lbp:=DU (W:=w) hbp
 have lbq:=DU (W:=w) hbq
 have lbo:=DU (W:=w) hbo
 refine A6 (args:=[(Value.slice (some ⟨bo.b,0,none⟩) 3 3),(Value.func (.func 180) #[] #[(pP bp.b 0),(pP bq.b 0)])]) (L:=[AY (some ⟨bp.b,0,none⟩) (Am p),AY (some ⟨bq.b,0,none⟩) (Am q),AY (some ⟨bo.b,0,none⟩) (HR B)]) func179 O O (Ac O) (DV hbp (DV hbq (DV hbo BN))) (AF.subF (sL [0,1] O) (q4 (AL O (AE.nil (q2 ?_)))))
 refine AS O (AS O (Ee call231 (λw hw=>X0 p q B bp bq bo hs hB w (Cq hw 0 O lbp) (Cq hw 1 O lbq) (Cq hw 2 O lbo)) O (AH (DY (c:=(Fx p q B)) O O (Vq p q B)) O (AL O (AE.nil ?_)))))
 exact AD.subF (sL [4] O) (AD.then_ (AF.ret (AR O (Ai (v:=(Value.bool (Fx p q B))) O) (λw hw=>⟨rfl,hw.out⟩))))
set_option maxHeartbeats 1000000 in
theorem S0 (A B:Q3) (hA:B5 A.1<=1000000/\B5 A.2.1<=1000000/\B5 A.2.2<=1000000) (hB:B5 B.1<=1000000/\B5 B.2.1<=1000000/\B5 B.2.2<=1000000) (w:World)  :Calls prog 134 #[(aG (HR A)),(aG (HR B))] w (Aq w (Value.bool (Em A B))):=by
 refine Ae (args:=[(aG (HR A)),(aG (HR B))]) func134 O O (Ac O) (AF.subF (sL [0,1] O) (q4 (Bg (cs:=HR A) O λb1=>Bg (cs:=HR B) O λb2=>AE.frzX 0 O O λhnb2=>?_)))
 refine AL O (q6 (sL [2,3,4] O) (q4 (AS O (AE.nil (AD.then_ ?_)))))
 refine AF.block (AF.unroll 4 (FO.step (q4 (AH (Ak (c:=true) O O (by decide)) O (AE.nil ?_)))))
 refine q1 (AF.cond_true O (AF.skip (q1 (AF.block (q4 ?_)))))
 refine AS O (AL O (q6 (sL [2,3,4,8,5] O) (rN [(0,true),(1,true),(2,true),(3,true),(4,true),(5,true),(6,true),(7,true)] [⟨8,6,55,Am (⟨0,0⟩:Pt)⟩,⟨9,7,55,Am (⟨0,0⟩:Pt)⟩] [(10,false),(11,false)] sr (by kernel_rfl) (λ_ _ d _ _ h=>by cases d<;>exact h) (HG O O E3 O (HG O O E3 O (JL))) O (O3 O (HZ (v:=(pP b1 0)) O (AC (j:=0) O O underlying212 sizeOf55 O (by decide) O) O ?_)))))
 refine SM 1 (Am A.1) BQ O (O3 O (HZ O (AW (c:=(1:Int)) O O (by decide)) O (HZ O (By (c:=(1:Int)) O O (by decide) (by decide)) O (HZ (v:=(pP b1 10)) O (AC (j:=1) O O underlying212 sizeOf55 O (by decide) O) O (SM 1 (Am A.2.1) BQ O ?_)))))
 refine CY.news2 λb3 b4=>AT.imp O (Aw O sizeOf55 O (AT.back (sl (sl sr)) (AT.imp O (DP O sizeOf55 O ?_))))
 refine AT.back (sl (sl sr)) (AT.nil (AD.subF (sL [2,3,4,8,7,6] O) (q2 (AH (v:=(Value.slice (some ⟨b2,0,none⟩) 3 3)) (FA O underlying212 sizeOf55 (by decide)) O (AE.frzX 0 O O λhnb3=>?_)))))
 refine AE.frzX 1 O O λhnb4=>AH (v:=(Value.func (.func 180) #[] #[(pP b3 0),(pP b4 0)])) (Cu (vs:=[]) (us:=[(pP b3 0),(pP b4 0)]) O O) O (Ee call179 (λw hw=>NA A.1 A.2.1 B ⟨b3⟩ ⟨b4⟩ ⟨b2⟩ Z hB w (UO (S:=λ_=>False) (x:=(⟨b3⟩:BX (Am A.1))) hw 0 O hnb3) (UO (S:=λ_=>False) (x:=(⟨b4⟩:BX (Am A.2.1))) hw 1 O hnb4) (UO (S:=λ_=>False) (x:=(⟨b2⟩:BX (HR B))) hw 2 O hnb2)) O (AH (BZ (c:=(!(Fx A.1 A.2.1 B))) O O) O (AE.nil (AD.subF (sL [2,3,4,8,7,6,22] O) ?_))))
 refine AD.then_ ?_
 refine AF.cond O (λhc1=>?_) (λhc1=>?_)
 ·simp only [Bool.and_eq_true,Bool.or_eq_true,Bool.and_eq_false_iff,Bool.or_eq_false_iff,Bool.not_eq_true',Bool.not_eq_false',decide_eq_true_eq,decide_eq_false_iff_not] at hc1
  have hr:Em A B=true:=by unfold Em;rw [(by simpa using hc1:Fx A.1 A.2.1 B=false)];simp
  refine q4 (AL O (AE.nil (AD.then_ (AF.ret (AD.in_ret ?_)))))
  exact AD.then_ret (AD.then_ret (AD.in_ret (AD.then_ret (AR O (Ai (v:=(Value.bool true)) O) (λw hw=>⟨by rw [hr],hw.out⟩)))))
 ·simp only [Bool.and_eq_true,Bool.or_eq_true,Bool.and_eq_false_iff,Bool.or_eq_false_iff,Bool.not_eq_true',Bool.not_eq_false',decide_eq_true_eq,decide_eq_false_iff_not] at hc1
  have k0:Fx A.1 A.2.1 B=true:=by simpa using hc1
  refine AF.skip (AD.in_normal (AD.then_ (AF.region (AH (AW (c:=(1:Int)) O O (by decide)) O (AS O ?_)))))
  refine AE.nil (AD.subF (sL [2,3,4,8,7,6] O) (AD.again (FO.step (q4 (AH (Ak (c:=true) O O (by decide)) O ?_)))))
  refine AE.nil (q1 (AF.cond_true O (AF.skip (q1 (AF.block ?_)))))
  refine q4 (AS O (AL O (q6 (sL [2,3,4,8,7,6,5] O) (AF.subF (sL [2,3,4,8,5] O) (rN [(0,true),(1,true),(2,true),(3,true),(4,true),(5,true),(6,true),(7,true)] [⟨8,6,55,Am (⟨0,0⟩:Pt)⟩,⟨9,7,55,Am (⟨0,0⟩:Pt)⟩] [(10,false),(11,false)] sr (by kernel_rfl) (λ_ _ d _ _ h=>by cases d<;>exact h) (HG O O E3 O (HG O O E3 O (JL))) O ?_)))))
  refine O3 O (HZ (v:=(pP b1 10)) O (AC (j:=1) O O underlying212 sizeOf55 O (by decide) O) O (SM 3 (Am A.2.1) BQ O (O3 O (HZ O (AW (c:=(2:Int)) O O (by decide)) O (HZ O (By (c:=(2:Int)) O O (by decide) (by decide)) O ?_)))))
  refine HZ (v:=(pP b1 20)) O (AC (j:=2) O O underlying212 sizeOf55 O (by decide) O) O (SM 3 (Am A.2.2) BQ O (CY.news2 λb5 b6=>AT.imp O (Aw O sizeOf55 O (AT.back (sl (sl sr)) ?_))))
  refine AT.imp O (DP O sizeOf55 O (AT.back (sl (sl sr)) (AT.nil (AD.subF (sL [2,3,4,8,7,6] O) (q2 ?_)))))
  refine AH (v:=(Value.slice (some ⟨b2,0,none⟩) 3 3)) (FA O underlying212 sizeOf55 (by decide)) O (AE.frzX 0 O O λhnb5=>AE.frzX 1 O O λhnb6=>AH (v:=(Value.func (.func 180) #[] #[(pP b5 0),(pP b6 0)])) (Cu (vs:=[]) (us:=[(pP b5 0),(pP b6 0)]) O O) O (Ee call179 (λw hw=>NA A.2.1 A.2.2 B ⟨b5⟩ ⟨b6⟩ ⟨b2⟩ Z hB w (UO (S:=λ_=>False) (x:=(⟨b5⟩:BX (Am A.2.1))) hw 0 O hnb5) (UO (S:=λ_=>False) (x:=(⟨b6⟩:BX (Am A.2.2))) hw 1 O hnb6) (UO (S:=λ_=>False) (x:=(⟨b2⟩:BX (HR B))) hw 4 O hnb2)) O (AH (BZ (c:=(!(Fx A.2.1 A.2.2 B))) O O) O ?_)))
  refine AE.nil (AD.subF (sL [2,3,4,8,7,6,22] O) (AD.then_ ?_))
  refine AF.cond O (λhc1=>?_) (λhc1=>?_)
  ·simp only [Bool.and_eq_true,Bool.or_eq_true,Bool.and_eq_false_iff,Bool.or_eq_false_iff,Bool.not_eq_true',Bool.not_eq_false',decide_eq_true_eq,decide_eq_false_iff_not] at hc1
   have hr:Em A B=true:=by unfold Em;rw [k0,(by simpa using hc1:Fx A.2.1 A.2.2 B=false)];simp
   refine q4 (AL O (AE.nil (AD.then_ (AF.ret (AD.in_ret ?_)))))
   exact AD.then_ret (AD.then_ret (AD.in_ret (AD.then_ret (AR O (Ai (v:=(Value.bool true)) O) (λw hw=>⟨by rw [hr],hw.out⟩)))))
  ·simp only [Bool.and_eq_true,Bool.or_eq_true,Bool.and_eq_false_iff,Bool.or_eq_false_iff,Bool.not_eq_true',Bool.not_eq_false',decide_eq_true_eq,decide_eq_false_iff_not] at hc1
   have k1:Fx A.2.1 A.2.2 B=true:=by simpa using hc1
   refine AF.skip (AD.in_normal (AD.then_ (AF.region (AH (AW (c:=(2:Int)) O O (by decide)) O (AS O ?_)))))
   refine AE.nil (AD.subF (sL [2,3,4,8,7,6] O) (AD.again (FO.step (q4 (AH (Ak (c:=true) O O (by decide)) O ?_)))))
   refine AE.nil (q1 (AF.cond_true O (AF.skip (q1 (AF.block ?_)))))
   refine q4 (AS O (AL O (q6 (sL [2,3,4,8,7,6,5] O) (AF.subF (sL [2,3,4,8,5] O) (rN [(0,true),(1,true),(2,true),(3,true),(4,true),(5,true),(6,true),(7,true)] [⟨8,6,55,Am (⟨0,0⟩:Pt)⟩,⟨9,7,55,Am (⟨0,0⟩:Pt)⟩] [(10,false),(11,false)] sr (by kernel_rfl) (λ_ _ d _ _ h=>by cases d<;>exact h) (HG O O E3 O (HG O O E3 O (JL))) O ?_)))))
   refine O3 O (HZ (v:=(pP b1 20)) O (AC (j:=2) O O underlying212 sizeOf55 O (by decide) O) O (SM 5 (Am A.2.2) BQ O (O3 O (HZ O (AW (c:=(3:Int)) O O (by decide)) O (HZ O (By (c:=(0:Int)) O O (by decide) (by decide)) O ?_)))))
   refine HZ (v:=(pP b1 0)) O (AC (j:=0) O O underlying212 sizeOf55 O (by decide) O) O (SM 5 (Am A.1) BQ O (CY.news2 λb7 b8=>AT.imp O (Aw O sizeOf55 O (AT.back (sl (sl sr)) ?_))))
   refine AT.imp O (DP O sizeOf55 O (AT.back (sl (sl sr)) (AT.nil (AD.subF (sL [2,3,4,8,7,6] O) (q2 ?_)))))
   refine AH (v:=(Value.slice (some ⟨b2,0,none⟩) 3 3)) (FA O underlying212 sizeOf55 (by decide)) O (AE.frzX 0 O O λhnb7=>AE.frzX 1 O O λhnb8=>AH (v:=(Value.func (.func 180) #[] #[(pP b7 0),(pP b8 0)])) (Cu (vs:=[]) (us:=[(pP b7 0),(pP b8 0)]) O O) O (Ee call179 (λw hw=>NA A.2.2 A.1 B ⟨b7⟩ ⟨b8⟩ ⟨b2⟩ Z hB w (UO (S:=λ_=>False) (x:=(⟨b7⟩:BX (Am A.2.2))) hw 0 O hnb7) (UO (S:=λ_=>False) (x:=(⟨b8⟩:BX (Am A.1))) hw 1 O hnb8) (UO (S:=λ_=>False) (x:=(⟨b2⟩:BX (HR B))) hw 6 O hnb2)) O (AH (BZ (c:=(!(Fx A.2.2 A.1 B))) O O) O ?_)))
   refine AE.nil (AD.subF (sL [2,3,4,8,7,6,22] O) (AD.then_ ?_))
   refine AF.cond O (λhc1=>?_) (λhc1=>?_)
   ·simp only [Bool.and_eq_true,Bool.or_eq_true,Bool.and_eq_false_iff,Bool.or_eq_false_iff,Bool.not_eq_true',Bool.not_eq_false',decide_eq_true_eq,decide_eq_false_iff_not] at hc1
    have hr:Em A B=true:=by unfold Em;rw [k0,k1,(by simpa using hc1:Fx A.2.2 A.1 B=false)];simp
    refine q4 (AL O (AE.nil (AD.then_ (AF.ret (AD.in_ret ?_)))))
    exact AD.then_ret (AD.then_ret (AD.in_ret (AD.then_ret (AR O (Ai (v:=(Value.bool true)) O) (λw hw=>⟨by rw [hr],hw.out⟩)))))
   ·simp only [Bool.and_eq_true,Bool.or_eq_true,Bool.and_eq_false_iff,Bool.or_eq_false_iff,Bool.not_eq_true',Bool.not_eq_false',decide_eq_true_eq,decide_eq_false_iff_not] at hc1
    have k2:Fx A.2.2 A.1 B=true:=by simpa using hc1
    have hr:Em A B=false:=by unfold Em;rw [k0,k1,k2];rfl
    refine AF.skip (AD.in_normal (AD.then_ (AF.region (AH (AW (c:=(3:Int)) O O (by decide)) O (AS O ?_)))))
    refine AE.nil (AD.subF (sL [2,3,4,8,7,6] O) (AD.again (FO.step (q4 (AH (Ak (c:=false) O O (by decide)) O ?_)))))
    refine AE.nil (q1 (AF.cond_false O (AF.exit (AD.then_exit (AD.then_exit ?_)))))
    refine AD.in_exit (q2 (AL O (AE.nil (AD.subF (sL [2,3,4,8,7,6] O) (AD.then_ ?_)))))
    exact AF.ret (AR O (Ai (v:=(Value.bool false)) O) (λw hw=>⟨by rw [hr],hw.out⟩))
end
end Go.Proofs.YtfbomiejpbchdaaGreat
