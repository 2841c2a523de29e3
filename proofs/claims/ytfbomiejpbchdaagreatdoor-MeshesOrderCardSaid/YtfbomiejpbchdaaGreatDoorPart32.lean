import Derived.Test.YtfbomiejpbchdaaGreatDoorPart06
import Derived.Test.YtfbomiejpbchdaaGreatDoorPart20
import Derived.Test.YtfbomiejpbchdaaGreatDoorPart27
import Derived.Test.YtfbomiejpbchdaaGreatDoorPart29
import Derived.Test.YtfbomiejpbchdaaGreatDoorPart31
namespace Go.Proofs.YtfbomiejpbchdaaGreatDoor
open Go Go.RowKit Go.Proofs.Tryz
set_option linter.unusedVariables false
set_option linter.unusedSimpArgs false
section
set_option maxRecDepth 100000
theorem WO (t:T3) (p:Nat) (y:RX (Am t) 3) (w:World) {S:Nat->Prop} (hy:Ro S w y):Calls prog 113 #[(Value.slice y.p 3 y.c),(vN p)] w (Ak w (vI (TR t p))):=by
 have ly:=Ep (W:=w) hy
 refine BF (args:=[(Value.slice y.p 3 y.c),(vN p)]) (L:=[Ah y.p (Am t)]) func113 O O (Ad O) (En hy BQ) (AF.subF (sL [0,1] O) (q4 (AJ O (AE.nil (q1 ?_)))))
 refine q4 (AP O (AH (v:=(vI 3)) (AG O underlying71) O (AP O (AE.nil (AD.subF (sL [0,1,4,7,8] O) ?_)))))
 refine AD.then_ (AF.block (AF.unroll 4 (FL.step (q4 (AH (Af (c:=true) O O (by decide)) O ?_)))))
 refine AE.nil (q1 (AF.cond_true O (AF.skip (q1 (AF.block ?_)))))
 refine q4 (AP O (AJ O (q3 (sL [0,1,4,7,8,5] O) (AP O (AP O ?_)))))
 refine AP O (AH (v:=(pP (pB y.p) (pO y.p+0*1))) (AR (j:=0) O O y.ok underlying71 sizeOf3 O Z) O (AH (Av (v:=(vN t.1)) (i:=0) O O (y.ok.ne Z) B7 O) O (AH (BZ (c:=(decide (p=t.1))) O O (NU (a:=p) (b:=t.1))) O (AE.nil (AD.subF (sL [0,1,4,7,8,5,16] O) ?_)))))
 refine AD.then_ ?_
 refine AF.cond O (λhc1=>?_) (λhc1=>?_)
 ·replace hc1:=of_decide_eq_true hc1
  have hr:TR t p=0:=by unfold TR;rw [if_pos hc1]
  refine q4 (AP O (AJ O (AE.nil (AD.subF (sL [0,1,4,7,8,5] O) (AD.then_ ?_)))))
  exact AF.ret (AD.in_ret (AD.then_ret (AD.then_ret (AD.in_ret (AD.then_ret (AN O (Ac (v:=(vI 0)) O) (λw hw=>⟨by rw [hr]<;>rfl,hw.out⟩)))))))
 ·replace hc1:=of_decide_eq_false hc1
  have k0:=hc1
  refine AF.skip (AD.in_normal (AD.then_ (AF.region (AH (AX (c:=(1:Int)) O O (by decide)) O (AP O ?_)))))
  refine AE.nil (AD.subF (sL [0,1,4,7,8,5] O) (AD.again (FL.step (q4 (AH (Af (c:=true) O O (by decide)) O ?_)))))
  refine AE.nil (q1 (AF.cond_true O (AF.skip (q1 (AF.block ?_)))))
  refine q4 (AP O (AJ O (q3 (sL [0,1,4,7,8,5] O) (AP O (AP O ?_)))))
  refine AP O (AH (v:=(pP (pB y.p) (pO y.p+1*1))) (AR (j:=1) O O y.ok underlying71 sizeOf3 O Z) O (AH (Av (v:=(vN t.2.1)) (i:=0) O O (y.ok.ne Z) B7 O) O (AH (BZ (c:=(decide (p=t.2.1))) O O (NU (a:=p) (b:=t.2.1))) O (AE.nil (AD.subF (sL [0,1,4,7,8,5,16] O) ?_)))))
  refine AD.then_ ?_
  refine AF.cond O (λhc1=>?_) (λhc1=>?_)
  ·replace hc1:=of_decide_eq_true hc1
   have hr:TR t p=1:=by unfold TR;rw [if_neg k0,if_pos hc1]
   refine q4 (AP O (AJ O (AE.nil (AD.subF (sL [0,1,4,7,8,5] O) (AD.then_ ?_)))))
   exact AF.ret (AD.in_ret (AD.then_ret (AD.then_ret (AD.in_ret (AD.then_ret (AN O (Ac (v:=(vI 1)) O) (λw hw=>⟨by rw [hr]<;>rfl,hw.out⟩)))))))
  ·replace hc1:=of_decide_eq_false hc1
   have k1:=hc1
   refine AF.skip (AD.in_normal (AD.then_ (AF.region (AH (AX (c:=(2:Int)) O O (by decide)) O (AP O ?_)))))
   refine AE.nil (AD.subF (sL [0,1,4,7,8,5] O) (AD.again (FL.step (q4 (AH (Af (c:=true) O O (by decide)) O ?_)))))
   refine AE.nil (q1 (AF.cond_true O (AF.skip (q1 (AF.block ?_)))))
   refine q4 (AP O (AJ O (q3 (sL [0,1,4,7,8,5] O) (AP O (AP O ?_)))))
   refine AP O (AH (v:=(pP (pB y.p) (pO y.p+2*1))) (AR (j:=2) O O y.ok underlying71 sizeOf3 O Z) O (AH (Av (v:=(vN t.2.2)) (i:=0) O O (y.ok.ne Z) B7 O) O (AH (BZ (c:=(decide (p=t.2.2))) O O (NU (a:=p) (b:=t.2.2))) O (AE.nil (AD.subF (sL [0,1,4,7,8,5,16] O) ?_)))))
   refine AD.then_ ?_
   refine AF.cond O (λhc1=>?_) (λhc1=>?_)
   ·replace hc1:=of_decide_eq_true hc1
    have hr:TR t p=2:=by unfold TR;rw [if_neg k0,if_neg k1,if_pos hc1]
    refine q4 (AP O (AJ O (AE.nil (AD.subF (sL [0,1,4,7,8,5] O) (AD.then_ ?_)))))
    exact AF.ret (AD.in_ret (AD.then_ret (AD.then_ret (AD.in_ret (AD.then_ret (AN O (Ac (v:=(vI 2)) O) (λw hw=>⟨by rw [hr]<;>rfl,hw.out⟩)))))))
   ·replace hc1:=of_decide_eq_false hc1
    have k2:=hc1
    have hr:TR t p = -1:=by unfold TR;rw [if_neg k0,if_neg k1,if_neg k2]
    refine AF.skip (AD.in_normal (AD.then_ (AF.region (AH (AX (c:=(3:Int)) O O (by decide)) O (AP O ?_)))))
    refine AE.nil (AD.subF (sL [0,1,4,7,8,5] O) (AD.again (FL.step (q4 (AH (Af (c:=false) O O (by decide)) O ?_)))))
    refine AE.nil (q1 (AF.cond_false O (AF.exit (AD.then_exit (AD.then_exit ?_)))))
    refine AD.in_exit (q2 (AJ O (AE.nil (AD.subF (sL [0,1,4,7,8,5] O) (AD.then_ ?_)))))
    exact AF.ret (AN O (Ac (v:=(vI (-1:Int))) O) (λw hw=>⟨by rw [hr]<;>rfl,hw.out⟩))
theorem TW (t:T3) (p:Nat) (y:RX (Am t) 3) (w:World) {S:Nat->Prop} (hy:Ro S w y):Calls prog 61 #[(Value.slice y.p 3 y.c),(vN p)] w (Ak w (Value.bool (B_ t p))):=by
 have ly:=Ep (W:=w) hy
 refine BF (args:=[(Value.slice y.p 3 y.c),(vN p)]) (L:=[Ah y.p (Am t)]) func61 O O (Ad O) (En hy BQ) (AF.subF (sL [0,1] O) (q4 (AJ O (AE.nil (q2 ?_)))))
 refine AP O (AP O (Ef call113 (λw hw=>WO t p y w (D_ hw 0 O ly)) O (AH (EV (c:=(B_ t p)) O O (Um t p)) O (AJ O (AE.nil ?_)))))
 exact AD.subF (sL [4] O) (AD.then_ (AF.ret (AN O (Ac (v:=(Value.bool (B_ t p))) O) (λw hw=>⟨rfl,hw.out⟩))))
theorem Dt (x0:Pt) (x1:Pt) (x2:Pt):Instr.fill (λi=>some (i*10,10)) (Gy ((⟨0,0⟩,⟨0,0⟩,⟨0,0⟩):Q3)).toArray [(0,.agg (Aj x0).toArray),(1,.agg (Aj x1).toArray),(2,.agg (Aj x2).toArray)]=some (Aj x0++Aj x1++Aj x2).toArray:=by kernel_rfl
theorem Jc {ps:List Pt} {ts ss:List T3} (x:MX ps ts ss) (t:Nat) (ht:t<ts.length) (htl:ts.length<=1000000) (hp:ps.length<=1000000) (hk:J3 ps.length (ts.getD t (0,0,0))=true) (w:World) {S:Nat->Prop} (hx:Ro S w x):Calls prog 123 #[(aG (Cm x)),(vN t)] w (Ak w (aG (Gy (BW ps (ts.getD t (0,0,0)))))):=by
 obtain ⟨k1,k2,k3⟩:=DG hk
 obtain ⟨T,hT⟩:∃q,q=ts.getD t (0,0,0):=⟨_,rfl⟩
 rw [<-hT] at k1 k2 k3
 have lx:=Ep (W:=w) hx
 refine BF (args:=[(aG (Cm x)),(vN t)]) (L:=[Ah x.a.p (rowsL Aj ps),Ah x.b.p (rowsL Am ts),Ah x.c.p (rowsL Am ss)]) func123 O O (Ad O) (En hx BQ) (AF.subF (sL [0,1] O) (q4 (Bk (cs:=Cm x) O λb1=>al Q8 O λb2=>q3 (sL [1,2,4] O) ?_)))
 refine AH (v:=(pP b1 1)) (AA O underlying30 O sizeOf23 O) O (BN 1 (Value.slice x.b.p ts.length x.b.c) C_ O (AP O (AH (v:=(pP (pB x.b.p) (pO x.b.p+t*3))) (AR (j:=t) O O x.b.ok underlying23 sizeOf79 O Z) O (AH (v:=(aG (Am (ts.getD t ((0,0,0):Nat×Nat×Nat))))) (AY (vs:=Am (ts.getD t ((0,0,0):Nat×Nat×Nat))) (i:=3) O O (BL.ne x.b.ok Z) Ie (Ar BC _ _ _ Z) (BC _)) O (AE.retell (k:=10) (u:=(aG (Am T))) O (by rw [hT]) ?_)))))
 refine al Lp O λb3=>Aq O sizeOf79 O (q6 (sL [2,4,5] O) (DA [(0,true),(1,true),(2,true),(3,true),(4,true),(5,true),(6,true),(7,true),(8,true),(9,true),(10,true),(11,true),(12,true),(13,true),(14,true),(15,true),(16,true),(17,true),(18,true),(19,false)] (sk (sl sr)) (Aw (v:=(pP b1 0)) O (AA O underlying30 O sizeOf28 O) (Bi 1 (Value.slice x.a.p ps.length x.a.c) Di O ?_))))
 refine Aw (v:=(pP b3 0)) O (AC (j:=0) O O underlying79 sizeOf3 O (by decide) O) (Bi 0 (vN T.1) B7 O (Aw (v:=(pP (pB x.a.p) (pO x.a.p+T.1*10))) O (AR (j:=T.1) O O x.a.ok underlying28 sizeOf63 O Z) (Aw (v:=(aG (Aj (ps.getD T.1 (⟨0,0⟩:Pt))))) O (AY (vs:=Aj (ps.getD T.1 (⟨0,0⟩:Pt))) (i:=2) O O (BL.ne x.a.ok Z) BR (Ar BJ _ _ _ Z) (BJ _)) (Aw (v:=(pP b1 0)) O (AA O underlying30 O sizeOf28 O) (Bi 1 (Value.slice x.a.p ps.length x.a.c) Di O ?_)))))
 refine Aw (v:=(pP b3 1)) O (AC (j:=1) O O underlying79 sizeOf3 O (by decide) O) (Bi 0 (vN T.2.1) B7 O (Aw (v:=(pP (pB x.a.p) (pO x.a.p+T.2.1*10))) O (AR (j:=T.2.1) O O x.a.ok underlying28 sizeOf63 O Z) (Aw (v:=(aG (Aj (ps.getD T.2.1 (⟨0,0⟩:Pt))))) O (AY (vs:=Aj (ps.getD T.2.1 (⟨0,0⟩:Pt))) (i:=2) O O (BL.ne x.a.ok Z) BR (Ar BJ _ _ _ Z) (BJ _)) (Aw (v:=(pP b1 0)) O (AA O underlying30 O sizeOf28 O) (Bi 1 (Value.slice x.a.p ps.length x.a.c) Di O ?_)))))
 refine Aw (v:=(pP b3 2)) O (AC (j:=2) O O underlying79 sizeOf3 O (by decide) O) (Bi 0 (vN T.2.2) B7 O (Aw (v:=(pP (pB x.a.p) (pO x.a.p+T.2.2*10))) O (AR (j:=T.2.2) O O x.a.ok underlying28 sizeOf63 O Z) (Aw (v:=(aG (Aj (ps.getD T.2.2 (⟨0,0⟩:Pt))))) O (AY (vs:=Aj (ps.getD T.2.2 (⟨0,0⟩:Pt))) (i:=2) O O (BL.ne x.a.ok Z) BR (Ar BJ _ _ _ Z) (BJ _)) (Aw (v:=(aG (Aj (ps.getD T.1 (⟨0,0⟩:Pt))++Aj (ps.getD T.2.1 (⟨0,0⟩:Pt))++Aj (ps.getD T.2.2 (⟨0,0⟩:Pt))))) O (Ao (zs:=Gy ((⟨0,0⟩,⟨0,0⟩,⟨0,0⟩):Q3)) (vs:=Aj (ps.getD T.1 (⟨0,0⟩:Pt))++Aj (ps.getD T.2.1 (⟨0,0⟩:Pt))++Aj (ps.getD T.2.2 (⟨0,0⟩:Pt))) (pv:=[(0,(aG (Aj (ps.getD T.1 (⟨0,0⟩:Pt))))),(1,(aG (Aj (ps.getD T.2.1 (⟨0,0⟩:Pt))))),(2,(aG (Aj (ps.getD T.2.2 (⟨0,0⟩:Pt)))))]) zeroValue201 underlying201 sizeOf63 O (Dt (ps.getD T.1 (⟨0,0⟩:Pt)) (ps.getD T.2.1 (⟨0,0⟩:Pt)) (ps.getD T.2.2 (⟨0,0⟩:Pt)))) (AS.imp O ?_)))))
 exact C9 O sizeOf201 O (AS.back (sk (sl sr)) (AS.nil (AD.subF (sL [2,4,5] O) (AD.then_ (AF.ret (AN O (A7 (i:=1) (cs:=Aj (ps.getD T.1 (⟨0,0⟩:Pt))++Aj (ps.getD T.2.1 (⟨0,0⟩:Pt))++Aj (ps.getD T.2.2 (⟨0,0⟩:Pt))) O O isAgg201 sizeOf201 O) (λw hw=>⟨by rw [<-hT];unfold BW cor;rw [<-XL],hw.out⟩)))))))
theorem MR (r p q:Pt) (bp:BX (Aj p)) (bq:BX (Aj q)) (hs:CG p+CG q+CG r<=10000000) (w:World) {S:Nat->Prop} (hbp:Ro S w bp) (hbq:Ro S w bq):Calls prog 157 #[(aG (Aj r)),(pP bp.b 0),(pP bq.b 0)] w (Ak w (Value.bool (KN p q r))):=by
 have lbp:=Ep (W:=w) hbp
 have lbq:=Ep (W:=w) hbq
 refine BF (args:=[(aG (Aj r)),(pP bp.b 0),(pP bq.b 0)]) (L:=[Ah (some ⟨bp.b,0,none⟩) (Aj p),Ah (some ⟨bq.b,0,none⟩) (Aj q)]) func157 O O (Ad O) (En hbp (En hbq BQ)) (AF.subF (sL [0,1,2] O) (q4 (Bk (cs:=Aj r) O λb1=>AJ O (q3 (sL [1,2,3,4] O) ?_))))
 refine AH (v:=(aG (Aj p))) (AY (q:=some ⟨bp.b,0,none⟩) (vs:=Aj p) (off:=0) (i:=1) O O (λe=>by cases e) BR O O) O (AH (v:=(aG (Aj q))) (AY (q:=some ⟨bq.b,0,none⟩) (vs:=Aj q) (off:=0) (i:=2) O O (λe=>by cases e) BR O O) O (BE 0 BR O (BS call117 (HR p q r Z) O (AH (Cx (c:=(KN p q r)) O O O) O (AJ O ?_)))))
 exact AE.nil (AD.subF (sL [4] O) (AD.then_ (AF.ret (AN O (Ac (v:=(Value.bool (KN p q r))) O) (λw hw=>⟨rfl,hw.out⟩)))))
theorem V5 (p q:Pt) (B:Q3) (bp:BX (Aj p)) (bq:BX (Aj q)) (bo:BX (Gy B)) (hs:CG p<=1000000/\CG q<=1000000) (hB:CG B.1<=1000000/\CG B.2.1<=1000000/\CG B.2.2<=1000000) (w:World) {S:Nat->Prop} (hbp:Ro S w bp) (hbq:Ro S w bq) (hbo:Ro S w bo):Calls prog 205 #[(Value.slice (some ⟨bo.b,0,none⟩) 3 3),(Value.func (.func 157) #[] #[(pP bp.b 0),(pP bq.b 0)])] w (Ak w (vI (Sr p q B))):=by
 have lbp:=Ep (W:=w) hbp
 have lbq:=Ep (W:=w) hbq
 have lbo:=Ep (W:=w) hbo
 refine BF (args:=[(Value.slice (some ⟨bo.b,0,none⟩) 3 3),(Value.func (.func 157) #[] #[(pP bp.b 0),(pP bq.b 0)])]) (L:=[Ah (some ⟨bp.b,0,none⟩) (Aj p),Ah (some ⟨bq.b,0,none⟩) (Aj q),Ah (some ⟨bo.b,0,none⟩) (Gy B)]) func205 O O (Ad O) (En hbp (En hbq (En hbo BQ))) (AF.subF (sL [0,1] O) (q4 (AJ O (AE.nil (q1 ?_)))))
 refine q4 (AP O (AH (v:=(vI 3)) (AG O underlying28) O (AP O (AE.nil (AD.subF (sL [0,1,4,7,8] O) ?_)))))
 refine AD.then_ (AF.block (AF.unroll 4 (FL.step (q4 (AH (Af (c:=true) O O (by decide)) O ?_)))))
 refine AE.nil (q1 (AF.cond_true O (AF.skip (q1 (AF.block ?_)))))
 refine q4 (AP O (AJ O (q3 (sL [0,1,4,7,8,5] O) (AP O (AP O ?_)))))
 refine AP O (AH (v:=(pP bo.b 0)) (AI (j:=0) O O underlying28 sizeOf63 O Z O) O (AH (v:=(aG (Aj B.1))) (AY (q:=some ⟨bo.b,0,none⟩) (vs:=Aj B.1) (off:=0) (i:=2) O O (λe=>by cases e) BR O O) O (AE.call (v:=(Value.bool (KN p q B.1))) (AQ O) (HX (args:=[(aG (Aj B.1))]) (caps:=[(pP bp.b 0),(pP bq.b 0)]) (all:=[(aG (Aj B.1)),(pP bp.b 0),(pP bq.b 0)]) O O O call157) (λw hw=>MR B.1 p q bp bq Z w (D_ hw 0 O lbp) (D_ hw 1 O lbq)) O (Ad O) (AE.nil (AD.subF (sL [0,1,4,7,8,5,16] O) ?_)))))
 refine AD.then_ ?_
 refine AF.cond O (λhc1=>?_) (λhc1=>?_)
 ·skip
  have hr:Sr p q B=0:=by unfold Sr;rw [if_pos hc1]
  refine q4 (AP O (AJ O (AE.nil (AD.subF (sL [0,1,4,7,8,5] O) (AD.then_ ?_)))))
  exact AF.ret (AD.in_ret (AD.then_ret (AD.then_ret (AD.in_ret (AD.then_ret (AN O (Ac (v:=(vI 0)) O) (λw hw=>⟨by rw [hr]<;>rfl,hw.out⟩)))))))
 ·skip
  have k0:¬KN p q B.1=true:=by simpa using hc1
  refine AF.skip (AD.in_normal (AD.then_ (AF.region (AH (AX (c:=(1:Int)) O O (by decide)) O (AP O ?_)))))
  refine AE.nil (AD.subF (sL [0,1,4,7,8,5] O) (AD.again (FL.step (q4 (AH (Af (c:=true) O O (by decide)) O ?_)))))
  refine AE.nil (q1 (AF.cond_true O (AF.skip (q1 (AF.block ?_)))))
  refine q4 (AP O (AJ O (q3 (sL [0,1,4,7,8,5] O) (AP O (AP O ?_)))))
  refine AP O (AH (v:=(pP bo.b 10)) (AI (j:=1) O O underlying28 sizeOf63 O Z O) O (AH (v:=(aG (Aj B.2.1))) (AY (q:=some ⟨bo.b,0,none⟩) (vs:=Aj B.2.1) (off:=10) (i:=2) O O (λe=>by cases e) BR O O) O (AE.call (v:=(Value.bool (KN p q B.2.1))) (AQ O) (HX (args:=[(aG (Aj B.2.1))]) (caps:=[(pP bp.b 0),(pP bq.b 0)]) (all:=[(aG (Aj B.2.1)),(pP bp.b 0),(pP bq.b 0)]) O O O call157) (λw hw=>MR B.2.1 p q bp bq Z w (D_ hw 0 O lbp) (D_ hw 1 O lbq)) O (Ad O) (AE.nil (AD.subF (sL [0,1,4,7,8,5,16] O) ?_)))))
  refine AD.then_ ?_
  refine AF.cond O (λhc1=>?_) (λhc1=>?_)
  ·skip
   have hr:Sr p q B=1:=by unfold Sr;rw [if_neg k0,if_pos hc1]
   refine q4 (AP O (AJ O (AE.nil (AD.subF (sL [0,1,4,7,8,5] O) (AD.then_ ?_)))))
   exact AF.ret (AD.in_ret (AD.then_ret (AD.then_ret (AD.in_ret (AD.then_ret (AN O (Ac (v:=(vI 1)) O) (λw hw=>⟨by rw [hr]<;>rfl,hw.out⟩)))))))
  ·skip
   have k1:¬KN p q B.2.1=true:=by simpa using hc1
   refine AF.skip (AD.in_normal (AD.then_ (AF.region (AH (AX (c:=(2:Int)) O O (by decide)) O (AP O ?_)))))
   refine AE.nil (AD.subF (sL [0,1,4,7,8,5] O) (AD.again (FL.step (q4 (AH (Af (c:=true) O O (by decide)) O ?_)))))
   refine AE.nil (q1 (AF.cond_true O (AF.skip (q1 (AF.block ?_)))))
   refine q4 (AP O (AJ O (q3 (sL [0,1,4,7,8,5] O) (AP O (AP O ?_)))))
   refine AP O (AH (v:=(pP bo.b 20)) (AI (j:=2) O O underlying28 sizeOf63 O Z O) O (AH (v:=(aG (Aj B.2.2))) (AY (q:=some ⟨bo.b,0,none⟩) (vs:=Aj B.2.2) (off:=20) (i:=2) O O (λe=>by cases e) BR O O) O (AE.call (v:=(Value.bool (KN p q B.2.2))) (AQ O) (HX (args:=[(aG (Aj B.2.2))]) (caps:=[(pP bp.b 0),(pP bq.b 0)]) (all:=[(aG (Aj B.2.2)),(pP bp.b 0),(pP bq.b 0)]) O O O call157) (λw hw=>MR B.2.2 p q bp bq Z w (D_ hw 0 O lbp) (D_ hw 1 O lbq)) O (Ad O) (AE.nil (AD.subF (sL [0,1,4,7,8,5,16] O) ?_)))))
   refine AD.then_ ?_
   refine AF.cond O (λhc1=>?_) (λhc1=>?_)
   ·skip
    have hr:Sr p q B=2:=by unfold Sr;rw [if_neg k0,if_neg k1,if_pos hc1]
    refine q4 (AP O (AJ O (AE.nil (AD.subF (sL [0,1,4,7,8,5] O) (AD.then_ ?_)))))
    exact AF.ret (AD.in_ret (AD.then_ret (AD.then_ret (AD.in_ret (AD.then_ret (AN O (Ac (v:=(vI 2)) O) (λw hw=>⟨by rw [hr]<;>rfl,hw.out⟩)))))))
   ·skip
    have k2:¬KN p q B.2.2=true:=by simpa using hc1
    have hr:Sr p q B = -1:=by unfold Sr;rw [if_neg k0,if_neg k1,if_neg k2]
    refine AF.skip (AD.in_normal (AD.then_ (AF.region (AH (AX (c:=(3:Int)) O O (by decide)) O (AP O ?_)))))
    refine AE.nil (AD.subF (sL [0,1,4,7,8,5] O) (AD.again (FL.step (q4 (AH (Af (c:=false) O O (by decide)) O ?_)))))
    refine AE.nil (q1 (AF.cond_false O (AF.exit (AD.then_exit (AD.then_exit ?_)))))
    refine AD.in_exit (q2 (AJ O (AE.nil (AD.subF (sL [0,1,4,7,8,5] O) (AD.then_ ?_)))))
    exact AF.ret (AN O (Ac (v:=(vI (-1:Int))) O) (λw hw=>⟨by rw [hr]<;>rfl,hw.out⟩))
theorem MT (p q:Pt) (B:Q3) (bp:BX (Aj p)) (bq:BX (Aj q)) (bo:BX (Gy B)) (hs:CG p<=1000000/\CG q<=1000000) (hB:CG B.1<=1000000/\CG B.2.1<=1000000/\CG B.2.2<=1000000) (w:World) {S:Nat->Prop} (hbp:Ro S w bp) (hbq:Ro S w bq) (hbo:Ro S w bo):Calls prog 156 #[(Value.slice (some ⟨bo.b,0,none⟩) 3 3),(Value.func (.func 157) #[] #[(pP bp.b 0),(pP bq.b 0)])] w (Ak w (Value.bool (D0 p q B))):=by
 have lbp:=Ep (W:=w) hbp
 have lbq:=Ep (W:=w) hbq
 have lbo:=Ep (W:=w) hbo
 refine BF (args:=[(Value.slice (some ⟨bo.b,0,none⟩) 3 3),(Value.func (.func 157) #[] #[(pP bp.b 0),(pP bq.b 0)])]) (L:=[Ah (some ⟨bp.b,0,none⟩) (Aj p),Ah (some ⟨bq.b,0,none⟩) (Aj q),Ah (some ⟨bo.b,0,none⟩) (Gy B)]) func156 O O (Ad O) (En hbp (En hbq (En hbo BQ))) (AF.subF (sL [0,1] O) (q4 (AJ O (AE.nil (q2 ?_)))))
 refine AP O (AP O (Ef call205 (λw hw=>V5 p q B bp bq bo hs hB w (D_ hw 0 O lbp) (D_ hw 1 O lbq) (D_ hw 2 O lbo)) O (AH (EV (c:=(D0 p q B)) O O (VB p q B)) O (AJ O (AE.nil ?_)))))
 exact AD.subF (sL [4] O) (AD.then_ (AF.ret (AN O (Ac (v:=(Value.bool (D0 p q B))) O) (λw hw=>⟨rfl,hw.out⟩))))
set_option maxHeartbeats 1000000 in
theorem Rz (A B:Q3) (hA:CG A.1<=1000000/\CG A.2.1<=1000000/\CG A.2.2<=1000000) (hB:CG B.1<=1000000/\CG B.2.1<=1000000/\CG B.2.2<=1000000) (w:World)  :Calls prog 124 #[(aG (Gy A)),(aG (Gy B))] w (Ak w (Value.bool (DM A B))):=by
 refine Ab (args:=[(aG (Gy A)),(aG (Gy B))]) func124 O O (Ad O) (AF.subF (sL [0,1] O) (q4 (Bk (cs:=Gy A) O λb1=>Bk (cs:=Gy B) O λb2=>AE.frzX 0 O O λhnb2=>?_)))
 refine AJ O (q6 (sL [2,3,4] O) (q4 (AP O (AE.nil (AD.then_ ?_)))))
 refine AF.block (AF.unroll 4 (FL.step (q4 (AH (Af (c:=true) O O (by decide)) O (AE.nil ?_)))))
 refine q1 (AF.cond_true O (AF.skip (q1 (AF.block (q4 ?_)))))
 refine AP O (AJ O (q6 (sL [2,3,4,8,5] O) (rN [(0,true),(1,true),(2,true),(3,true),(4,true),(5,true),(6,true),(7,true)] [⟨8,6,63,Aj (⟨0,0⟩:Pt)⟩,⟨9,7,63,Aj (⟨0,0⟩:Pt)⟩] [(10,false),(11,false)] sr (by kernel_rfl) (λ_ _ d _ _ h=>by cases d<;>exact h) (Gg O O HL O (Gg O O HL O (Ig))) O (Nq O (HA (v:=(pP b1 0)) O (AC (j:=0) O O underlying201 sizeOf63 O (by decide) O) O ?_)))))
 refine SC 1 (Aj A.1) BR O (Nq O (HA O (AX (c:=(1:Int)) O O (by decide)) O (HA O (Bo (c:=(1:Int)) O O (by decide) (by decide)) O (HA (v:=(pP b1 10)) O (AC (j:=1) O O underlying201 sizeOf63 O (by decide) O) O (SC 1 (Aj A.2.1) BR O ?_)))))
 refine CO.news2 λb3 b4=>AS.imp O (Aq O sizeOf63 O (AS.back (sl (sl sr)) (AS.imp O (C9 O sizeOf63 O ?_))))
 refine AS.back (sl (sl sr)) (AS.nil (AD.subF (sL [2,3,4,8,7,6] O) (q2 (AH (v:=(Value.slice (some ⟨b2,0,none⟩) 3 3)) (ET O underlying201 sizeOf63 (by decide)) O (AE.frzX 0 O O λhnb3=>?_)))))
 refine AE.frzX 1 O O λhnb4=>AH (v:=(Value.func (.func 157) #[] #[(pP b3 0),(pP b4 0)])) (Em (vs:=[]) (us:=[(pP b3 0),(pP b4 0)]) O O) O (Ef call156 (λw hw=>MT A.1 A.2.1 B ⟨b3⟩ ⟨b4⟩ ⟨b2⟩ Z hB w (Tf (S:=λ_=>False) (x:=(⟨b3⟩:BX (Aj A.1))) hw 0 O hnb3) (Tf (S:=λ_=>False) (x:=(⟨b4⟩:BX (Aj A.2.1))) hw 1 O hnb4) (Tf (S:=λ_=>False) (x:=(⟨b2⟩:BX (Gy B))) hw 2 O hnb2)) O (AH (BY (c:=(!(D0 A.1 A.2.1 B))) O O) O (AE.nil (AD.subF (sL [2,3,4,8,7,6,22] O) ?_))))
 refine AD.then_ ?_
 refine AF.cond O (λhc1=>?_) (λhc1=>?_)
 ·simp only [Bool.and_eq_true,Bool.or_eq_true,Bool.and_eq_false_iff,Bool.or_eq_false_iff,Bool.not_eq_true',Bool.not_eq_false',decide_eq_true_eq,decide_eq_false_iff_not] at hc1
  have hr:DM A B=true:=by unfold DM;rw [(by simpa using hc1:D0 A.1 A.2.1 B=false)];simp
  refine q4 (AJ O (AE.nil (AD.then_ (AF.ret (AD.in_ret ?_)))))
  exact AD.then_ret (AD.then_ret (AD.in_ret (AD.then_ret (AN O (Ac (v:=(Value.bool true)) O) (λw hw=>⟨by rw [hr],hw.out⟩)))))
 ·simp only [Bool.and_eq_true,Bool.or_eq_true,Bool.and_eq_false_iff,Bool.or_eq_false_iff,Bool.not_eq_true',Bool.not_eq_false',decide_eq_true_eq,decide_eq_false_iff_not] at hc1
  have k0:D0 A.1 A.2.1 B=true:=by simpa using hc1
  refine AF.skip (AD.in_normal (AD.then_ (AF.region (AH (AX (c:=(1:Int)) O O (by decide)) O (AP O ?_)))))
  refine AE.nil (AD.subF (sL [2,3,4,8,7,6] O) (AD.again (FL.step (q4 (AH (Af (c:=true) O O (by decide)) O ?_)))))
  refine AE.nil (q1 (AF.cond_true O (AF.skip (q1 (AF.block ?_)))))
  refine q4 (AP O (AJ O (q6 (sL [2,3,4,8,7,6,5] O) (AF.subF (sL [2,3,4,8,5] O) (rN [(0,true),(1,true),(2,true),(3,true),(4,true),(5,true),(6,true),(7,true)] [⟨8,6,63,Aj (⟨0,0⟩:Pt)⟩,⟨9,7,63,Aj (⟨0,0⟩:Pt)⟩] [(10,false),(11,false)] sr (by kernel_rfl) (λ_ _ d _ _ h=>by cases d<;>exact h) (Gg O O HL O (Gg O O HL O (Ig))) O ?_)))))
  refine Nq O (HA (v:=(pP b1 10)) O (AC (j:=1) O O underlying201 sizeOf63 O (by decide) O) O (SC 3 (Aj A.2.1) BR O (Nq O (HA O (AX (c:=(2:Int)) O O (by decide)) O (HA O (Bo (c:=(2:Int)) O O (by decide) (by decide)) O ?_)))))
  refine HA (v:=(pP b1 20)) O (AC (j:=2) O O underlying201 sizeOf63 O (by decide) O) O (SC 3 (Aj A.2.2) BR O (CO.news2 λb5 b6=>AS.imp O (Aq O sizeOf63 O (AS.back (sl (sl sr)) ?_))))
  refine AS.imp O (C9 O sizeOf63 O (AS.back (sl (sl sr)) (AS.nil (AD.subF (sL [2,3,4,8,7,6] O) (q2 ?_)))))
  refine AH (v:=(Value.slice (some ⟨b2,0,none⟩) 3 3)) (ET O underlying201 sizeOf63 (by decide)) O (AE.frzX 0 O O λhnb5=>AE.frzX 1 O O λhnb6=>AH (v:=(Value.func (.func 157) #[] #[(pP b5 0),(pP b6 0)])) (Em (vs:=[]) (us:=[(pP b5 0),(pP b6 0)]) O O) O (Ef call156 (λw hw=>MT A.2.1 A.2.2 B ⟨b5⟩ ⟨b6⟩ ⟨b2⟩ Z hB w (Tf (S:=λ_=>False) (x:=(⟨b5⟩:BX (Aj A.2.1))) hw 0 O hnb5) (Tf (S:=λ_=>False) (x:=(⟨b6⟩:BX (Aj A.2.2))) hw 1 O hnb6) (Tf (S:=λ_=>False) (x:=(⟨b2⟩:BX (Gy B))) hw 4 O hnb2)) O (AH (BY (c:=(!(D0 A.2.1 A.2.2 B))) O O) O ?_)))
  refine AE.nil (AD.subF (sL [2,3,4,8,7,6,22] O) (AD.then_ ?_))
  refine AF.cond O (λhc1=>?_) (λhc1=>?_)
  ·simp only [Bool.and_eq_true,Bool.or_eq_true,Bool.and_eq_false_iff,Bool.or_eq_false_iff,Bool.not_eq_true',Bool.not_eq_false',decide_eq_true_eq,decide_eq_false_iff_not] at hc1
   have hr:DM A B=true:=by unfold DM;rw [k0,(by simpa using hc1:D0 A.2.1 A.2.2 B=false)];simp
   refine q4 (AJ O (AE.nil (AD.then_ (AF.ret (AD.in_ret ?_)))))
   exact AD.then_ret (AD.then_ret (AD.in_ret (AD.then_ret (AN O (Ac (v:=(Value.bool true)) O) (λw hw=>⟨by rw [hr],hw.out⟩)))))
  ·simp only [Bool.and_eq_true,Bool.or_eq_true,Bool.and_eq_false_iff,Bool.or_eq_false_iff,Bool.not_eq_true',Bool.not_eq_false',decide_eq_true_eq,decide_eq_false_iff_not] at hc1
   have k1:D0 A.2.1 A.2.2 B=true:=by simpa using hc1
   refine AF.skip (AD.in_normal (AD.then_ (AF.region (AH (AX (c:=(2:Int)) O O (by decide)) O (AP O ?_)))))
   refine AE.nil (AD.subF (sL [2,3,4,8,7,6] O) (AD.again (FL.step (q4 (AH (Af (c:=true) O O (by decide)) O ?_)))))
   refine AE.nil (q1 (AF.cond_true O (AF.skip (q1 (AF.block ?_)))))
   refine q4 (AP O (AJ O (q6 (sL [2,3,4,8,7,6,5] O) (AF.subF (sL [2,3,4,8,5] O) (rN [(0,true),(1,true),(2,true),(3,true),(4,true),(5,true),(6,true),(7,true)] [⟨8,6,63,Aj (⟨0,0⟩:Pt)⟩,⟨9,7,63,Aj (⟨0,0⟩:Pt)⟩] [(10,false),(11,false)] sr (by kernel_rfl) (λ_ _ d _ _ h=>by cases d<;>exact h) (Gg O O HL O (Gg O O HL O (Ig))) O ?_)))))
   refine Nq O (HA (v:=(pP b1 20)) O (AC (j:=2) O O underlying201 sizeOf63 O (by decide) O) O (SC 5 (Aj A.2.2) BR O (Nq O (HA O (AX (c:=(3:Int)) O O (by decide)) O (HA O (Bo (c:=(0:Int)) O O (by decide) (by decide)) O ?_)))))
   refine HA (v:=(pP b1 0)) O (AC (j:=0) O O underlying201 sizeOf63 O (by decide) O) O (SC 5 (Aj A.1) BR O (CO.news2 λb7 b8=>AS.imp O (Aq O sizeOf63 O (AS.back (sl (sl sr)) ?_))))
   refine AS.imp O (C9 O sizeOf63 O (AS.back (sl (sl sr)) (AS.nil (AD.subF (sL [2,3,4,8,7,6] O) (q2 ?_)))))
   refine AH (v:=(Value.slice (some ⟨b2,0,none⟩) 3 3)) (ET O underlying201 sizeOf63 (by decide)) O (AE.frzX 0 O O λhnb7=>AE.frzX 1 O O λhnb8=>AH (v:=(Value.func (.func 157) #[] #[(pP b7 0),(pP b8 0)])) (Em (vs:=[]) (us:=[(pP b7 0),(pP b8 0)]) O O) O (Ef call156 (λw hw=>MT A.2.2 A.1 B ⟨b7⟩ ⟨b8⟩ ⟨b2⟩ Z hB w (Tf (S:=λ_=>False) (x:=(⟨b7⟩:BX (Aj A.2.2))) hw 0 O hnb7) (Tf (S:=λ_=>False) (x:=(⟨b8⟩:BX (Aj A.1))) hw 1 O hnb8) (Tf (S:=λ_=>False) (x:=(⟨b2⟩:BX (Gy B))) hw 6 O hnb2)) O (AH (BY (c:=(!(D0 A.2.2 A.1 B))) O O) O ?_)))
   refine AE.nil (AD.subF (sL [2,3,4,8,7,6,22] O) (AD.then_ ?_))
   refine AF.cond O (λhc1=>?_) (λhc1=>?_)
   ·simp only [Bool.and_eq_true,Bool.or_eq_true,Bool.and_eq_false_iff,Bool.or_eq_false_iff,Bool.not_eq_true',Bool.not_eq_false',decide_eq_true_eq,decide_eq_false_iff_not] at hc1
    have hr:DM A B=true:=by unfold DM;rw [k0,k1,(by simpa using hc1:D0 A.2.2 A.1 B=false)];simp
    refine q4 (AJ O (AE.nil (AD.then_ (AF.ret (AD.in_ret ?_)))))
    exact AD.then_ret (AD.then_ret (AD.in_ret (AD.then_ret (AN O (Ac (v:=(Value.bool true)) O) (λw hw=>⟨by rw [hr],hw.out⟩)))))
   ·simp only [Bool.and_eq_true,Bool.or_eq_true,Bool.and_eq_false_iff,Bool.or_eq_false_iff,Bool.not_eq_true',Bool.not_eq_false',decide_eq_true_eq,decide_eq_false_iff_not] at hc1
    have k2:D0 A.2.2 A.1 B=true:=by simpa using hc1
    have hr:DM A B=false:=by unfold DM;rw [k0,k1,k2];rfl
    refine AF.skip (AD.in_normal (AD.then_ (AF.region (AH (AX (c:=(3:Int)) O O (by decide)) O (AP O ?_)))))
    refine AE.nil (AD.subF (sL [2,3,4,8,7,6] O) (AD.again (FL.step (q4 (AH (Af (c:=false) O O (by decide)) O ?_)))))
    refine AE.nil (q1 (AF.cond_false O (AF.exit (AD.then_exit (AD.then_exit ?_)))))
    refine AD.in_exit (q2 (AJ O (AE.nil (AD.subF (sL [2,3,4,8,7,6] O) (AD.then_ ?_)))))
    exact AF.ret (AN O (Ac (v:=(Value.bool false)) O) (λw hw=>⟨by rw [hr],hw.out⟩))
end
end Go.Proofs.YtfbomiejpbchdaaGreatDoor
