import Derived.Test.YtpolhpjiahbidaaGreatDoorPrt27
namespace Go.Proofs.YtpolhpjiahbidaaGreatDoor
open Go Go.RowKit Go.Proofs.Tryz
open Go.Value renaming slice→qz,bool→qa
set_option linter.unusedVariables false
set_option linter.unusedSimpArgs false
section
set_option maxRecDepth 100000
theorem ah (t:T3) (p:Nat) (y:RX (Am t) 3) (w:World) {S:Nat->Prop} (hy:Ro S w y):Calls prog 260 #[(qz y.p 3 y.c),(vN p)] w (AX w (vI (WK t p))):=by
 have ly:=Bq (W:=w) hy
 refine AR (args:=[(qz y.p 3 y.c),(vN p)]) (L:=[AC y.p (Am t)]) func260 O O (leB O) (C7 hy Ae) (zM (sL [0,1] O) (q4 (asg' O (oNl' (q1 (q4 (AJ O (st' (v:=(vI 3)) (AD O underlying32) O (AJ O (oNl' (zF (sL [0,1,4,7,8] O) ?_)))))))))))
 refine zC (zN (yG 4 (zk (q4 (st' (AW (c:=true) O O jY) O (oNl' (q1 (zZ O (zJ (q1 (zN ?_)))))))))))
 refine q4 (AJ O (asg' O (q3 (sL [0,1,4,7,8,5] O) (AJ O (AJ O (AJ O (st' (v:=(pP (pB y.p) (pO y.p+0*1))) (AF (j:=0) O O y.ok underlying32 sizeOf3 O Z) O (st' (Ab (v:=(vN t.1)) (i:=0) O O (y.ok.ne Z) BN O) O (st' (A9 (c:=(decide (p=t.1))) O O (MA (a:=p) (b:=t.1))) O (oNl' (zF (sL [0,1,4,7,8,5,16] O) ?_)))))))))))
 refine zC ?_
 refine zO O (λhc1=>?_) (λhc1=>?_)
 ·replace hc1:=xR hc1
  have hr:WK t p=0:=by unfold WK;rw [if_pos hc1]
  exact q4 (AJ O (asg' O (oNl' (zF (sL [0,1,4,7,8,5] O) (zC (zH (zU (zI (zI (zU (zI (ret_one O (rd_tmp (v:=(vI 0)) O) (λw hw=>⟨by rw [hr]<;>rfl,hw.out⟩)))))))))))))
 ·replace hc1:=xQ hc1
  have k0:=hc1
  refine zJ (zP (zC (zQ (st' (AV (c:=(1:Int)) O O jY) O (AJ O (oNl' (zF (sL [0,1,4,7,8,5] O) (zu (zk (q4 (st' (AW (c:=true) O O jY) O ?_)))))))))))
  refine oNl' (q1 (zZ O (zJ (q1 (zN (q4 (AJ O (asg' O (q3 (sL [0,1,4,7,8,5] O) (AJ O (AJ O ?_)))))))))))
  refine AJ O (st' (v:=(pP (pB y.p) (pO y.p+1*1))) (AF (j:=1) O O y.ok underlying32 sizeOf3 O Z) O (st' (Ab (v:=(vN t.2.1)) (i:=0) O O (y.ok.ne Z) BN O) O (st' (A9 (c:=(decide (p=t.2.1))) O O (MA (a:=p) (b:=t.2.1))) O (oNl' (zF (sL [0,1,4,7,8,5,16] O) (zC ?_))))))
  refine zO O (λhc1=>?_) (λhc1=>?_)
  ·replace hc1:=xR hc1
   have hr:WK t p=1:=by unfold WK;rw [if_neg k0,if_pos hc1]
   exact q4 (AJ O (asg' O (oNl' (zF (sL [0,1,4,7,8,5] O) (zC (zH (zU (zI (zI (zU (zI (ret_one O (rd_tmp (v:=(vI 1)) O) (λw hw=>⟨by rw [hr]<;>rfl,hw.out⟩)))))))))))))
  ·replace hc1:=xQ hc1
   have k1:=hc1
   refine zJ (zP (zC (zQ (st' (AV (c:=(2:Int)) O O jY) O (AJ O (oNl' (zF (sL [0,1,4,7,8,5] O) (zu (zk (q4 (st' (AW (c:=true) O O jY) O ?_)))))))))))
   refine oNl' (q1 (zZ O (zJ (q1 (zN (q4 (AJ O (asg' O (q3 (sL [0,1,4,7,8,5] O) (AJ O (AJ O ?_)))))))))))
   refine AJ O (st' (v:=(pP (pB y.p) (pO y.p+2*1))) (AF (j:=2) O O y.ok underlying32 sizeOf3 O Z) O (st' (Ab (v:=(vN t.2.2)) (i:=0) O O (y.ok.ne Z) BN O) O (st' (A9 (c:=(decide (p=t.2.2))) O O (MA (a:=p) (b:=t.2.2))) O (oNl' (zF (sL [0,1,4,7,8,5,16] O) (zC ?_))))))
   refine zO O (λhc1=>?_) (λhc1=>?_)
   ·replace hc1:=xR hc1
    have hr:WK t p=2:=by unfold WK;rw [if_neg k0,if_neg k1,if_pos hc1]
    exact q4 (AJ O (asg' O (oNl' (zF (sL [0,1,4,7,8,5] O) (zC (zH (zU (zI (zI (zU (zI (ret_one O (rd_tmp (v:=(vI 2)) O) (λw hw=>⟨by rw [hr]<;>rfl,hw.out⟩)))))))))))))
   ·replace hc1:=xQ hc1
    have k2:=hc1
    have hr:WK t p = -1:=by unfold WK;rw [if_neg k0,if_neg k1,if_neg k2]
    refine zJ (zP (zC (zQ (st' (AV (c:=(3:Int)) O O jY) O (AJ O (oNl' (zF (sL [0,1,4,7,8,5] O) (zu (zk (q4 (st' (AW (c:=false) O O jY) O ?_)))))))))))
    refine oNl' (q1 (zX O (zY (zR (zR (zV (q2 (asg' O (oNl' (zF (sL [0,1,4,7,8,5] O) (zC ?_)))))))))))
    exact zH (ret_one O (rd_tmp (v:=(vI (-1:Int))) O) (λw hw=>⟨by rw [hr]<;>rfl,hw.out⟩))
theorem Us (t:T3) (p:Nat) (y:RX (Am t) 3) (w:World) {S:Nat->Prop} (hy:Ro S w y):Calls prog 227 #[(qz y.p 3 y.c),(vN p)] w (AX w (qa (Gd t p))):=by
 have ly:=Bq (W:=w) hy
 refine AR (args:=[(qz y.p 3 y.c),(vN p)]) (L:=[AC y.p (Am t)]) func227 O O (leB O) (C7 hy Ae) (zM (sL [0,1] O) (q4 (asg' O (oNl' (q2 (AJ O (AJ O (Bx call260 (λw hw=>ah t p y w (inS hw 0 O ly)) O (st' (CU (c:=(Gd t p)) O O (Y3 t p)) O (asg' O (oNl' ?_)))))))))))
 exact zF (sL [4] O) (zC (zH (ret_one O (rd_tmp (v:=(qa (Gd t p))) O) (λw hw=>⟨rfl,hw.out⟩))))
theorem Ev (x0:Pt) (x1:Pt) (x2:Pt):Instr.fill (λi=>some (i*10,10)) (IH ((⟨0,0⟩,⟨0,0⟩,⟨0,0⟩):Q3)).toArray [(0,.agg (Ad x0).toArray),(1,.agg (Ad x1).toArray),(2,.agg (Ad x2).toArray)]=some (Ad x0++Ad x1++Ad x2).toArray:=by kernel_rfl
theorem Kp {ps:List Pt} {ts ss:List T3} (x:MX ps ts ss) (t:Nat) (ht:t<ts.length) (htl:ts.length<=1000000) (hp:ps.length<=1000000) (hk:MV ps.length (ts.getD t (0,0,0))=true) (w:World) {S:Nat->Prop} (hx:Ro S w x):Calls prog 225 #[(aG (E9 x)),(vN t)] w (AX w (aG (IH (Bt ps (ts.getD t (0,0,0)))))):=by
 obtain ⟨k1,k2,k3⟩:=DZ hk
 obtain ⟨T,hT⟩:∃q,q=ts.getD t (0,0,0):=⟨_,rfl⟩
 rw [<-hT] at k1 k2 k3
 have lx:=Bq (W:=w) hx
 refine AR (args:=[(aG (E9 x)),(vN t)]) (L:=[AC x.a.p (rowsL Ad ps),AC x.b.p (rowsL Am ts),AC x.c.p (rowsL Am ss)]) func225 O O (leB O) (C7 hx Ae) (zM (sL [0,1] O) (q4 (BG (cs:=E9 x) O λb1=>al Xo O λb2=>q3 (sL [1,2,4] O) (st' (v:=(pP b1 1)) (AA O underlying30 O sizeOf23 O) O (A_ 1 (qz x.b.p ts.length x.b.c) CQ O (AJ O (st' (v:=(pP (pB x.b.p) (pO x.b.p+t*3))) (AF (j:=t) O O x.b.ok underlying23 sizeOf105 O Z) O (st' (v:=(aG (Am (ts.getD t jJ)))) (AH (vs:=Am (ts.getD t jJ)) (i:=3) O O (Ao.ne x.b.ok Z) CY (AZ A8 _ _ _ Z) (A8 _)) O (zK (k:=10) (u:=(aG (Am T))) O (by rw [hT]) ?_)))))))))
 refine al Gu O λb3=>Aj O sizeOf105 O (q6 (sL [2,4,5] O) (CE (Dm 19++[(19,false)]) (sk (sl sr)) (Ag (v:=(pP b1 0)) O (AA O underlying30 O sizeOf28 O) (BC 1 (qz x.a.p ps.length x.a.c) DS O (Ag (v:=(pP b3 0)) O (AB (j:=0) O O underlying105 sizeOf3 O jY O) (BC 0 (vN T.1) BN O (Ag (v:=(pP (pB x.a.p) (pO x.a.p+T.1*10))) O (AF (j:=T.1) O O x.a.ok underlying28 sizeOf99 O Z) (Ag (v:=(aG (Ad (ps.getD T.1 (⟨0,0⟩:Pt))))) O (AH (vs:=Ad (ps.getD T.1 (⟨0,0⟩:Pt))) (i:=2) O O (Ao.ne x.a.ok Z) BD (AZ Az _ _ _ Z) (Az _)) (Ag (v:=(pP b1 0)) O (AA O underlying30 O sizeOf28 O) (BC 1 (qz x.a.p ps.length x.a.c) DS O ?_))))))))))
 refine Ag (v:=(pP b3 1)) O (AB (j:=1) O O underlying105 sizeOf3 O jY O) (BC 0 (vN T.2.1) BN O (Ag (v:=(pP (pB x.a.p) (pO x.a.p+T.2.1*10))) O (AF (j:=T.2.1) O O x.a.ok underlying28 sizeOf99 O Z) (Ag (v:=(aG (Ad (ps.getD T.2.1 (⟨0,0⟩:Pt))))) O (AH (vs:=Ad (ps.getD T.2.1 (⟨0,0⟩:Pt))) (i:=2) O O (Ao.ne x.a.ok Z) BD (AZ Az _ _ _ Z) (Az _)) (Ag (v:=(pP b1 0)) O (AA O underlying30 O sizeOf28 O) (BC 1 (qz x.a.p ps.length x.a.c) DS O (Ag (v:=(pP b3 2)) O (AB (j:=2) O O underlying105 sizeOf3 O jY O) (BC 0 (vN T.2.2) BN O (Ag (v:=(pP (pB x.a.p) (pO x.a.p+T.2.2*10))) O (AF (j:=T.2.2) O O x.a.ok underlying28 sizeOf99 O Z) (Ag (v:=(aG (Ad (ps.getD T.2.2 (⟨0,0⟩:Pt))))) O (AH (vs:=Ad (ps.getD T.2.2 (⟨0,0⟩:Pt))) (i:=2) O O (Ao.ne x.a.ok Z) BD (AZ Az _ _ _ Z) (Az _)) (Ag (v:=(aG (Ad (ps.getD T.1 (⟨0,0⟩:Pt))++Ad (ps.getD T.2.1 (⟨0,0⟩:Pt))++Ad (ps.getD T.2.2 (⟨0,0⟩:Pt))))) O (Bk (zs:=IH ((⟨0,0⟩,⟨0,0⟩,⟨0,0⟩):Q3)) (vs:=Ad (ps.getD T.1 (⟨0,0⟩:Pt))++Ad (ps.getD T.2.1 (⟨0,0⟩:Pt))++Ad (ps.getD T.2.2 (⟨0,0⟩:Pt))) (pv:=[(0,(aG (Ad (ps.getD T.1 (⟨0,0⟩:Pt))))),(1,(aG (Ad (ps.getD T.2.1 (⟨0,0⟩:Pt))))),(2,(aG (Ad (ps.getD T.2.2 (⟨0,0⟩:Pt)))))]) zeroValue291 underlying291 sizeOf99 O (Ev (ps.getD T.1 (⟨0,0⟩:Pt)) (ps.getD T.2.1 (⟨0,0⟩:Pt)) (ps.getD T.2.2 (⟨0,0⟩:Pt)))) (zL O ?_)))))))))))
 exact CP O sizeOf291 O (zG (sk (sl sr)) (zT (zF (sL [2,4,5] O) (zC (zH (ret_one O (Ah (i:=1) (cs:=Ad (ps.getD T.1 (⟨0,0⟩:Pt))++Ad (ps.getD T.2.1 (⟨0,0⟩:Pt))++Ad (ps.getD T.2.2 (⟨0,0⟩:Pt))) O O isAgg291 sizeOf291 O) (λw hw=>⟨by rw [<-hT];unfold Bt BQ;rw [<-dx],hw.out⟩)))))))
theorem Nf (r p q:Pt) (bp:BX (Ad p)) (bq:BX (Ad q)) (hs:BV p+BV q+BV r<=10000000) (w:World) {S:Nat->Prop} (hbp:Ro S w bp) (hbq:Ro S w bq):Calls prog 259 #[(aG (Ad r)),(pP bp.b 0),(pP bq.b 0)] w (AX w (qa (OY p q r))):=by
 have lbp:=Bq (W:=w) hbp
 have lbq:=Bq (W:=w) hbq
 refine AR (args:=[(aG (Ad r)),(pP bp.b 0),(pP bq.b 0)]) (L:=[AC (some ⟨bp.b,0,none⟩) (Ad p),AC (some ⟨bq.b,0,none⟩) (Ad q)]) func259 O O (leB O) (C7 hbp (C7 hbq Ae)) (zM (sL [0,1,2] O) (q4 (BG (cs:=Ad r) O λb1=>asg' O (q3 (sL [1,2,3,4] O) (st' (v:=(aG (Ad p))) (AH (q:=some ⟨bp.b,0,none⟩) (vs:=Ad p) (off:=0) (i:=1) O O (λe=>by cases e) BD O O) O (st' (v:=(aG (Ad q))) (AH (q:=some ⟨bq.b,0,none⟩) (vs:=Ad q) (off:=0) (i:=2) O O (λe=>by cases e) BD O O) O (An 0 BD O (ck' call143 (HG p q r Z) O (st' (B2 (c:=(OY p q r)) O O O) O (asg' O ?_))))))))))
 exact oNl' (zF (sL [4] O) (zC (zH (ret_one O (rd_tmp (v:=(qa (OY p q r))) O) (λw hw=>⟨rfl,hw.out⟩)))))
theorem bR (p q:Pt) (B:Q3) (bp:BX (Ad p)) (bq:BX (Ad q)) (bo:BX (IH B)) (hs:BV p<=1000000/\BV q<=1000000) (hB:BV B.1<=1000000/\BV B.2.1<=1000000/\BV B.2.2<=1000000) (w:World) {S:Nat->Prop} (hbp:Ro S w bp) (hbq:Ro S w bq) (hbo:Ro S w bo):Calls prog 289 #[(qz (some ⟨bo.b,0,none⟩) 3 3),(Value.func (.func 259) #[] #[(pP bp.b 0),(pP bq.b 0)])] w (AX w (vI (WJ p q B))):=by
 have lbp:=Bq (W:=w) hbp
 have lbq:=Bq (W:=w) hbq
 have lbo:=Bq (W:=w) hbo
 refine AR (args:=[(qz (some ⟨bo.b,0,none⟩) 3 3),(Value.func (.func 259) #[] #[(pP bp.b 0),(pP bq.b 0)])]) (L:=[AC (some ⟨bp.b,0,none⟩) (Ad p),AC (some ⟨bq.b,0,none⟩) (Ad q),AC (some ⟨bo.b,0,none⟩) (IH B)]) func289 O O (leB O) (C7 hbp (C7 hbq (C7 hbo Ae))) (zM (sL [0,1] O) (q4 (asg' O (oNl' (q1 (q4 (AJ O (st' (v:=(vI 3)) (AD O underlying28) O (AJ O (oNl' (zF (sL [0,1,4,7,8] O) ?_)))))))))))
 refine zC (zN (yG 4 (zk (q4 (st' (AW (c:=true) O O jY) O (oNl' (q1 (zZ O (zJ (q1 (zN ?_)))))))))))
 refine q4 (AJ O (asg' O (q3 (sL [0,1,4,7,8,5] O) (AJ O (AJ O (AJ O (st' (v:=(pP bo.b 0)) (AL (j:=0) O O underlying28 sizeOf99 O Z O) O (st' (v:=(aG (Ad B.1))) (AH (q:=some ⟨bo.b,0,none⟩) (vs:=Ad B.1) (off:=0) (i:=2) O O (λe=>by cases e) BD O O) O (zj (v:=(qa (OY p q B.1))) (AM O) (ER (args:=[(aG (Ad B.1))]) (caps:=[(pP bp.b 0),(pP bq.b 0)]) (all:=[(aG (Ad B.1)),(pP bp.b 0),(pP bq.b 0)]) O O O call259) (λw hw=>Nf B.1 p q bp bq Z w (inS hw 0 O lbp) (inS hw 1 O lbq)) O (leB O) (oNl' (zF (sL [0,1,4,7,8,5,16] O) ?_)))))))))))
 refine zC ?_
 refine zO O (λhc1=>?_) (λhc1=>?_)
 ·have hr:WJ p q B=0:=by unfold WJ;rw [if_pos hc1]
  exact q4 (AJ O (asg' O (oNl' (zF (sL [0,1,4,7,8,5] O) (zC (zH (zU (zI (zI (zU (zI (ret_one O (rd_tmp (v:=(vI 0)) O) (λw hw=>⟨by rw [hr]<;>rfl,hw.out⟩)))))))))))))
 ·have k0:¬OY p q B.1=true:=by simpa using hc1
  refine zJ (zP (zC (zQ (st' (AV (c:=(1:Int)) O O jY) O (AJ O (oNl' (zF (sL [0,1,4,7,8,5] O) (zu (zk (q4 (st' (AW (c:=true) O O jY) O ?_)))))))))))
  refine oNl' (q1 (zZ O (zJ (q1 (zN (q4 (AJ O (asg' O (q3 (sL [0,1,4,7,8,5] O) (AJ O (AJ O ?_)))))))))))
  refine AJ O (st' (v:=(pP bo.b 10)) (AL (j:=1) O O underlying28 sizeOf99 O Z O) O (st' (v:=(aG (Ad B.2.1))) (AH (q:=some ⟨bo.b,0,none⟩) (vs:=Ad B.2.1) (off:=10) (i:=2) O O (λe=>by cases e) BD O O) O (zj (v:=(qa (OY p q B.2.1))) (AM O) (ER (args:=[(aG (Ad B.2.1))]) (caps:=[(pP bp.b 0),(pP bq.b 0)]) (all:=[(aG (Ad B.2.1)),(pP bp.b 0),(pP bq.b 0)]) O O O call259) (λw hw=>Nf B.2.1 p q bp bq Z w (inS hw 0 O lbp) (inS hw 1 O lbq)) O (leB O) (oNl' (zF (sL [0,1,4,7,8,5,16] O) (zC ?_))))))
  refine zO O (λhc1=>?_) (λhc1=>?_)
  ·have hr:WJ p q B=1:=by unfold WJ;rw [if_neg k0,if_pos hc1]
   exact q4 (AJ O (asg' O (oNl' (zF (sL [0,1,4,7,8,5] O) (zC (zH (zU (zI (zI (zU (zI (ret_one O (rd_tmp (v:=(vI 1)) O) (λw hw=>⟨by rw [hr]<;>rfl,hw.out⟩)))))))))))))
  ·have k1:¬OY p q B.2.1=true:=by simpa using hc1
   refine zJ (zP (zC (zQ (st' (AV (c:=(2:Int)) O O jY) O (AJ O (oNl' (zF (sL [0,1,4,7,8,5] O) (zu (zk (q4 (st' (AW (c:=true) O O jY) O ?_)))))))))))
   refine oNl' (q1 (zZ O (zJ (q1 (zN (q4 (AJ O (asg' O (q3 (sL [0,1,4,7,8,5] O) (AJ O (AJ O ?_)))))))))))
   refine AJ O (st' (v:=(pP bo.b 20)) (AL (j:=2) O O underlying28 sizeOf99 O Z O) O (st' (v:=(aG (Ad B.2.2))) (AH (q:=some ⟨bo.b,0,none⟩) (vs:=Ad B.2.2) (off:=20) (i:=2) O O (λe=>by cases e) BD O O) O (zj (v:=(qa (OY p q B.2.2))) (AM O) (ER (args:=[(aG (Ad B.2.2))]) (caps:=[(pP bp.b 0),(pP bq.b 0)]) (all:=[(aG (Ad B.2.2)),(pP bp.b 0),(pP bq.b 0)]) O O O call259) (λw hw=>Nf B.2.2 p q bp bq Z w (inS hw 0 O lbp) (inS hw 1 O lbq)) O (leB O) (oNl' (zF (sL [0,1,4,7,8,5,16] O) (zC ?_))))))
   refine zO O (λhc1=>?_) (λhc1=>?_)
   ·have hr:WJ p q B=2:=by unfold WJ;rw [if_neg k0,if_neg k1,if_pos hc1]
    exact q4 (AJ O (asg' O (oNl' (zF (sL [0,1,4,7,8,5] O) (zC (zH (zU (zI (zI (zU (zI (ret_one O (rd_tmp (v:=(vI 2)) O) (λw hw=>⟨by rw [hr]<;>rfl,hw.out⟩)))))))))))))
   ·have k2:¬OY p q B.2.2=true:=by simpa using hc1
    have hr:WJ p q B = -1:=by unfold WJ;rw [if_neg k0,if_neg k1,if_neg k2]
    refine zJ (zP (zC (zQ (st' (AV (c:=(3:Int)) O O jY) O (AJ O (oNl' (zF (sL [0,1,4,7,8,5] O) (zu (zk (q4 (st' (AW (c:=false) O O jY) O ?_)))))))))))
    refine oNl' (q1 (zX O (zY (zR (zR (zV (q2 (asg' O (oNl' (zF (sL [0,1,4,7,8,5] O) (zC ?_)))))))))))
    exact zH (ret_one O (rd_tmp (v:=(vI (-1:Int))) O) (λw hw=>⟨by rw [hr]<;>rfl,hw.out⟩))
theorem Ny (p q:Pt) (B:Q3) (bp:BX (Ad p)) (bq:BX (Ad q)) (bo:BX (IH B)) (hs:BV p<=1000000/\BV q<=1000000) (hB:BV B.1<=1000000/\BV B.2.1<=1000000/\BV B.2.2<=1000000) (w:World) {S:Nat->Prop} (hbp:Ro S w bp) (hbq:Ro S w bq) (hbo:Ro S w bo):Calls prog 258 #[(qz (some ⟨bo.b,0,none⟩) 3 3),(Value.func (.func 259) #[] #[(pP bp.b 0),(pP bq.b 0)])] w (AX w (qa (G7 p q B))):=by
 have lbp:=Bq (W:=w) hbp
 have lbq:=Bq (W:=w) hbq
 have lbo:=Bq (W:=w) hbo
 refine AR (args:=[(qz (some ⟨bo.b,0,none⟩) 3 3),(Value.func (.func 259) #[] #[(pP bp.b 0),(pP bq.b 0)])]) (L:=[AC (some ⟨bp.b,0,none⟩) (Ad p),AC (some ⟨bq.b,0,none⟩) (Ad q),AC (some ⟨bo.b,0,none⟩) (IH B)]) func258 O O (leB O) (C7 hbp (C7 hbq (C7 hbo Ae))) (zM (sL [0,1] O) (q4 (asg' O (oNl' (q2 (AJ O (AJ O (Bx call289 (λw hw=>bR p q B bp bq bo hs hB w (inS hw 0 O lbp) (inS hw 1 O lbq) (inS hw 2 O lbo)) O (st' (CU (c:=(G7 p q B)) O O (Y2 p q B)) O (asg' O (oNl' ?_)))))))))))
 exact zF (sL [4] O) (zC (zH (ret_one O (rd_tmp (v:=(qa (G7 p q B))) O) (λw hw=>⟨rfl,hw.out⟩))))
set_option maxHeartbeats 1000000 in
theorem VP (A B:Q3) (hA:BV A.1<=1000000/\BV A.2.1<=1000000/\BV A.2.2<=1000000) (hB:BV B.1<=1000000/\BV B.2.1<=1000000/\BV B.2.2<=1000000) (w:World)  :Calls prog 226 #[(aG (IH A)),(aG (IH B))] w (AX w (qa (Er A B))):=by
 refine AS (args:=[(aG (IH A)),(aG (IH B))]) func226 O O (leB O) (zM (sL [0,1] O) (q4 (BG (cs:=IH A) O λb1=>BG (cs:=IH B) O λb2=>yV 0 O O λhnb2=>asg' O (q6 (sL [2,3,4] O) (q4 (AJ O (oNl' (zC ?_))))))))
 refine zN (yG 4 (zk (q4 (st' (AW (c:=true) O O jY) O (oNl' (q1 (zZ O (zJ (q1 (zN (q4 ?_)))))))))))
 refine AJ O (asg' O (q6 (sL [2,3,4,8,5] O) (rN [(0,true),(1,true),(2,true),(3,true),(4,true),(5,true),(6,true),(7,true)] [⟨8,6,99,Ad (⟨0,0⟩:Pt)⟩,⟨9,7,99,Ad (⟨0,0⟩:Pt)⟩] [(10,false),(11,false)] sr jV (λ_ _ d _ _ h=>by cases d<;>exact h) (EP O O Fh O (EP O O Fh O (Fk))) O (Rj O (FP (v:=(pP b1 0)) O (AB (j:=0) O O underlying291 sizeOf99 O jY O) O (Ri 1 (Ad A.1) BD O (Rj O (FP O (AV (c:=(1:Int)) O O jY) O (FP O (Dn (c:=(1:Int)) O O jY jY) O (FP (v:=(pP b1 10)) O (AB (j:=1) O O underlying291 sizeOf99 O jY O) O (Ri 1 (Ad A.2.1) BD O ?_)))))))))))
 refine yr λb3 b4=>zL O (Aj O sizeOf99 O (zG (sl (sl sr)) (zL O (CP O sizeOf99 O (zG (sl (sl sr)) (zT (zF (sL [2,3,4,8,7,6] O) (q2 (st' (v:=(qz (jk b2) 3 3)) (FY O underlying291 sizeOf99 jY) O (yV 0 O O λhnb3=>?_))))))))))
 refine yV 1 O O λhnb4=>st' (v:=(Value.func (.func 259) #[] #[(pP b3 0),(pP b4 0)])) (ED (vs:=[]) (us:=[(pP b3 0),(pP b4 0)]) O O) O (Bx call258 (λw hw=>Ny A.1 A.2.1 B ⟨b3⟩ ⟨b4⟩ ⟨b2⟩ Z hB w (WD (S:=λ_=>False) (x:=(⟨b3⟩:BX (Ad A.1))) hw 0 O hnb3) (WD (S:=λ_=>False) (x:=(⟨b4⟩:BX (Ad A.2.1))) hw 1 O hnb4) (WD (S:=λ_=>False) (x:=(⟨b2⟩:BX (IH B))) hw 2 O hnb2)) O (st' (BB (c:=(!(G7 A.1 A.2.1 B))) O O) O (oNl' (zF (sL [2,3,4,8,7,6,22] O) (zC ?_)))))
 refine zO O (λhc1=>?_) (λhc1=>?_)
 ·simp only [jK] at hc1
  have hr:Er A B=true:=by unfold Er;rw [(by simpa using hc1:G7 A.1 A.2.1 B=false)];simp
  exact q4 (asg' O (oNl' (zC (zH (zU (zI (zI (zU (zI (ret_one O (rd_tmp (v:=(qa true)) O) (λw hw=>⟨by rw [hr],hw.out⟩)))))))))))
 ·simp only [jK] at hc1
  have k0:G7 A.1 A.2.1 B=true:=by simpa using hc1
  refine zJ (zP (zC (zQ (st' (AV (c:=(1:Int)) O O jY) O (AJ O (oNl' (zF (sL [2,3,4,8,7,6] O) (zu (zk (q4 (st' (AW (c:=true) O O jY) O ?_)))))))))))
  refine oNl' (q1 (zZ O (zJ (q1 (zN (q4 (AJ O (asg' O (q6 (sL [2,3,4,8,7,6,5] O) (zM (sL [2,3,4,8,5] O) (rN [(0,true),(1,true),(2,true),(3,true),(4,true),(5,true),(6,true),(7,true)] [⟨8,6,99,Ad (⟨0,0⟩:Pt)⟩,⟨9,7,99,Ad (⟨0,0⟩:Pt)⟩] [(10,false),(11,false)] sr jV (λ_ _ d _ _ h=>by cases d<;>exact h) (EP O O Fh O (EP O O Fh O (Fk))) O ?_)))))))))))
  refine Rj O (FP (v:=(pP b1 10)) O (AB (j:=1) O O underlying291 sizeOf99 O jY O) O (Ri 3 (Ad A.2.1) BD O (Rj O (FP O (AV (c:=(2:Int)) O O jY) O (FP O (Dn (c:=(2:Int)) O O jY jY) O (FP (v:=(pP b1 20)) O (AB (j:=2) O O underlying291 sizeOf99 O jY O) O (Ri 3 (Ad A.2.2) BD O (yr λb5 b6=>zL O (Aj O sizeOf99 O (zG (sl (sl sr)) ?_))))))))))
  refine zL O (CP O sizeOf99 O (zG (sl (sl sr)) (zT (zF (sL [2,3,4,8,7,6] O) (q2 (st' (v:=(qz (jk b2) 3 3)) (FY O underlying291 sizeOf99 jY) O (yV 0 O O λhnb5=>yV 1 O O λhnb6=>st' (v:=(Value.func (.func 259) #[] #[(pP b5 0),(pP b6 0)])) (ED (vs:=[]) (us:=[(pP b5 0),(pP b6 0)]) O O) O (Bx call258 (λw hw=>Ny A.2.1 A.2.2 B ⟨b5⟩ ⟨b6⟩ ⟨b2⟩ Z hB w (WD (S:=λ_=>False) (x:=(⟨b5⟩:BX (Ad A.2.1))) hw 0 O hnb5) (WD (S:=λ_=>False) (x:=(⟨b6⟩:BX (Ad A.2.2))) hw 1 O hnb6) (WD (S:=λ_=>False) (x:=(⟨b2⟩:BX (IH B))) hw 4 O hnb2)) O (st' (BB (c:=(!(G7 A.2.1 A.2.2 B))) O O) O ?_)))))))))
  refine oNl' (zF (sL [2,3,4,8,7,6,22] O) (zC ?_))
  refine zO O (λhc1=>?_) (λhc1=>?_)
  ·simp only [jK] at hc1
   have hr:Er A B=true:=by unfold Er;rw [k0,(by simpa using hc1:G7 A.2.1 A.2.2 B=false)];simp
   exact q4 (asg' O (oNl' (zC (zH (zU (zI (zI (zU (zI (ret_one O (rd_tmp (v:=(qa true)) O) (λw hw=>⟨by rw [hr],hw.out⟩)))))))))))
  ·simp only [jK] at hc1
   have k1:G7 A.2.1 A.2.2 B=true:=by simpa using hc1
   refine zJ (zP (zC (zQ (st' (AV (c:=(2:Int)) O O jY) O (AJ O (oNl' (zF (sL [2,3,4,8,7,6] O) (zu (zk (q4 (st' (AW (c:=true) O O jY) O ?_)))))))))))
   refine oNl' (q1 (zZ O (zJ (q1 (zN (q4 (AJ O (asg' O (q6 (sL [2,3,4,8,7,6,5] O) (zM (sL [2,3,4,8,5] O) (rN [(0,true),(1,true),(2,true),(3,true),(4,true),(5,true),(6,true),(7,true)] [⟨8,6,99,Ad (⟨0,0⟩:Pt)⟩,⟨9,7,99,Ad (⟨0,0⟩:Pt)⟩] [(10,false),(11,false)] sr jV (λ_ _ d _ _ h=>by cases d<;>exact h) (EP O O Fh O (EP O O Fh O (Fk))) O ?_)))))))))))
   refine Rj O (FP (v:=(pP b1 20)) O (AB (j:=2) O O underlying291 sizeOf99 O jY O) O (Ri 5 (Ad A.2.2) BD O (Rj O (FP O (AV (c:=(3:Int)) O O jY) O (FP O (Dn (c:=(0:Int)) O O jY jY) O (FP (v:=(pP b1 0)) O (AB (j:=0) O O underlying291 sizeOf99 O jY O) O (Ri 5 (Ad A.1) BD O (yr λb7 b8=>zL O (Aj O sizeOf99 O (zG (sl (sl sr)) ?_))))))))))
   refine zL O (CP O sizeOf99 O (zG (sl (sl sr)) (zT (zF (sL [2,3,4,8,7,6] O) (q2 (st' (v:=(qz (jk b2) 3 3)) (FY O underlying291 sizeOf99 jY) O (yV 0 O O λhnb7=>yV 1 O O λhnb8=>st' (v:=(Value.func (.func 259) #[] #[(pP b7 0),(pP b8 0)])) (ED (vs:=[]) (us:=[(pP b7 0),(pP b8 0)]) O O) O (Bx call258 (λw hw=>Ny A.2.2 A.1 B ⟨b7⟩ ⟨b8⟩ ⟨b2⟩ Z hB w (WD (S:=λ_=>False) (x:=(⟨b7⟩:BX (Ad A.2.2))) hw 0 O hnb7) (WD (S:=λ_=>False) (x:=(⟨b8⟩:BX (Ad A.1))) hw 1 O hnb8) (WD (S:=λ_=>False) (x:=(⟨b2⟩:BX (IH B))) hw 6 O hnb2)) O (st' (BB (c:=(!(G7 A.2.2 A.1 B))) O O) O ?_)))))))))
   refine oNl' (zF (sL [2,3,4,8,7,6,22] O) (zC ?_))
   refine zO O (λhc1=>?_) (λhc1=>?_)
   ·simp only [jK] at hc1
    have hr:Er A B=true:=by unfold Er;rw [k0,k1,(by simpa using hc1:G7 A.2.2 A.1 B=false)];simp
    exact q4 (asg' O (oNl' (zC (zH (zU (zI (zI (zU (zI (ret_one O (rd_tmp (v:=(qa true)) O) (λw hw=>⟨by rw [hr],hw.out⟩)))))))))))
   ·simp only [jK] at hc1
    have k2:G7 A.2.2 A.1 B=true:=by simpa using hc1
    have hr:Er A B=false:=by unfold Er;rw [k0,k1,k2];rfl
    refine zJ (zP (zC (zQ (st' (AV (c:=(3:Int)) O O jY) O (AJ O (oNl' (zF (sL [2,3,4,8,7,6] O) (zu (zk (q4 (st' (AW (c:=false) O O jY) O ?_)))))))))))
    refine oNl' (q1 (zX O (zY (zR (zR (zV (q2 (asg' O (oNl' (zF (sL [2,3,4,8,7,6] O) (zC ?_)))))))))))
    exact zH (ret_one O (rd_tmp (v:=(qa false)) O) (λw hw=>⟨by rw [hr],hw.out⟩))
end
section
set_option maxRecDepth 100000
theorem YV {ps:List Pt} {ts ss:List T3} (x:MX ps ts ss) (hv:NU ps ts ss) (w:World) {S:Nat->Prop} (hx:Ro S w x):Calls prog 182 #[(aG (E9 x))] w (AX w (qa true)):=by
 have hp:=hv.pl
 have htl:=hv.tl
 have hsl:=hv.sl
 have h0:=hv.t0
 have lx:=Bq (W:=w) hx
 refine AR (args:=[(aG (E9 x))]) (L:=[AC x.a.p (rowsL Ad ps),AC x.b.p (rowsL Am ts),AC x.c.p (rowsL Am ss)]) func182 O O (leB O) (C7 hx Ae) (zM (sL [0] O) (q4 (BG (cs:=E9 x) O λb1=>asg' O (q3 (sL [1,2] O) (st' (v:=(pP b1 0)) (AA O underlying30 O sizeOf28 O) O (A_ 0 (qz x.a.p ps.length x.a.c) DS O (st' (v:=(vN ps.length)) (AD O underlying28) O (asg' O (q6 (sL [1,2,3] O) (q4 ?_))))))))))
 refine st' (v:=(pP b1 1)) (AA O underlying30 O sizeOf23 O) O (A_ 0 (qz x.b.p ts.length x.b.c) CQ O (st' (v:=(vN ts.length)) (AD O underlying23) O (AJ O (oNl' (zF (sL [1,2,3,12,13,14] O) (zC (zN ?_)))))))
 refine zw (tg λ(i:Nat)=>i<=ts.length) (tg λ(i:Nat)=>[(1,(pP b1 0)),(3,(vN ps.length)),(12,(qz x.b.p ts.length x.b.c)),(13,(vN ts.length)),(14,(vN i))]) (tg λ(i:Nat)=>[AU b1 30 (E9 x),AC x.a.p (rowsL Ad ps),AC x.b.p (rowsL Am ts),AC x.c.p (rowsL Am ss)]) (tg λ(i:Nat)=>ts.length-i) 0 (xu _) (sF O) sr (λi hJ=>?_)
 have hi:=hJ
 refine q4 (st' (AW (c:=(decide (i<ts.length))) O O (B_ (a:=i) (b:=ts.length))) O (oNl' (q1 ?_)))
 refine zO O (λhc0=>?_) (λhc0=>?_)
 ·replace hc0:=xR hc0
  obtain ⟨T,hT⟩:∃q,q=ts.getD i (0,0,0):=⟨_,rfl⟩
  obtain ⟨g1,g2,g3⟩:=DZ (Cs hv.num hc0)
  have hps:=hv.pos i hc0
  rw [<-hT] at g1 g2 g3 hps
  have z0:BV (ps.getD T.1 ⟨0,0⟩)<=1000000:=hv.szM _
  have z1:BV (ps.getD T.2.1 ⟨0,0⟩)<=1000000:=hv.szM _
  have z2:BV (ps.getD T.2.2 ⟨0,0⟩)<=1000000:=hv.szM _
  refine zJ (q1 (zN (q4 (st' (v:=(pP (pB x.b.p) (pO x.b.p+i*3))) (AF (j:=i) O O x.b.ok underlying23 sizeOf105 O Z) O (st' (v:=(aG (Am (ts.getD i jJ)))) (AH (vs:=Am (ts.getD i jJ)) (i:=2) O O (Ao.ne x.b.ok Z) CY (AZ A8 _ _ _ Z) (A8 _)) O (zK (k:=17) (u:=(aG (Am T))) O (by rw [hT]) (al Gu O λb2=>Aj O sizeOf105 O (q6 (sL [1,3,12,13,14,5] O) (CE [(0,true),(1,true),(2,true),(3,false),(4,true),(5,true),(6,true),(7,true),(8,true),(9,false),(10,true),(11,true),(12,true),(13,true),(14,true),(15,true),(16,false),(17,true),(18,true),(19,true),(20,true),(21,true),(22,true),(23,true),(24,true),(25,true),(26,true),(27,true),(28,true),(29,true),(30,true),(31,true),(32,true),(33,true),(34,true),(35,true),(36,true),(37,true),(38,false),(39,true),(40,true)] sr (Ag (v:=(pP b2 0)) O (AB (j:=0) O O underlying105 sizeOf3 O jY O) ?_))))))))))
  refine BC 0 (vN T.1) BN O (Bl O (zL O (Bx (args:=[(vN T.1),(vN ps.length)]) (v:=(qa true)) call148 (λw hw=>(by have h9:=Dd T.1 ps.length w;rw [xr Z] at h9;exact h9)) O (zG sr (Ag O (BB (c:=false) O O) (Bl O (zW (v:=(pP b2 1)) O (AN O) (AB (j:=1) O O underlying105 sizeOf3 O jY O) O O (zW (v:=(vN T.2.1)) O (AN O) (AE (i:=0) (v:=(vN T.2.1)) O O BN.a O) O O (zW (v:=(vN ps.length)) O (AN O) (Bv O) O O (zL O (zj (v:=(qa true)) (AN O) (Ak (args:=[(vN T.2.1),(vN ps.length)]) O O call148) (λw hw=>(by have h9:=Dd T.2.1 ps.length w;rw [xr Z] at h9;exact h9)) O (leB O) ?_)))))))))))
  refine zG sr (zW (v:=(qa false)) O (AN O) (BB (c:=false) O O) O O (Ag (v:=(qa false)) O (AI O O) (Bl O (zW (v:=(pP b2 2)) O (AN O) (AB (j:=2) O O underlying105 sizeOf3 O jY O) O O (zW (v:=(vN T.2.2)) O (AN O) (AE (i:=0) (v:=(vN T.2.2)) O O BN.a O) O O (zW (v:=(vN ps.length)) O (AN O) (Bv O) O O (zL O (zj (v:=(qa true)) (AN O) (Ak (args:=[(vN T.2.2),(vN ps.length)]) O O call148) (λw hw=>(by have h9:=Dd T.2.2 ps.length w;rw [xr Z] at h9;exact h9)) O (leB O) (zG sr (zW (v:=(qa false)) O (AN O) (BB (c:=false) O O) O O (Ag (v:=(qa false)) O (AI O O) ?_)))))))))))
  refine Bl O (zW (v:=(pP b1 0)) O (AN O) (AA O underlying30 O sizeOf28 O) O O (zW (v:=(qz x.a.p ps.length x.a.c)) O (AN O) (AE (i:=1) (v:=(qz x.a.p ps.length x.a.c)) O O DS.a O) O O (zW (v:=(pP b2 0)) O (AN O) (AB (j:=0) O O underlying105 sizeOf3 O jY O) O O (zW (v:=(vN T.1)) O (AN O) (AE (i:=0) (v:=(vN T.1)) O O BN.a O) O O (zW (v:=(pP (pB x.a.p) (pO x.a.p+T.1*10))) O (AN O) (AF (j:=T.1) O O x.a.ok underlying28 sizeOf99 O Z) O O (zW (v:=(aG (Ad (ps.getD T.1 (⟨0,0⟩:Pt))))) O (AN O) (AH (vs:=Ad (ps.getD T.1 (⟨0,0⟩:Pt))) (i:=2) O O (Ao.ne x.a.ok Z) BD (AZ Az _ _ _ Z) (Az _)) O O (zW (v:=(pP b1 0)) O (AN O) (AA O underlying30 O sizeOf28 O) O O (zW (v:=(qz x.a.p ps.length x.a.c)) O (AN O) (AE (i:=1) (v:=(qz x.a.p ps.length x.a.c)) O O DS.a O) O O (zW (v:=(pP b2 1)) O (AN O) (AB (j:=1) O O underlying105 sizeOf3 O jY O) O O (zW (v:=(vN T.2.1)) O (AN O) (AE (i:=0) (v:=(vN T.2.1)) O O BN.a O) O O (zW (v:=(pP (pB x.a.p) (pO x.a.p+T.2.1*10))) O (AN O) (AF (j:=T.2.1) O O x.a.ok underlying28 sizeOf99 O Z) O O ?_)))))))))))
  refine zW (v:=(aG (Ad (ps.getD T.2.1 (⟨0,0⟩:Pt))))) O (AN O) (AH (vs:=Ad (ps.getD T.2.1 (⟨0,0⟩:Pt))) (i:=2) O O (Ao.ne x.a.ok Z) BD (AZ Az _ _ _ Z) (Az _)) O O (zW (v:=(pP b1 0)) O (AN O) (AA O underlying30 O sizeOf28 O) O O (zW (v:=(qz x.a.p ps.length x.a.c)) O (AN O) (AE (i:=1) (v:=(qz x.a.p ps.length x.a.c)) O O DS.a O) O O (zW (v:=(pP b2 2)) O (AN O) (AB (j:=2) O O underlying105 sizeOf3 O jY O) O O (zW (v:=(vN T.2.2)) O (AN O) (AE (i:=0) (v:=(vN T.2.2)) O O BN.a O) O O (zW (v:=(pP (pB x.a.p) (pO x.a.p+T.2.2*10))) O (AN O) (AF (j:=T.2.2) O O x.a.ok underlying28 sizeOf99 O Z) O O (zW (v:=(aG (Ad (ps.getD T.2.2 (⟨0,0⟩:Pt))))) O (AN O) (AH (vs:=Ad (ps.getD T.2.2 (⟨0,0⟩:Pt))) (i:=2) O O (Ao.ne x.a.ok Z) BD (AZ Az _ _ _ Z) (Az _)) O O (zL O (zj (v:=(vI ((Aa (ps.getD T.1 (⟨0,0⟩:Pt)) (ps.getD T.2.1 (⟨0,0⟩:Pt)) (ps.getD T.2.2 (⟨0,0⟩:Pt))).num.sign))) (AN O) (Ak (args:=[(aG (Ad (ps.getD T.1 (⟨0,0⟩:Pt)))),(aG (Ad (ps.getD T.2.1 (⟨0,0⟩:Pt)))),(aG (Ad (ps.getD T.2.2 (⟨0,0⟩:Pt))))]) O O call143) (λw hw=>HG (ps.getD T.1 (⟨0,0⟩:Pt)) (ps.getD T.2.1 (⟨0,0⟩:Pt)) (ps.getD T.2.2 (⟨0,0⟩:Pt)) Z w) O (leB O) (zG sr (zW (v:=(qa false)) O (AN O) (Bf (c:=false) O O (xq (λh9=>h9 hps))) O O (Ag (v:=(qa false)) O (AI O O) ?_)))))))))))
  exact zT (zF (sL [1,3,12,13,14,5,58] O) (zC (zX O (zJ (zP (zC (zQ (st' (AV (c:=((i+1:Nat):Int)) O O (AY (a:=i) (b:=1) Z)) O (AJ O (oNl' (zF (sL [1,3,12,13,14,5] O) (zm (i+1) Z Z (sF O) (sl sr)))))))))))))
 ·replace hc0:=xQ hc0
  refine zY (zR (zh (zV (q1 (q4 (st' (v:=(pP b1 2)) (AA O underlying30 O sizeOf24 O) O (A_ 0 (qz x.c.p ss.length x.c.c) GS O (st' (v:=(vN ss.length)) (AD O underlying24) O (AJ O (oNl' (zF (sL [1,3,12,13,14,61,62,63] O) ?_)))))))))))
  refine zC (zN ?_)
  refine zw (tg λ(i:Nat)=>i<=ss.length) (tg λ(i:Nat)=>[(1,(pP b1 0)),(3,(vN ps.length)),(61,(qz x.c.p ss.length x.c.c)),(62,(vN ss.length)),(63,(vN i))]) (tg λ(i:Nat)=>[AU b1 30 (E9 x),AC x.a.p (rowsL Ad ps),AC x.b.p (rowsL Am ts),AC x.c.p (rowsL Am ss)]) (tg λ(i:Nat)=>ss.length-i) 0 (xu _) (sF O) sr (λi hJ=>?_)
  have hi:=hJ
  refine q4 (st' (AW (c:=(decide (i<ss.length))) O O (B_ (a:=i) (b:=ss.length))) O (oNl' (q1 ?_)))
  refine zO O (λhc2=>?_) (λhc2=>?_)
  ·replace hc2:=xR hc2
   obtain ⟨sd,hsd⟩:∃q,q=ss.getD i (0,0,0):=⟨_,rfl⟩
   obtain ⟨g1,g2,g3⟩:=hv.sid i hc2
   rw [<-hsd] at g1 g2 g3
   refine zJ (q1 (zN (q4 (st' (v:=(pP (pB x.c.p) (pO x.c.p+i*3))) (AF (j:=i) O O x.c.ok underlying24 sizeOf110 O Z) O (st' (v:=(aG (Am (ss.getD i jJ)))) (AH (vs:=Am (ss.getD i jJ)) (i:=3) O O (Ao.ne x.c.ok Z) Ls (AZ A8 _ _ _ Z) (A8 _)) O (zK (k:=66) (u:=(aG (Am sd))) O (by rw [hsd]) (al eW O λb2=>Aj O sizeOf110 O (q3 (sL [1,3,61,62,63,7] O) (st' (v:=(pP b2 0)) (AA O underlying110 O sizeOf3 O) O (A_ 0 (vN sd.1) BN O ?_))))))))))
   refine AJ O (Bx (args:=[(vN sd.1),(vN ps.length)]) (v:=(qa true)) call148 (λw hw=>(by have h9:=Dd sd.1 ps.length w;rw [xr Z] at h9;exact h9)) O (st' (BB (c:=false) O O) O (AJ O (Au (v:=(pP b2 1)) O (AA O underlying110 O sizeOf3 O) (Au (v:=(vN sd.2.1)) O (AE (i:=0) (v:=(vN sd.2.1)) O O BN.a O) (EV O (zj (v:=(qa true)) (AN O) (Ak (args:=[(vN sd.2.1),(vN ps.length)]) O O call148) (λw hw=>(by have h9:=Dd sd.2.1 ps.length w;rw [xr Z] at h9;exact h9)) O (leB O) (Au (v:=(qa false)) O (BB (c:=false) O O) (st' (v:=(qa false)) (AI O O) O (AJ O (Au (v:=(pP b2 2)) O (AA O underlying110 O sizeOf3 O) ?_)))))))))))
   refine Au (v:=(vN sd.2.2)) O (AE (i:=0) (v:=(vN sd.2.2)) O O BN.a O) (Au (v:=(qa false)) O (AW (c:=false) O O (xq Z)) (st' (v:=(qa false)) (AI O O) O (AJ O (Au (v:=(pP b2 2)) O (AA O underlying110 O sizeOf3 O) (Au (v:=(vN sd.2.2)) O (AE (i:=0) (v:=(vN sd.2.2)) O O BN.a O) (Au (v:=(qa false)) O (B2 (c:=false) O O (xq Z)) (st' (v:=(qa false)) (AI O O) O (oNl' (zF (sL [1,3,61,62,63,7,88] O) (zC (zX O ?_)))))))))))
   exact zJ (zP (zC (zQ (st' (AV (c:=((i+1:Nat):Int)) O O (AY (a:=i) (b:=1) Z)) O (AJ O (oNl' (zF (sL [1,3,61,62,63,7] O) (zm (i+1) Z Z (sF O) (sl sr)))))))))
  ·replace hc2:=xQ hc2
   refine zY (zR (zh (zV (q2 (st' (v:=(pP b1 1)) (AA O underlying30 O sizeOf23 O) O (A_ 0 (qz x.b.p ts.length x.b.c) CQ O (st' (v:=(vN ts.length)) (AD O underlying23) O (st' (B2 (c:=true) O O (xr Z)) O (asg' O (oNl' (zF (sL [1,3,61,62,63,2] O) ?_)))))))))))
   exact zC (zH (ret_one O (rd_tmp (v:=(qa true)) O) (λw hw=>⟨rfl,hw.out⟩)))
theorem av (a b c p:Pt) (hs:BV a+BV b+BV c+BV p<=268435456) (w:World):Calls prog 228 #[aG (Ad a),aG (Ad b),aG (Ad c),aG (Ad p)] w (AX w (vN (Rl a b c p))):=by
 unfold Rl
 by_cases h:Aa a b c=0
 ·rw [if_pos h];exact TB a b c p hs h w
 ·rw [if_neg h];exact VF a b c p hs h w
set_option maxHeartbeats 1000000 in
theorem VM {ps:List Pt} {ts ss:List T3} (x:MX ps ts ss) (hv:NU ps ts ss) (w:World) {S:Nat->Prop} (hx:Ro S w x):Calls prog 184 #[(aG (E9 x))] w (AX w (qa true)):=by
 have hp:=hv.pl
 have htl:=hv.tl
 have hsl:=hv.sl
 have h0:=hv.t0
 have hq:∀t:T3,BV (Bt ps t).1<=1000000/\BV (Bt ps t).2.1<=1000000/\BV (Bt ps t).2.2<=1000000:=λt=>⟨hv.szM _,hv.szM _,hv.szM _⟩
 have lx:=Bq (W:=w) hx
 refine AR (args:=[(aG (E9 x))]) (L:=[AC x.a.p (rowsL Ad ps),AC x.b.p (rowsL Am ts),AC x.c.p (rowsL Am ss)]) func184 O O (leB O) (C7 hx Ae) (zM (sL [0] O) (q4 (BG (cs:=E9 x) O λb1=>asg' O (q6 (sL [1,2] O) (q4 (st' (v:=(pP b1 1)) (AA O underlying30 O sizeOf23 O) O (A_ 0 (qz x.b.p ts.length x.b.c) CQ O (st' (v:=(vN ts.length)) (AD O underlying23) O (AJ O (oNl' ?_))))))))))
 refine zF (sL [1,2,11,12] O) (zC (zN ?_))
 refine zw (tg λ(i:Nat)=>i<=ts.length) (tg λ(i:Nat)=>[(1,(pP b1 0)),(11,(vN ts.length)),(12,(vN i))]) (tg λ(i:Nat)=>[AU b1 30 (E9 x),AC x.a.p (rowsL Ad ps),AC x.b.p (rowsL Am ts),AC x.c.p (rowsL Am ss)]) (tg λ(i:Nat)=>ts.length-i) 0 (xu _) (sF O) sr (λi hJ=>?_)
 have hi:=hJ
 refine q4 (st' (AW (c:=(decide (i<ts.length))) O O (B_ (a:=i) (b:=ts.length))) O (oNl' (q1 ?_)))
 refine zO O (λhc0=>?_) (λhc0=>?_)
 ·replace hc0:=xR hc0
  refine zJ (q1 (zN (q4 (AJ O (asg' O (q3 (sL [1,11,12,3] O) (An 0 Bu O (AJ O (Bx call225 (λw hw=>Kp x i Z Z Z (Cs hv.num Z) w (inS hw 1 O lx)) O (al Xo O λb2=>Aj O sizeOf291 O ?_))))))))))
  refine q6 (sL [1,11,12,3,4] O) (q4 (AJ O (AJ O (oNl' (zC (zN ?_))))))
  refine zw (tg λ(k:Nat)=>k<=i) (tg λ(k:Nat)=>[(1,(pP b1 0)),(11,(vN ts.length)),(12,(vN i)),(3,(vN i)),(4,(pP b2 0)),(18,(vN i)),(19,(vN k))]) (tg λ(k:Nat)=>[AU b2 291 (IH (Bt ps (ts.getD i (0,0,0)))),AU b1 30 (E9 x),AC x.a.p (rowsL Ad ps),AC x.b.p (rowsL Am ts),AC x.c.p (rowsL Am ss)]) (tg λ(k:Nat)=>i-k) 0 (xu _) (sF O) sr (λk hJ=>?_)
  have hk:=hJ
  refine q4 (st' (AW (c:=(decide (k<i))) O O (B_ (a:=k) (b:=i))) O (oNl' (q1 ?_)))
  refine zO O (λhc1=>?_) (λhc1=>?_)
  ·replace hc1:=xR hc1
   refine zJ (q1 (zN (q4 (AJ O (asg' O (q3 (sL [1,11,12,3,4,18,19,5] O) (An 1 Bu O (AJ O (Bx call225 (λw hw=>Kp x k Z Z Z (Cs hv.num Z) w (inS hw 2 O lx)) O (al Xo O λb3=>Aj O sizeOf291 O ?_))))))))))
   refine q3 (sL [1,11,12,3,4,18,19,6] O) (An 1 NO O (An 0 NO O (ck' call226 (VP (Bt ps (ts.getD i (0,0,0))) (Bt ps (ts.getD k (0,0,0))) (hq _) (hq _)) O (st' (BB (c:=(!(Er (Bt ps (ts.getD i (0,0,0))) (Bt ps (ts.getD k (0,0,0)))))) O O) O (AJ O ?_)))))
   refine zg (FM:=[(1,(pP b1 0)),(11,(vN ts.length)),(12,(vN i)),(3,(vN i)),(4,(pP b2 0)),(18,(vN i)),(19,(vN k)),(6,(pP b3 0)),(25,(aG (IH (Bt ps (ts.getD i (0,0,0)))))),(26,(aG (IH (Bt ps (ts.getD k (0,0,0)))))),(27,(qa (Er (Bt ps (ts.getD i (0,0,0))) (Bt ps (ts.getD k (0,0,0)))))),(28,(qa (!(Er (Bt ps (ts.getD i (0,0,0))) (Bt ps (ts.getD k (0,0,0))))))),(29,(qa (!(Er (Bt ps (ts.getD i (0,0,0))) (Bt ps (ts.getD k (0,0,0))))))),(34,(qa ((!(Er (Bt ps (ts.getD i (0,0,0))) (Bt ps (ts.getD k (0,0,0)))))&&(!(Er (Bt ps (ts.getD k (0,0,0))) (Bt ps (ts.getD i (0,0,0))))))))]) (LM:=[AU b3 291 (IH (Bt ps (ts.getD k (0,0,0)))),AU b2 291 (IH (Bt ps (ts.getD i (0,0,0)))),AU b1 30 (E9 x),AC x.a.p (rowsL Ad ps),AC x.b.p (rowsL Am ts),AC x.c.p (rowsL Am ss)]) 5 ?_ ?_
   ·rcases xO (!(Er (Bt ps (ts.getD i (0,0,0))) (Bt ps (ts.getD k (0,0,0))))) with hg1|hg1
    ·refine zK (k:=29) (u:=qa true) O (by rw [hg1]) ?_
     have hg1':=hg1
     simp only [jK] at hg1'
     exact Au (v:=(aG (IH (Bt ps (ts.getD k (0,0,0)))))) O (Ac (i:=0) (vs:=IH (Bt ps (ts.getD k (0,0,0)))) O O NO.a NO.s O O) (Au (v:=(aG (IH (Bt ps (ts.getD i (0,0,0)))))) O (Ac (i:=1) (vs:=IH (Bt ps (ts.getD i (0,0,0)))) O O NO.a NO.s O O) (zj (v:=(qa (Er (Bt ps (ts.getD k (0,0,0))) (Bt ps (ts.getD i (0,0,0)))))) (AN O) (Ak (args:=[(aG (IH (Bt ps (ts.getD k (0,0,0))))),(aG (IH (Bt ps (ts.getD i (0,0,0)))))]) O O call226) (λw hw=>VP (Bt ps (ts.getD k (0,0,0))) (Bt ps (ts.getD i (0,0,0))) (hq _) (hq _) w) O (leB O) (Au (v:=(qa (!(Er (Bt ps (ts.getD k (0,0,0))) (Bt ps (ts.getD i (0,0,0))))))) O (BB (c:=(!(Er (Bt ps (ts.getD k (0,0,0))) (Bt ps (ts.getD i (0,0,0)))))) O O) (st' (v:=(qa (!(Er (Bt ps (ts.getD k (0,0,0))) (Bt ps (ts.getD i (0,0,0))))))) (ex_pick_true O O) O (oNl' (zS Bi (xP _)))))))
    ·refine zK (k:=29) (u:=qa false) O (by rw [hg1]) ?_
     have hg1':=hg1
     simp only [jK] at hg1'
     exact Aw O (Aw O (Aw O (Aw O (st' (v:=(qa false)) (AI O O) O (oNl' (zS Bi (xP _)))))))
   refine oNl' (zF (sL [1,11,12,3,4,18,19,6,34] O) (zC ?_))
   refine zO O (λhc2=>?_) (λhc2=>?_)
   ·simp only [jK] at hc2
    have h9:=hv.apart i k Z Z;rw [hc2.1,hc2.2] at h9;cases h9
   ·simp only [jK] at hc2
    exact zJ (zP (zC (zQ (st' (AV (c:=((k+1:Nat):Int)) O O (AY (a:=k) (b:=1) Z)) O (AJ O (oNl' (zF (sL [1,11,12,3,4,18,19,6] O) (zm (k+1) Z Z (sF O) (sl sr)))))))))
  ·replace hc1:=xQ hc1
   refine zY (zR (zh (zV (q2 (st' (v:=(pP b1 0)) (AA O underlying30 O sizeOf28 O) O (A_ 1 (qz x.a.p ps.length x.a.c) DS O (st' (v:=(vN ps.length)) (AD O underlying28) O (AJ O (oNl' (zF (sL [1,11,12,3,4,18,19,37,38,39] O) (zC ?_)))))))))))
   refine zN ?_
   refine zw (tg λ(p:Nat)=>p<=ps.length) (tg λ(p:Nat)=>[(1,(pP b1 0)),(11,(vN ts.length)),(12,(vN i)),(3,(vN i)),(4,(pP b2 0)),(37,(qz x.a.p ps.length x.a.c)),(38,(vN ps.length)),(39,(vN p))]) (tg λ(p:Nat)=>[AU b2 291 (IH (Bt ps (ts.getD i (0,0,0)))),AU b1 30 (E9 x),AC x.a.p (rowsL Ad ps),AC x.b.p (rowsL Am ts),AC x.c.p (rowsL Am ss)]) (tg λ(p:Nat)=>ps.length-p) 0 (xu _) (sF O) sr (λp hJ=>?_)
   have hp:=hJ
   refine q4 (st' (AW (c:=(decide (p<ps.length))) O O (B_ (a:=p) (b:=ps.length))) O (oNl' (q1 ?_)))
   refine zO O (λhc3=>?_) (λhc3=>?_)
   ·replace hc3:=xR hc3
    refine zJ (q1 (zN (q4 (AJ O (st' (v:=(pP (pB x.a.p) (pO x.a.p+p*10))) (AF (j:=p) O O x.a.ok underlying28 sizeOf99 O Z) O (st' (v:=(aG (Ad (ps.getD p (⟨0,0⟩:Pt))))) (AH (vs:=Ad (ps.getD p (⟨0,0⟩:Pt))) (i:=2) O O (Ao.ne x.a.ok Z) BD (AZ Az _ _ _ Z) (Az _)) O (al Fh O λb3=>asg' O (Aj O sizeOf99 O (q3 (sL [1,11,12,3,4,37,38,39,8,7] O) (st' (v:=(pP b1 1)) (AA O underlying30 O sizeOf23 O) O ?_))))))))))
    refine A_ 2 (qz x.b.p ts.length x.b.c) CQ O (AJ O (st' (v:=(pP (pB x.b.p) (pO x.b.p+i*3))) (AF (j:=i) O O x.b.ok underlying23 sizeOf105 O Z) O (st' (v:=(qz (some ⟨(pB x.b.p),pO x.b.p+i*3,none⟩) 3 3)) (Nr O underlying105 sizeOf3 jY) O (AJ O (Bx call227 (λw hw=>Us (ts.getD i (0,0,0)) p ⟨some ⟨pB x.b.p,pO x.b.p+i*3,none⟩,3,cO _ _⟩ w (Zj (eB (inS hw 3 O lx)) Z _)) O (st' (BB (c:=(!(Gd (ts.getD i (0,0,0)) p))) O O) O (AJ O ?_)))))))
    refine zg (FM:=[(1,(pP b1 0)),(11,(vN ts.length)),(12,(vN i)),(3,(vN i)),(4,(pP b2 0)),(37,(qz x.a.p ps.length x.a.c)),(38,(vN ps.length)),(39,(vN p)),(8,(pP b3 0)),(7,(vN p)),(44,(pP b1 1)),(45,(qz x.b.p ts.length x.b.c)),(46,(vN i)),(47,(pP (pB x.b.p) (pO x.b.p+i*3))),(48,(qz (some ⟨(pB x.b.p),pO x.b.p+i*3,none⟩) 3 3)),(49,(vN p)),(50,(qa (Gd (ts.getD i (0,0,0)) p))),(51,(qa (!(Gd (ts.getD i (0,0,0)) p)))),(52,(qa (!(Gd (ts.getD i (0,0,0)) p)))),(62,(qa ((!(Gd (ts.getD i (0,0,0)) p))&&false)))]) (LM:=[AU b3 99 (Ad (ps.getD p (⟨0,0⟩:Pt))),AU b2 291 (IH (Bt ps (ts.getD i (0,0,0)))),AU b1 30 (E9 x),AC x.a.p (rowsL Ad ps),AC x.b.p (rowsL Am ts),AC x.c.p (rowsL Am ss)]) 10 ?_ ?_
    ·rcases xO (!(Gd (ts.getD i (0,0,0)) p)) with hg2|hg2
     ·refine zK (k:=52) (u:=qa true) O (by rw [hg2]) ?_
      have hg2':=hg2
      simp only [jK] at hg2'
      exact Au (v:=(pP b2 0)) O (AB (j:=0) O O underlying291 sizeOf99 O jY O) (Au (v:=(aG (Ad ((Bt ps (ts.getD i (0,0,0))).1)))) O (Ac (i:=1) (vs:=Ad ((Bt ps (ts.getD i (0,0,0))).1)) O O BD.a BD.s O O) (Au (v:=(pP b2 10)) O (AB (j:=1) O O underlying291 sizeOf99 O jY O) (Au (v:=(aG (Ad ((Bt ps (ts.getD i (0,0,0))).2.1)))) O (Ac (i:=1) (vs:=Ad ((Bt ps (ts.getD i (0,0,0))).2.1)) O O BD.a BD.s O O) (Au (v:=(pP b2 20)) O (AB (j:=2) O O underlying291 sizeOf99 O jY O) (Au (v:=(aG (Ad ((Bt ps (ts.getD i (0,0,0))).2.2)))) O (Ac (i:=1) (vs:=Ad ((Bt ps (ts.getD i (0,0,0))).2.2)) O O BD.a BD.s O O) (Au (v:=(aG (Ad (ps.getD p (⟨0,0⟩:Pt))))) O (Ac (i:=0) (vs:=Ad (ps.getD p (⟨0,0⟩:Pt))) O O BD.a BD.s O O) (zj (v:=(vN (Rk ps (ps.getD p ⟨0,0⟩) (ts.getD i (0,0,0))))) (AN O) (Ak (args:=[(aG (Ad ((Bt ps (ts.getD i (0,0,0))).1))),(aG (Ad ((Bt ps (ts.getD i (0,0,0))).2.1))),(aG (Ad ((Bt ps (ts.getD i (0,0,0))).2.2))),(aG (Ad (ps.getD p (⟨0,0⟩:Pt))))]) O O call228) (λw hw=>av ((Bt ps (ts.getD i (0,0,0))).1) ((Bt ps (ts.getD i (0,0,0))).2.1) ((Bt ps (ts.getD i (0,0,0))).2.2) (ps.getD p ⟨0,0⟩) (by have z1:=hq (ts.getD i (0,0,0));have z2:BV (ps.getD p ⟨0,0⟩)<=1000000:=hv.szM p;omega) w) O (leB O) (Au (v:=(qa false)) O (Bf (c:=false) O O (xq (by have h8:=hv.crn i p Z Z hg2';unfold BQ at h8;omega))) (st' (v:=(qa false)) (ex_pick_true O O) O (oNl' (zS EW (xP _))))))))))))
     ·refine zK (k:=52) (u:=qa false) O (by rw [hg2]) ?_
      have hg2':=hg2
      simp only [jK] at hg2'
      exact Aw O (Aw O (Aw O (Aw O (Aw O (Aw O (Aw O (Aw O (Aw O (st' (v:=(qa false)) (AI O O) O (oNl' (zS EW (xP _))))))))))))
    refine oNl' (zF (sL [1,11,12,3,4,37,38,39,8,62] O) (zC ?_))
    refine zO O (λhc4=>?_) (λhc4=>?_)
    ·simp only [jK] at hc4
     simp at hc4
    ·simp only [jK] at hc4
     exact zJ (zP (zC (zQ (st' (AV (c:=((p+1:Nat):Int)) O O (AY (a:=p) (b:=1) Z)) O (AJ O (oNl' (zF (sL [1,11,12,3,4,37,38,39,8] O) (zm (p+1) Z Z (sF O) (sl sr)))))))))
   ·replace hc3:=xQ hc3
    exact zY (zR (zh (zV (zP (zC (zQ (st' (AV (c:=((i+1:Nat):Int)) O O (AY (a:=i) (b:=1) Z)) O (AJ O (oNl' (zF (sL [1,11,12,3,4,37,38,39] O) (zm (i+1) Z Z (sF O) (sl sr))))))))))))
 ·replace hc0:=xQ hc0
  exact zY (zR (zh (zV (q2 (asg' O (oNl' (zC (zH (ret_one O (rd_tmp (v:=(qa true)) O) (λw hw=>⟨rfl,hw.out⟩))))))))))
end
section
set_option maxRecDepth 100000
theorem YZ (x y:Pt) (hx:BV x<=1000) (hy:BV y<=1000) (w:World)  :Calls prog 222 #[(aG (Ad x)),(aG (Ad y))] w (AX w (vI (Ni x y))):=by
 refine AS (args:=[(aG (Ad x)),(aG (Ad y))]) func222 O O (leB O) (zM (sL [0,1] O) (q4 (BG (cs:=Ad x) O λb1=>BG (cs:=Ad y) O λb2=>asg' O (q6 (sL [2,3,4] O) (zN (q4 (An 1 BD O (An 0 BD O (ck' call223 (NC x y (by assumption) (by assumption)) O ?_)))))))))
 refine asg' O (oNl' (zF (sL [2,3,4,5] O) (zC ?_)))
 refine zO O (λhc0=>?_) (λhc0=>?_)
 ·replace hc0:=xR hc0
  exact q4 (asg' O (oNl' (zC (zH (zU (zI (ret_one O (rd_tmp (v:=(vI (-1:Int))) O) (λw hw=>⟨by unfold Ni;rw [if_pos hc0],hw.out⟩))))))))
 ·replace hc0:=xQ hc0
  refine q4 (An 0 BD O (An 1 BD O (ck' call223 (NC y x (by assumption) (by assumption)) O (asg' O (oNl' (zF (sL [2,3,4,9] O) (zC ?_)))))))
  refine zO O (λhc1=>?_) (λhc1=>?_)
  ·replace hc1:=xR hc1
   exact q4 (asg' O (oNl' (zC (zH (zU (zI (ret_one O (rd_tmp (v:=(vI 1)) O) (λw hw=>⟨by unfold Ni;rw [if_neg hc0,if_pos hc1],hw.out⟩))))))))
  ·replace hc1:=xQ hc1
   exact zJ (zP (q2 (asg' O (oNl' (zC (zH (ret_one O (rd_tmp (v:=(vI 0)) O) (λw hw=>⟨by unfold Ni;rw [if_neg hc0,if_neg hc1],hw.out⟩))))))))
end
section
abbrev c7:={ p:Pt // BV p<=1000 }
instance:Inhabited c7:=⟨⟨⟨0,0⟩,by decide⟩⟩
theorem gX:∀xs:List Pt,(∀x∈xs,BV x<=1000)->∃ds:List c7,ds.map (·.1)=xs
  | [],_=>⟨[],rfl⟩
  | x::r,h=>by
    obtain ⟨ds,e⟩:=gX r λy hy=>h y (List.mem_cons_of_mem _ hy)
    exact ⟨⟨x,h x List.mem_cons_self⟩::ds,by rw [List.map_cons,e]⟩
def MI (x:c7):List Value:=Ad x.1
def dU (x y:c7):Int:=Ni x.1 y.1
theorem gD:Go.Sort.SWO (ltOf dU) where
  irrefl x:=xq (by unfold dU;rw [GF];unfold WZ;grind)
  trans x y z h1 h2:=by
    have h1:=GF.1 (xR h1)
    have h2:=GF.1 (xR h2)
    refine xr (GF.2 ?_)
    unfold WZ at *
    grind
  ntrans x y z h1 h2:=by
    have h1:¬Ni x.1 y.1<0:=xQ h1
    have h2:¬Ni y.1 z.1<0:=xQ h2
    rw [GF] at h1 h2
    refine xq ?_
    unfold dU
    rw [GF]
    unfold WZ at *
    grind
theorem dV (AU off size:Nat) (w:World):CmpLays prog 222 #[] MI 10 dU AU off size w:=λm os dk _ x y=>by
  rw [Array.append_empty]
  exact (YZ x.1 y.1 x.2 y.2 _).mono λe w' h=>⟨h.1,SP h.2⟩
theorem My {d:Array c7} {t:Nat} (h:t<d.size*10):(rowsL Ad (d.toList.map (·.1)))[t]?=some (Go.Sort.flatK MI 10 d)[t]!:=by
  rw [Go.Sort.get_flatK _ _ _ _ h]
  have h1:t/10<d.size:=by omega
  have h2:=By Az (⟨0,0⟩:Pt) (d.toList.map (·.1)) (t/10) (t%10) (by simpa using h1) (Nat.mod_lt _ jY) (v:=(MI d[t/10]!)[t%10]!) (by
    rw [List.getD,List.getElem?_map,show d.toList[t/10]?=some d[t/10] from by simp [h1],getElem!_pos d (t/10) h1]
    show (Ad (d[t/10]).1)[t%10]?=some (Ad (d[t/10]).1)[t%10]!
    have hl:t%10<(Ad (d[t/10]).1).length:=by rw [Az];exact Nat.mod_lt _ jY
    rw [xN hl,getElem!_pos (Ad (d[t/10]).1) (t%10) hl])
  rw [show t/10*10+t%10=t by omega] at h2
  exact h2
theorem ZM (x:c7):∀v∈MI x,v.oneCell'=true:=λv hv=>by
  unfold MI Ad AG at hv
  simp only [xy,List.mem_append,List.not_mem_nil,or_false] at hv
  rcases hv with (rfl|rfl|rfl|rfl|rfl)|(rfl|rfl|rfl|rfl|rfl)<;>rfl
theorem Xd (xs:List Pt) (p:Option Addr) (n c:Nat) (T:TypeId) (ho:OwnOk p n c) (hp0:p≠none) (hn:n=xs.length) (hN:n<4611686018427387904) (hb:∀x∈xs,BV x<=1000) (w:World) (hrow:∀b,p.map (·.block)=some b->∃o,w.heap[b]?=some o/\(rowW p T 10 n c (rowsL Ad xs)).P o) :
    Calls prog 221 #[.slice p n c,.func (.func 222) #[] #[]] w λe w'=>e=.returned (.tuple #[])/\Jf w w' (p.map (·.block))/\∃ys:List Pt,ys.Perm xs/\∀b,p.map (·.block)=some b->∃o,w'.heap[b]?=some o/\(rowW p T 10 n c (rowsL Ad ys)).P o:=by
  cases hp:p with
  | none=>exact absurd hp hp0
  | some a =>
    subst hp
    obtain ⟨o,hob,cur,rfl,hsz,hcur⟩:=hrow a.block rfl
    have hat:=ho.at0 a rfl
    have hle:=ho.le
    obtain ⟨ds,hds⟩:=gX xs hb
    have hdl:ds.length=n:=by rw [hn,<-hds,xv]
    obtain ⟨d,hd⟩:∃d,d=ds.toArray:=⟨_,rfl⟩
    have hdz:d.size=n:=by rw [hd];simpa using hdl
    have hdx:d.toList.map (·.1)=xs:=by rw [hd];exact hds
    have hH:Go.Sort.HoldsK MI 10 w a.block 0 d:=λj hj=>by
      have hj':j<d.size*10:=by simpa using hj
      refine ⟨?_,by simp [World.frozen?,hob]⟩
      have h1:(cur.toList.take (n*10))[j]?=(rowsL Ad xs)[j]?:=by rw [hcur]
      rw [List.getElem?_take_of_lt Z,Array.getElem?_toList,<-hdx,My hj'] at h1
      show w.cell? ⟨a.block,0+j,none⟩=some (id (Go.Sort.flatK MI 10 d)[j]!)
      unfold World.cell?
      simp only [hob,Nat.zero_add]
      exact h1
    have hlt:a.block<w.heap.size:=by
      rcases Nat.lt_or_ge a.block w.heap.size with h|h
      · exact h
      · rw [Array.getElem?_eq_none h] at hob;cases hob
    have h:=Tryz.slices_SortFunc_Point 10 isAgg99 sizeOf99 MI (λx=>Az x.1) ZM dU gD 222 #[] a.block 0 c d w call222 (dV a.block 0 d.size w) hH hlt Z
    rw [hdz] at h
    rw [hat]
    refine h.mono ?_
    rintro e w' ⟨rfl,d',m,os,⟨hz',_,hperm⟩,_,rfl⟩
    have hz2:d'.size=n:=by rw [hz',hdz]
    have hperm':d'.toList.Perm d.toList:=by
      have e1:d'.extract 0 n=d':=by rw [<-hz2];exact Array.extract_size
      have e2:d.extract 0 n=d:=by rw [<-hdz];exact Array.extract_size
      rw [e1,e2] at hperm
      exact hperm
    have hF:(Go.Sort.flatK MI 10 d').size=n*10:=by rw [Go.Sort.size_flatK,hz2]
    refine ⟨rfl,⟨⟨rfl,rfl,rfl,by simp [sortWorldK,Go.Sort.grow,Go.Sort.putRowK,Go.Sort.putRow,Go.Sort.mapBlock,Go.Sort.ahead],λj hj hne=>?_⟩,by show w.drawn<=w.drawn+m;omega⟩,d'.toList.map (·.1),by rw [<-hdx];exact hperm'.map _,λb e=>?_⟩
    · have hne':a.block≠j:=λe=>hne (by rw [e];rfl)
      unfold sortWorldK
      rw [Go.Sort.heap_grow_old _ _ (by simpa [Go.Sort.putRowK,Go.Sort.putRow,Go.Sort.mapBlock,Go.Sort.ahead] using hj)]
      simp [Go.Sort.putRowK,Go.Sort.putRow,Go.Sort.mapBlock,Go.Sort.ahead,Array.getElem?_modify,hne']
    · injection e with e
      subst e
      refine ⟨.cells (Go.Sort.putCells id 0 (Go.Sort.flatK MI 10 d') cur) T (0,0),?_,_,rfl,by simp [Go.Sort.putCells,hsz],?_⟩
      · unfold sortWorldK
        rw [Go.Sort.heap_grow_old _ _ (by simpa [Go.Sort.putRowK,Go.Sort.putRow,Go.Sort.mapBlock,Go.Sort.ahead] using hlt)]
        simp [Go.Sort.putRowK,Go.Sort.putRow,Go.Sort.mapBlock,Go.Sort.ahead,Array.getElem?_modify,hob,Go.Sort.onCells]
      · apply List.ext_getElem?
        intro j
        have hlen:(rowsL Ad (d'.toList.map (·.1))).length=n*10:=by rw [Al Az,xv,Array.length_toList,hz2]
        by_cases hj:j<n*10
        · have hcs:n*10<=c*10:=Nat.mul_le_mul_right _ hle
          rw [List.getElem?_take_of_lt hj,Array.getElem?_toList,My (by rw [hz2];exact hj)]
          unfold Go.Sort.putCells
          rw [Array.getElem?_mapIdx,Array.getElem?_eq_getElem Z,Option.map_some,if_pos ⟨xu _,Z⟩]
          rfl
        · rw [List.getElem?_take_eq_none Z,List.getElem?_eq_none Z]
section
variable {P:Program} {ops:Array Oper} {rest:List Oper} {Q:Exit->Act->World->Prop} {n:Nat} {F:List (Nat×Value)} {w0:BA} {L:List As}
theorem AQ.callWX {o:Oper} {f:FuncId} {args:Array Value} {v:Value} {α:Type} {K:α->Prop} {cs':α->List Value} (i:Nat) {q:Option Addr} {T:TypeId} {z m c:Nat} {cs:List Value} (hw:Wt ops n F o)
    (he:∀a w,C8 n a F->BE w0 w L->(execOp a.eval o).run P w=.ok (.enter f args) w) (hi:L[i]?=some (rowW q T z m c cs))
    (hc:∀w,BE w0 w L->Calls P f args w λe w'=>e=.returned v/\Jf w w' (q.map (·.block))/\∃y,K y/\∀b,q.map (·.block)=some b->∃o,w'.heap[b]?=some o/\(rowW q T z m c (cs' y)).P o)
    (hd:∀d,o.dst=some d->d<n) (next:∀y,K y->AQ P ops rest Q n (match o.dst with|some d=>(d,v)::F|none=>F) w0 (L.set i (rowW q T z m c (cs' y)))):AQ P ops (o::rest) Q n F w0 L:=λa w ha hW=>by
  unfold wpList
  rw [if_pos (hw a ha)]
  left
  unfold Oper.wp
  rw [he a w ha hW,Oper.upon_enter]
  refine (hc w hW).mono ?_
  rintro e w' ⟨rfl,hg,y,hk,hr⟩
  have hW':=hW.renew hi rfl hg (y:=rowW q T z m c (cs' y)) λb e=>⟨.inl e,hr b e⟩
  have next:=next y hk
  cases hdd:o.dst with
  | none=>rw [hdd] at next;exact next _ _ ha.put_none hW'
  | some d=>rw [hdd] at next;exact next _ _ (ha.put (hd d hdd)) hW'
end
end
end Go.Proofs.YtpolhpjiahbidaaGreatDoor
