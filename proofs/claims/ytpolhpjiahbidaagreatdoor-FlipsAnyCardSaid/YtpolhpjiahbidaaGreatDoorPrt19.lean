import Derived.Test.YtpolhpjiahbidaaGreatDoorPrt18
namespace Go.Proofs.YtpolhpjiahbidaaGreatDoor
open Go Go.RowKit Go.Proofs.Tryz
open Go.Value renaming slice→qz,bool→qa
set_option linter.unusedVariables false
set_option linter.unusedSimpArgs false
section
set_option maxRecDepth 100000
theorem Vz (T:T3) (a b:Nat) (h1:a+b<=T.1+T.2.1+T.2.2) (h2:T.1<1000000/\T.2.1<1000000/\T.2.2<1000000) (w:World)  :Calls prog 140 #[(aG (Am T)),(vN a),(vN b)] w (AX w (vN (Jy T a b))):=by
 refine AS (args:=[(aG (Am T)),(vN a),(vN b)]) func140 O O (leB O) (zM (sL [0,1,2] O) (q4 (BG (cs:=Am T) O λb1=>asg' O (q3 (sL [1,2,3,6] O) (st' (v:=(pP b1 0)) (AB (j:=0) O O underlying105 sizeOf3 O jY O) O (A_ 0 (vN T.1) BN O (st' (v:=(pP b1 1)) (AB (j:=1) O O underlying105 sizeOf3 O jY O) O (A_ 0 (vN T.2.1) BN O (st' (AV (c:=((T.1+T.2.1:Nat):Int)) O O (AY (a:=T.1) (b:=T.2.1) Z)) O (st' (v:=(pP b1 2)) (AB (j:=2) O O underlying105 sizeOf3 O jY O) O ?_))))))))))
 exact A_ 0 (vN T.2.2) BN O (st' (AV (c:=(((T.1+T.2.1)+T.2.2:Nat):Int)) O O (AY (a:=T.1+T.2.1) (b:=T.2.2) Z)) O (AJ O (st' (Bc (c:=((((T.1+T.2.1)+T.2.2)-a:Nat):Int)) O O (B8 (a:=(T.1+T.2.1)+T.2.2) (b:=a) Z Z)) O (AJ O (st' (Bc (c:=(((((T.1+T.2.1)+T.2.2)-a)-b:Nat):Int)) O O (B8 (a:=((T.1+T.2.1)+T.2.2)-a) (b:=b) Z Z)) O (asg' O (oNl' (zF (sL [6] O) (zC (zH (ret_one O (rd_tmp (v:=(vN ((((T.1+T.2.1)+T.2.2)-a)-b))) O) (λw hw=>⟨rfl,hw.out⟩))))))))))))
theorem bv {ps:List Pt} {ts:List T3} {ss:List Z3} (x:MN ps ts ss) (e:E4) (hno:¬(0<=e.l/\0<=e.r)) (w:World) {S:Nat->Prop} (hx:Ro S w x):Calls prog 80 #[(aG (Ca x)),(aG (Ba e))] w (AX w (Value.tuple #[(aG (Jp ⟨e,0,0⟩)),(qa false)])):=by
 have lx:=Bq (W:=w) hx
 refine AR (args:=[(aG (Ca x)),(aG (Ba e))]) (L:=[AC x.a.p (rowsL Ad ps),AC x.b.p (rowsL Am ts),AC x.c.p (rowsL Af ss)]) func80 O O (leB O) (C7 hx Ae) (zM (sL [0,1] O) (q4 (BG (cs:=Ca x) O λb1=>BG (cs:=Ba e) O λb2=>al Lt O λb3=>asg' O (q3 (sL [2,3,4,5] O) (An 1 IN O (st' (v:=(pP b3 0)) (AA O underlying157 O sizeOf49 O) O (Ei 0 (off:=0) (vs:=Ba e) (cs':=Ba e++[(vI 0),(vI 0)]) (AM O) O sizeOf49 O (q6 (sL [2,4,5] O) ?_))))))))
 refine q4 (st' (v:=(pP b3 0)) (AA O underlying157 O sizeOf49 O) O (st' (v:=(pP b3 2)) (AA O underlying49 O sizeOf3 O) O (A_ 0 (vI e.l) BN O (st' (AW (c:=(decide (e.l<(0:Int)))) O O O) O (AJ O ?_)))))
 refine zg (FM:=[(2,(pP b1 0)),(4,(pP b3 0)),(5,(qa false)),(8,(pP b3 0)),(9,(pP b3 2)),(10,(vI e.l)),(11,(qa (decide (e.l<(0:Int))))),(12,(qa (decide (e.l<(0:Int))))),(17,(qa ((decide (e.l<(0:Int)))||(decide (e.r<(0:Int))))))]) (LM:=[AU b3 157 (Ba e++[(vI 0),(vI 0)]),AU b2 49 (Ba e),AU b1 30 (Ca x),AC x.a.p (rowsL Ad ps),AC x.b.p (rowsL Am ts),AC x.c.p (rowsL Af ss)]) 5 ?_ ?_
 ·rcases xO (decide (e.l<(0:Int))) with hg1|hg1
  ·refine zK (k:=12) (u:=qa true) O (by rw [hg1]) ?_
   have hg1':=xR hg1
   exact Aw O (Aw O (Aw O (Aw O (st' (v:=(qa true)) (ex_pick_true O O) O (oNl' (zS Bi (xP _)))))))
  ·refine zK (k:=12) (u:=qa false) O (by rw [hg1]) ?_
   have hg1':=xQ hg1
   exact Au (v:=(pP b3 0)) O (AA O underlying157 O sizeOf49 O) (Au (v:=(pP b3 3)) O (AA O underlying49 O sizeOf3 O) (Au (v:=(vI e.r)) O (AE (i:=0) (v:=(vI e.r)) O O BN.a O) (Au (v:=(qa (decide (e.r<(0:Int))))) O (AW (c:=(decide (e.r<(0:Int)))) O O O) (st' (v:=(qa (decide (e.r<(0:Int))))) (AI O O) O (oNl' (zS Bi (xP _)))))))
 refine oNl' (zF (sL [2,4,5,17] O) (zC ?_))
 refine zO O (λhc0=>?_) (λhc0=>?_)
 ·simp only [jK] at hc0
  exact q4 (An 0 HQ O (Aj O sizeOf157 O (asg' O (oNl' (zF (sL [2,4,5] O) (zC (zH (zI (BR O (Ah (i:=0) (cs:=Ba e++[(vI 0),(vI 0)]) O O isAgg157 sizeOf157 O) (rd_tmp (v:=(qa false)) O) (λw hw=>⟨rfl,hw.out⟩))))))))))
 ·simp only [jK] at hc0
  exfalso;omega
theorem bw {ps:List Pt} {ts:List T3} {ss:List Z3} (x:MN ps ts ss) (a b p q c d:Nat) (hnb:Bn ps.length ts=true) (hpl:p<ts.length) (hql:q<ts.length) (h1:VA ps.length (ts.getD p (0,0,0)) a b c) (h2:VA ps.length (ts.getD q (0,0,0)) b a d) (hN:ps.length<=1000000) (w:World) {S:Nat->Prop} (hx:Ro S w x):Calls prog 80 #[(aG (Ca x)),(aG ([(vN a),(vN b),(vN p),(vN q)]))] w (AX w (Value.tuple #[(aG (Jp ⟨⟨a,b,(p:Int),(q:Int)⟩,c,d⟩)),(qa true)])):=by
 have lx:=Bq (W:=w) hx
 refine AR (args:=[(aG (Ca x)),(aG ([(vN a),(vN b),(vN p),(vN q)]))]) (L:=[AC x.a.p (rowsL Ad ps),AC x.b.p (rowsL Am ts),AC x.c.p (rowsL Af ss)]) func80 O O (leB O) (C7 hx Ae) (zM (sL [0,1] O) (q4 (BG (cs:=Ca x) O λb1=>BG (cs:=[(vN a),(vN b),(vN p),(vN q)]) O λb2=>al Lt O λb3=>asg' O (q3 (sL [2,3,4,5] O) (An 1 IN O (st' (v:=(pP b3 0)) (AA O underlying157 O sizeOf49 O) O (Ei 0 (off:=0) (vs:=[(vN a),(vN b),(vN p),(vN q)]) (cs':=[(vN a),(vN b),(vN p),(vN q),(vI 0),(vI 0)]) (AM O) O sizeOf49 O (q6 (sL [2,4,5] O) ?_))))))))
 refine q4 (st' (v:=(pP b3 0)) (AA O underlying157 O sizeOf49 O) O (st' (v:=(pP b3 2)) (AA O underlying49 O sizeOf3 O) O (A_ 0 (vN p) BN O (st' (AW (c:=(decide (p<0))) O O (B_ (a:=p) (b:=0))) O (AJ O ?_)))))
 refine zg (FM:=[(2,(pP b1 0)),(4,(pP b3 0)),(5,(qa false)),(8,(pP b3 0)),(9,(pP b3 2)),(10,(vN p)),(11,(qa (decide (p<0)))),(12,(qa (decide (p<0)))),(17,(qa ((decide (p<0))||(decide (q<0)))))]) (LM:=[AU b3 157 ([(vN a),(vN b),(vN p),(vN q),(vI 0),(vI 0)]),AU b2 49 ([(vN a),(vN b),(vN p),(vN q)]),AU b1 30 (Ca x),AC x.a.p (rowsL Ad ps),AC x.b.p (rowsL Am ts),AC x.c.p (rowsL Af ss)]) 5 ?_ ?_
 ·rcases xO (decide (p<0)) with hg1|hg1
  ·refine zK (k:=12) (u:=qa true) O (by rw [hg1]) ?_
   have hg1':=xR hg1
   exact Aw O (Aw O (Aw O (Aw O (st' (v:=(qa true)) (ex_pick_true O O) O (oNl' (zS Bi (xP _)))))))
  ·refine zK (k:=12) (u:=qa false) O (by rw [hg1]) ?_
   have hg1':=xQ hg1
   exact Au (v:=(pP b3 0)) O (AA O underlying157 O sizeOf49 O) (Au (v:=(pP b3 3)) O (AA O underlying49 O sizeOf3 O) (Au (v:=(vN q)) O (AE (i:=0) (v:=(vN q)) O O BN.a O) (Au (v:=(qa (decide (q<0)))) O (AW (c:=(decide (q<0))) O O (B_ (a:=q) (b:=0))) (st' (v:=(qa (decide (q<0)))) (AI O O) O (oNl' (zS Bi (xP _)))))))
 refine oNl' (zF (sL [2,4,5,17] O) (zC ?_))
 refine zO O (λhc0=>?_) (λhc0=>?_)
 ·simp only [jK] at hc0
  exfalso;omega
 ·simp only [jK] at hc0
  refine zJ (q1 (iI [(0,true),(1,true),(2,true),(3,true),(4,true),(5,true),(6,true),(7,true),(8,true),(9,true),(10,true),(11,true),(12,true),(14,true),(15,true),(16,true),(17,true),(18,true),(19,true),(20,true),(21,true),(22,true),(23,true),(24,true),(25,true),(26,true),(13,false),(28,true),(27,false)] 29 [(30,true),(31,false)] sr (sl sr) jV (λ_ _ d _ _ h=>by cases d<;>exact h) (CZ.pasA (v:=(pP b1 1)) O jV (AM O) (AA O underlying30 O sizeOf23 O) O O (CZ.pasA (v:=(qz x.b.p ts.length x.b.c)) O jV (AM O) (AE (i:=2) (v:=(qz x.b.p ts.length x.b.c)) O O CQ.a O) O O (CZ.pasA (v:=(pP b3 0)) O jV (AM O) (AA O underlying157 O sizeOf49 O) O O (CZ.pasA (v:=(pP b3 2)) O jV (AM O) (AA O underlying49 O sizeOf3 O) O O (CZ.pasA (v:=(vN p)) O jV (AM O) (AE (i:=0) (v:=(vN p)) O O BN.a O) O O (CZ.pasA (v:=(pP (pB x.b.p) (pO x.b.p+p*3))) O jV (AM O) (AF (j:=p) O O x.b.ok underlying23 sizeOf105 O Z) O O (CZ.pasA (v:=(aG (Am (ts.getD p ((0,0,0):Tq3))))) O jV (AM O) (AH (vs:=Am (ts.getD p ((0,0,0):Tq3))) (i:=4) O O (Ao.ne x.b.ok Z) CY (AZ A8 _ _ _ Z) (A8 _)) O O (CZ.pasA (v:=(pP b3 0)) O jV (AM O) (AA O underlying157 O sizeOf49 O) O O (CZ.pasA (v:=(pP b3 0)) O jV (AM O) (AA O underlying49 O sizeOf3 O) O O ?_)))))))))))
  refine CZ.pasA (v:=(vN a)) O jV (AM O) (AE (i:=0) (v:=(vN a)) O O BN.a O) O O (CZ.pasA (v:=(pP b3 0)) O jV (AM O) (AA O underlying157 O sizeOf49 O) O O (CZ.pasA (v:=(pP b3 1)) O jV (AM O) (AA O underlying49 O sizeOf3 O) O O (CZ.pasA (v:=(vN b)) O jV (AM O) (AE (i:=0) (v:=(vN b)) O O BN.a O) O O (CZ.pasA (v:=(pP b1 1)) O jV (AM O) (AA O underlying30 O sizeOf23 O) O O (CZ.pasA (v:=(qz x.b.p ts.length x.b.c)) O jV (AM O) (AE (i:=2) (v:=(qz x.b.p ts.length x.b.c)) O O CQ.a O) O O (CZ.pasA (v:=(pP b3 0)) O jV (AM O) (AA O underlying157 O sizeOf49 O) O O (CZ.pasA (v:=(pP b3 3)) O jV (AM O) (AA O underlying49 O sizeOf3 O) O O (CZ.pasA (v:=(vN q)) O jV (AM O) (AE (i:=0) (v:=(vN q)) O O BN.a O) O O (CZ.pasA (v:=(pP (pB x.b.p) (pO x.b.p+q*3))) O jV (AM O) (AF (j:=q) O O x.b.ok underlying23 sizeOf105 O Z) O O (CZ.pasA (v:=(aG (Am (ts.getD q ((0,0,0):Tq3))))) O jV (AM O) (AH (vs:=Am (ts.getD q ((0,0,0):Tq3))) (i:=4) O O (Ao.ne x.b.ok Z) CY (AZ A8 _ _ _ Z) (A8 _)) O O (CZ.pasA (v:=(pP b3 0)) O jV (AM O) (AA O underlying157 O sizeOf49 O) O O ?_)))))))))))
  refine CZ.pasA (v:=(pP b3 0)) O jV (AM O) (AA O underlying49 O sizeOf3 O) O O (CZ.pasA (v:=(vN a)) O jV (AM O) (AE (i:=0) (v:=(vN a)) O O BN.a O) O O (CZ.pasA (v:=(pP b3 0)) O jV (AM O) (AA O underlying157 O sizeOf49 O) O O (CZ.pasA (v:=(pP b3 1)) O jV (AM O) (AA O underlying49 O sizeOf3 O) O O (CZ.pasA (v:=(vN b)) O jV (AM O) (AE (i:=0) (v:=(vN b)) O O BN.a O) O O (CZ.imp O (Bx (args:=[(aG (Am (ts.getD p ((0,0,0):Tq3)))),(vN a),(vN b)]) (v:=(vN c)) call140 (λw hw=>(by have h9:=Vz (ts.getD p ((0,0,0):Tq3)) a b (by have:=h1.far.2.2;omega) (by have:=DZ (Cs hnb hpl);omega) w;rw [show Jy (ts.getD p ((0,0,0):Tq3)) a b=c from h1.far.1] at h9;exact h9)) O (CZ.back sr (CZ.pasA (v:=(pP b3 4)) O jV (AM O) (AA O underlying157 O sizeOf3 O) O O (CZ.imp O (Bx (args:=[(aG (Am (ts.getD q ((0,0,0):Tq3)))),(vN a),(vN b)]) (v:=(vN d)) call140 (λw hw=>(by have h9:=Vz (ts.getD q ((0,0,0):Tq3)) a b (by have:=h2.far.2.2;omega) (by have:=DZ (Cs hnb hql);omega) w;rw [show Jy (ts.getD q ((0,0,0):Tq3)) a b=d from h2.far.2.1] at h9;exact h9)) O (CZ.back sr ?_)))))))))))
  refine CZ.cut O (Ei 0 (off:=4) (vs:=[(vN c)]) (cs':=[(vN a),(vN b),(vN p),(vN q),(vN c),(vI 0)]) (AM O) O sizeOf3 O (zG (sl sr) (Ag (v:=(pP b3 5)) O (AA O underlying157 O sizeOf3 O) (zL O (Ei 0 (off:=5) (vs:=[(vN d)]) (cs':=[(vN a),(vN b),(vN p),(vN q),(vN c),(vN d)]) (AM O) O sizeOf3 O (zG (sl sr) (zT (zF (sL [4,5] O) (q2 (An 0 HQ O (Aj O sizeOf157 O ?_)))))))))))
  exact asg' O (oNl' (zF (sL [4,5] O) (zC (zH (BR O (Ah (i:=0) (cs:=[(vN a),(vN b),(vN p),(vN q),(vN c),(vN d)]) O O isAgg157 sizeOf157 O) (rd_tmp (v:=(qa true)) O) (λw hw=>⟨rfl,hw.out⟩))))))
theorem Tz {ps:List Pt} {ts:List T3} {ss:List Z3} (x:MN ps ts ss) (a b p q c d:Nat) (ha:a<ps.length) (hb:b<ps.length) (hcl:c<ps.length) (hdl:d<ps.length) (hz:∀i,BV (BQ ps i)<=200000) (w:World) {S:Nat->Prop} (hx:Ro S w x):Calls prog 81 #[(aG ([(vN a),(vN b),(vN p),(vN q),(vN c),(vN d)])),(aG (Ca x))] w (AX w (qa (decide (Es (BQ ps a) (BQ ps b) (BQ ps c) (BQ ps d)≠1)))):=by
 have za:BV (ps.getD a (⟨0,0⟩:Pt))<=200000:=hz a
 have zb:BV (ps.getD b (⟨0,0⟩:Pt))<=200000:=hz b
 have zc:BV (ps.getD c (⟨0,0⟩:Pt))<=200000:=hz c
 have zd:BV (ps.getD d (⟨0,0⟩:Pt))<=200000:=hz d
 have lx:=Bq (W:=w) hx
 refine AR (args:=[(aG ([(vN a),(vN b),(vN p),(vN q),(vN c),(vN d)])),(aG (Ca x))]) (L:=[AC x.a.p (rowsL Ad ps),AC x.b.p (rowsL Am ts),AC x.c.p (rowsL Af ss)]) func81 O O (leB O) (C7 hx Ae) (zM (sL [0,1] O) (q4 (BG (cs:=[(vN a),(vN b),(vN p),(vN q),(vN c),(vN d)]) O λb1=>BG (cs:=Ca x) O λb2=>asg' O (q6 (sL [2,3,4] O) (CE (Dm 26++[(26,false),(27,true),(28,true)]) sr (Ag (v:=(pP b2 0)) O (AA O underlying30 O sizeOf28 O) (BC 0 (qz x.a.p ps.length x.a.c) DS O (Ag (v:=(pP b1 0)) O (AA O underlying157 O sizeOf49 O) (Ag (v:=(pP b1 0)) O (AA O underlying49 O sizeOf3 O) ?_)))))))))
 refine BC 1 (vN a) BN O (Ag (v:=(pP (pB x.a.p) (pO x.a.p+a*10))) O (AF (j:=a) O O x.a.ok underlying28 sizeOf99 O Z) (Ag (v:=(aG (Ad (ps.getD a (⟨0,0⟩:Pt))))) O (AH (vs:=Ad (ps.getD a (⟨0,0⟩:Pt))) (i:=2) O O (Ao.ne x.a.ok Z) BD (AZ Az _ _ _ Z) (Az _)) (Ag (v:=(pP b2 0)) O (AA O underlying30 O sizeOf28 O) (BC 0 (qz x.a.p ps.length x.a.c) DS O (Ag (v:=(pP b1 0)) O (AA O underlying157 O sizeOf49 O) (Ag (v:=(pP b1 1)) O (AA O underlying49 O sizeOf3 O) (BC 1 (vN b) BN O (Ag (v:=(pP (pB x.a.p) (pO x.a.p+b*10))) O (AF (j:=b) O O x.a.ok underlying28 sizeOf99 O Z) (Ag (v:=(aG (Ad (ps.getD b (⟨0,0⟩:Pt))))) O (AH (vs:=Ad (ps.getD b (⟨0,0⟩:Pt))) (i:=2) O O (Ao.ne x.a.ok Z) BD (AZ Az _ _ _ Z) (Az _)) (Ag (v:=(pP b2 0)) O (AA O underlying30 O sizeOf28 O) (BC 0 (qz x.a.p ps.length x.a.c) DS O ?_)))))))))))
 refine Ag (v:=(pP b1 4)) O (AA O underlying157 O sizeOf3 O) (BC 1 (vN c) BN O (Ag (v:=(pP (pB x.a.p) (pO x.a.p+c*10))) O (AF (j:=c) O O x.a.ok underlying28 sizeOf99 O Z) (Ag (v:=(aG (Ad (ps.getD c (⟨0,0⟩:Pt))))) O (AH (vs:=Ad (ps.getD c (⟨0,0⟩:Pt))) (i:=2) O O (Ao.ne x.a.ok Z) BD (AZ Az _ _ _ Z) (Az _)) (Ag (v:=(pP b2 0)) O (AA O underlying30 O sizeOf28 O) (BC 0 (qz x.a.p ps.length x.a.c) DS O (Ag (v:=(pP b1 5)) O (AA O underlying157 O sizeOf3 O) (BC 1 (vN d) BN O (Ag (v:=(pP (pB x.a.p) (pO x.a.p+d*10))) O (AF (j:=d) O O x.a.ok underlying28 sizeOf99 O Z) (Ag (v:=(aG (Ad (ps.getD d (⟨0,0⟩:Pt))))) O (AH (vs:=Ad (ps.getD d (⟨0,0⟩:Pt))) (i:=2) O O (Ao.ne x.a.ok Z) BD (AZ Az _ _ _ Z) (Az _)) (zL O (ck' call141 (S5 (ps.getD a (⟨0,0⟩:Pt)) (ps.getD b (⟨0,0⟩:Pt)) (ps.getD c (⟨0,0⟩:Pt)) (ps.getD d (⟨0,0⟩:Pt)) Z) O ?_)))))))))))
 exact zG sr (Ag O (Bf (c:=(decide ((Es (ps.getD a (⟨0,0⟩:Pt)) (ps.getD b (⟨0,0⟩:Pt)) (ps.getD c (⟨0,0⟩:Pt)) (ps.getD d (⟨0,0⟩:Pt)))≠(1:Int)))) O O O) (pS' O (zT (zF (sL [4] O) (zC (zH (ret_one O (rd_tmp (v:=(qa (decide ((Es (ps.getD a (⟨0,0⟩:Pt)) (ps.getD b (⟨0,0⟩:Pt)) (ps.getD c (⟨0,0⟩:Pt)) (ps.getD d (⟨0,0⟩:Pt)))≠(1:Int))))) O) (λw hw=>⟨rfl,hw.out⟩))))))))
theorem K3  :Instr.fill ([(0,1),(1,1),(2,1),(3,1)].toArray[·]?) (Ba jA).toArray []=some (Ba jA).toArray:=by kernel_rfl
set_option maxHeartbeats 1000000 in
theorem IW {ps:List Pt} {ts:List T3} {ss:List Z3} (x:MN ps ts ss) (u v:Int) (hnb:Bn ps.length ts=true) (htl:ts.length<=1000000) (hN:ps.length<=1000000) (w:World) {S:Nat->Prop} (hx:Ro S w x):Calls prog 79 #[(aG (Ca x)),(vI u),(vI v)] w (AX w (Value.tuple #[(aG (Ba (Dr ts u v))),(qa (decide (0<=FC ts u v)))])):=by
 have lx:=Bq (W:=w) hx
 refine AR (args:=[(aG (Ca x)),(vI u),(vI v)]) (L:=[AC x.a.p (rowsL Ad ps),AC x.b.p (rowsL Am ts),AC x.c.p (rowsL Af ss)]) func79 O O (leB O) (C7 hx Ae) (zM (sL [0,1,2] O) (q4 (BG (cs:=Ca x) O λb1=>al Hx O λb2=>asg' O (q6 (sL [1,2,3,6,7] O) (q4 (An 1 Bu O (cX (S:=S) (cs:=rowsL Ba (BI ts)) (k:=(BI ts).length) (args:=[(aG (Ca x))]) call34 (λw hw=>(by obtain ⟨y2,hy2,hro⟩:=aR x;have h9:=Ke y2 Z Z hnb w (hro (inS hw 2 O lx));rw [hy2] at h9;exact h9)) O O O λo lo=>?_)))))))
 have hel:=JB ts
 refine st' (v:=(vN ((BI ts).length))) (AD O underlying46) O (AJ O (oNl' (zF (sL [1,2,6,7,11,12,13] O) (zC (zN ?_)))))
 refine zw (tg λ(i:Nat)=>i<=(BI ts).length/\FC ts u v=inG ((BI ts).drop i) (min u v) (max u v) i) (tg λ(i:Nat)=>[(1,(vI u)),(2,(vI v)),(6,(pP b2 0)),(11,(qz o.p ((BI ts).length) o.c)),(12,(vN ((BI ts).length))),(13,(vN i))]) (tg λ(i:Nat)=>[AC o.p (rowsL Ba (BI ts)),AU b2 49 (Ba jA),AU b1 30 (Ca x),AC x.a.p (rowsL Ad ps),AC x.b.p (rowsL Am ts),AC x.c.p (rowsL Af ss)]) (tg λ(i:Nat)=>(BI ts).length-i) 0 (⟨xu _,rfl⟩) (sF O) sr (λi hJ=>?_)
 obtain ⟨hi,he⟩:=hJ
 refine q4 (st' (AW (c:=(decide (i<((BI ts).length)))) O O (B_ (a:=i) (b:=(BI ts).length))) O (oNl' (q1 ?_)))
 refine zO O (λhc0=>?_) (λhc0=>?_)
 ·replace hc0:=xR hc0
  refine zJ (q1 (zN (q4 (st' (v:=(pP (pB o.p) (pO o.p+i*4))) (AF (j:=i) O O o.ok underlying46 sizeOf49 O Z) O (st' (v:=(aG (Ba ((BI ts).getD i jA)))) (AH (vs:=Ba ((BI ts).getD i jA)) (i:=0) O O (Ao.ne o.ok Z) IN (AZ B6 _ _ _ Z) (B6 _)) O (al Hx O λb3=>Aj O sizeOf49 O (q3 (sL [1,2,6,11,12,13,9] O) (st' (v:=(pP b3 0)) (AA O underlying49 O sizeOf3 O) O (A_ 0 (vN (((BI ts).getD i jA).a)) BN O (AJ O ?_))))))))))
  refine AJ O (st' (F7 (c:=(min u v)) O O (by split<;>omega)) O (st' (A9 (c:=(decide (((((BI ts).getD i jA).a:Nat):Int)=(min u v)))) O O O) O (AJ O ?_)))
  refine zg (FM:=[(1,(vI u)),(2,(vI v)),(6,(pP b2 0)),(11,(qz o.p ((BI ts).length) o.c)),(12,(vN ((BI ts).length))),(13,(vN i)),(9,(pP b3 0)),(17,(pP b3 0)),(18,(vN (((BI ts).getD i jA).a))),(19,(vI u)),(20,(vI v)),(21,(vI (min u v))),(22,(qa (decide (((((BI ts).getD i jA).a:Nat):Int)=(min u v))))),(23,(qa (decide (((((BI ts).getD i jA).a:Nat):Int)=(min u v))))),(30,(qa ((decide (((((BI ts).getD i jA).a:Nat):Int)=(min u v)))&&(decide (((((BI ts).getD i jA).b:Nat):Int)=(max u v))))))]) (LM:=[AU b3 49 (Ba ((BI ts).getD i jA)),AC o.p (rowsL Ba (BI ts)),AU b2 49 (Ba jA),AU b1 30 (Ca x),AC x.a.p (rowsL Ad ps),AC x.b.p (rowsL Am ts),AC x.c.p (rowsL Af ss)]) 7 ?_ ?_
  ·rcases xO (decide (((((BI ts).getD i jA).a:Nat):Int)=(min u v))) with hg1|hg1
   ·refine zK (k:=23) (u:=qa true) O (by rw [hg1]) ?_
    have hg1':=xR hg1
    exact Au (v:=(pP b3 1)) O (AA O underlying49 O sizeOf3 O) (Au (v:=(vN (((BI ts).getD i jA).b))) O (AE (i:=0) (v:=(vN (((BI ts).getD i jA).b))) O O BN.a O) (EV O (EV O (Au (v:=(vI (max u v))) O (E6 (c:=(max u v)) O O (by split<;>omega)) (Au (v:=(qa (decide (((((BI ts).getD i jA).b:Nat):Int)=(max u v))))) O (A9 (c:=(decide (((((BI ts).getD i jA).b:Nat):Int)=(max u v)))) O O O) (st' (v:=(qa (decide (((((BI ts).getD i jA).b:Nat):Int)=(max u v))))) (ex_pick_true O O) O (oNl' (zS Bi (xP _)))))))))
   ·refine zK (k:=23) (u:=qa false) O (by rw [hg1]) ?_
    have hg1':=xQ hg1
    exact Aw O (Aw O (Aw O (Aw O (Aw O (Aw O (st' (v:=(qa false)) (AI O O) O (oNl' (zS Bi (xP _)))))))))
  refine oNl' (zF (sL [1,2,6,11,12,13,9,30] O) (zC ?_))
  refine zO O (λhc1=>?_) (λhc1=>?_)
  ·simp only [jK] at hc1
   have hye:(((BI ts).getD i jA).a:Int)=min u v/\(((BI ts).getD i jA).b:Int)=max u v:=by grind
   have hfin:=he.trans (ST Z hye)
   refine q4 (An 0 IN O (E_ O sizeOf49 O (asg' O (oNl' (zF (sL [1,2,6,11,12,13,9,7] O) (zC (zH (zU (zI (zr (zU ?_)))))))))))
   exact zI (BR O (Ah (i:=2) (cs:=Ba ((BI ts).getD i jA)) O O isAgg49 sizeOf49 O) (rd_tmp (v:=(qa true)) O) (λw hw=>⟨by rw [(Kv hfin).1,(Kv hfin).2];try rfl,hw.out⟩))
  ·simp only [jK] at hc1
   have hno:¬((((BI ts).getD i jA).a:Int)=min u v/\(((BI ts).getD i jA).b:Int)=max u v):=by grind
   exact zJ (zP (zC (zQ (st' (AV (c:=((i+1:Nat):Int)) O O (AY (a:=i) (b:=1) Z)) O (AJ O (oNl' (zF (sL [1,2,6,11,12,13,9] O) (zm (i+1) (⟨Z,he.trans (PO Z hno)⟩) Z (sF O) (sl sr)))))))))
 ·replace hc0:=xQ hc0
  have hfin:=he.trans (SS hc0)
  exact zY (zR (zh (zV (q2 (st' (v:=(aG (Ba jA))) (AO (zs:=Ba jA) (vs:=Ba jA) (pv:=[]) (places:=[(0,1),(1,1),(2,1),(3,1)]) zeroValue49 underlying49 (λw=>by simp [sizeOf3]) O (K3 )) O (CP O sizeOf49 O (asg' O (oNl' (zF (sL [1,2,6,11,12,13,7] O) (zC (zH (BR O (Ah (i:=1) (cs:=Ba jA) O O isAgg49 sizeOf49 O) (rd_tmp (v:=(qa false)) O) (λw hw=>⟨by rw [(Vp hfin).1,(Vp hfin).2];try rfl,hw.out⟩)))))))))))))
theorem Le {ps:List Pt} {ts:List T3} {ss:List Z3} (x:MN ps ts ss) (e:E4) (he:e∈BI ts) (hnb:Bn ps.length ts=true) (hN:ps.length<=1000000) (w:World) {S:Nat->Prop} (hx:Ro S w x):Calls prog 80 #[(aG (Ca x)),(aG (Ba e))] w (AX w (.tuple #[(aG (Jp (CB ts e))),(qa (Cm e))])):=by
 by_cases h:0<=e.l/\0<=e.r
 ·obtain ⟨p,q,c,d,h2⟩:=JZ hnb Z he h.1 h.2
  rw [(C5 h2).1,(C5 h2).2,h2.mk4]
  exact bw x e.a e.b p q c d hnb h2.pl h2.ql h2.sc h2.sd hN w hx
 ·rw [(Pf (ts:=ts) h).1,(Pf (ts:=ts) h).2]
  exact bv x e h w hx
theorem PT {ps:List Pt} {ts:List T3} {ss:List Z3} (x:MN ps ts ss) (e:E4) (he:e∈BI ts) (hb:Cm e=true) (hnb:Bn ps.length ts=true) (hN:ps.length<=1000000) (hz:∀i,BV (BQ ps i)<=200000) (w:World) {S:Nat->Prop} (hx:Ro S w x):Calls prog 81 #[(aG (Jp (CB ts e))),(aG (Ca x))] w (AX w (qa (Ew ps ts e))):=by
 obtain ⟨h3,h4⟩:=EA.1 hb
 obtain ⟨p,q,c,d,h2⟩:=JZ hnb Z he h3 h4
 rw [(C5 h2).1,PS h2]
 have e9:=h2.mk4
 have k:=Tz x e.a e.b p q c d h2.sc.a h2.sc.b h2.sc.c h2.sd.c hz w hx
 rw [e9]
 exact k
set_option maxHeartbeats 1000000 in
theorem Od {ps:List Pt} {ts:List T3} {ss:List Z3} (x:MN ps ts ss) (u v:Int) (hnb:Bn ps.length ts=true) (htl:ts.length<=1000000) (hN:ps.length<=1000000) (hz:∀i,BV (BQ ps i)<=200000) (w:World) {S:Nat->Prop} (hx:Ro S w x):Calls prog 26 #[(aG (Ca x)),(vI u),(vI v)] w (AX w (Value.tuple #[(qa (Y9 ps ts u v)),(vN (Y_ ts u v))])):=by
 have lx:=Bq (W:=w) hx
 refine AR (args:=[(aG (Ca x)),(vI u),(vI v)]) (L:=[AC x.a.p (rowsL Ad ps),AC x.b.p (rowsL Am ts),AC x.c.p (rowsL Af ss)]) func26 O O (leB O) (C7 hx Ae) (zM (sL [0,1,2] O) (q4 (BG (cs:=Ca x) O λb1=>asg' O (asg' O (q3 (sL [1,2,3,6,7] O) (An 0 Bu O (AJ O (AJ O (Bx call79 (λw hw=>IW x u v hnb htl hN w (inS hw 1 O lx)) O (AJ O ?_))))))))))
 refine st' (AK (v:=(aG (Ba (Dr ts u v)))) O O) O (st' (AK (v:=(qa (decide (0<=FC ts u v)))) O O) O (al Hx O λb2=>Aj O sizeOf49 O (asg' O (q6 (sL [3,6,7,8,9] O) (q4 (AJ O (st' (BB (c:=(!(decide (0<=FC ts u v)))) O O) O (oNl' (zF (sL [3,6,7,8,20] O) (zC ?_))))))))))
 refine zO O (λhc0=>?_) (λhc0=>?_)
 ·simp only [jK] at hc0
  exact q4 (asg' O (asg' O (oNl' (zC (zH (zI (BR O (rd_tmp (v:=(qa false)) O) (rd_tmp (v:=(vI 1)) O) (λw hw=>⟨by rw [(KS (ps:=ps) Z).1,(KS (ps:=ps) Z).2];try rfl,hw.out⟩))))))))
 ·simp only [jK] at hc0
  refine zJ (q2 (An 1 Bu O (An 0 IN O (Bx call80 (λw hw=>Le x (Dr ts u v) (Ga hc0) hnb hN w (inS hw 2 O lx)) O (AJ O (st' (AK (v:=(aG (Jp (CB ts (Dr ts u v))))) O O) O (st' (AK (v:=(qa (Cm (Dr ts u v)))) O O) O (al Lt O λb3=>Aj O sizeOf157 O (asg' O (q3 (sL [3,6,7,8,10,11] O) ?_))))))))))
  refine AJ O (st' (BB (c:=(!(Cm (Dr ts u v)))) O O) O (AJ O ?_))
  refine zg (FM:=[(3,(pP b1 0)),(6,(qa false)),(7,(vI 0)),(8,(pP b2 0)),(10,(pP b3 0)),(11,(qa (Cm (Dr ts u v)))),(27,(qa (Cm (Dr ts u v)))),(28,(qa (!(Cm (Dr ts u v))))),(29,(qa (!(Cm (Dr ts u v))))),(33,(qa ((!(Cm (Dr ts u v)))||(Ew ps ts (Dr ts u v)))))]) (LM:=[AU b3 157 (Jp (CB ts (Dr ts u v))),AU b2 49 (Ba (Dr ts u v)),AU b1 30 (Ca x),AC x.a.p (rowsL Ad ps),AC x.b.p (rowsL Am ts),AC x.c.p (rowsL Af ss)]) 4 ?_ ?_
  ·rcases xO (!(Cm (Dr ts u v))) with hg1|hg1
   ·refine zK (k:=29) (u:=qa true) O (by rw [hg1]) ?_
    have hg1':=hg1
    simp only [jK] at hg1'
    exact Aw O (Aw O (Aw O (st' (v:=(qa true)) (ex_pick_true O O) O (oNl' (zS Bi (xP _))))))
   ·refine zK (k:=29) (u:=qa false) O (by rw [hg1]) ?_
    have hg1':=hg1
    simp only [jK] at hg1'
    exact Au (v:=(aG (Jp (CB ts (Dr ts u v))))) O (Ac (i:=0) (vs:=Jp (CB ts (Dr ts u v))) O O HQ.a HQ.s O O) (Au (v:=(aG (Ca x))) O (Ac (i:=2) (vs:=Ca x) O O Bu.a Bu.s O O) (zj (v:=(qa (Ew ps ts (Dr ts u v)))) (AN O) (Ak (args:=[(aG (Jp (CB ts (Dr ts u v)))),(aG (Ca x))]) O O call81) (λw hw=>PT x (Dr ts u v) (Ga hc0) (by simpa using hg1') hnb hN hz w (inS hw 3 O lx)) O (leB O) (st' (v:=(qa (Ew ps ts (Dr ts u v)))) (AI O O) O (oNl' (zS Bi (xP _))))))
  exact asg' O (asg' O (oNl' (zF (sL [3,6,7,8,10] O) (zC (zH (BR O (rd_tmp (v:=(qa ((!(Cm (Dr ts u v)))||(Ew ps ts (Dr ts u v))))) O) (rd_tmp (v:=(vI 0)) O) (λw hw=>⟨by rw [SV,(WU (ps:=ps) hc0).1,(WU (ps:=ps) hc0).2];try rfl,hw.out⟩)))))))
end
section
set_option maxRecDepth 100000
theorem Gv (x0 x1 x2:Nat):Instr.fill (λi=>some (i*1,1)) (Am jJ).toArray [(0,vN x0),(1,vN x1),(2,vN x2)]=some (Am (x0,x1,x2)).toArray:=by kernel_rfl
theorem J8 (x0 x1:Tq3):Instr.fill (λi=>some (i*3,3)) ((Array.range (2*3)).map ((Value.agg (Am jJ).toArray).cells[·%(Value.agg (Am jJ).toArray).cells.size]!)) [(0,.agg (Am x0).toArray),(1,.agg (Am x1).toArray)]=some (Am x0++Am x1).toArray:=by kernel_rfl
set_option maxHeartbeats 2000000 in
theorem Nv (ps:List Pt) (ts:List T3) (a b p q c d:Nat) (ha:a<ps.length) (hb:b<ps.length) (hcl:c<ps.length) (hdl:d<ps.length) (hpl:p<ts.length) (hql:q<ts.length) (hN:ps.length<=1000000) (htl:ts.length<=1000000) (hz:∀i,BV (BQ ps i)<=200000) (pp tp sp:Option Addr) (pk tc tk sn sc:Nat) (ho1:OwnOk tp ts.length tc) (hk1:Ao tp ts.length tk) (hk2:Ao pp ps.length pk) (w:World) {w0:BA} {LR:List As} (hW:BE w0 w (rowW tp 105 3 ts.length tc (rowsL Am ts)::AC pp (rowsL Ad ps)::LR)):Calls prog 84 #[(aG ([(vN a),(vN b),(vN p),(vN q),(vN c),(vN d)])),(aG ([(qz pp ps.length pk),(qz tp ts.length tk),(qz sp sn sc)]))] w (λe w'=>e=.returned (qa (F_ ps a b c d))/\∃u:Unit,True/\BE w0 w' (rowW tp 105 3 ts.length tc (rowsL Am (MT ps ts a b p q c d))::AC pp (rowsL Ad ps)::LR)):=by
 have za:BV (ps.getD a (⟨0,0⟩:Pt))<=200000:=hz a
 have zb:BV (ps.getD b (⟨0,0⟩:Pt))<=200000:=hz b
 have zc:BV (ps.getD c (⟨0,0⟩:Pt))<=200000:=hz c
 have zd:BV (ps.getD d (⟨0,0⟩:Pt))<=200000:=hz d
 refine Mj (args:=[(aG ([(vN a),(vN b),(vN p),(vN q),(vN c),(vN d)])),(aG ([(qz pp ps.length pk),(qz tp ts.length tk),(qz sp sn sc)]))]) func84 O O (leB O) hW (zM (sL [0,1] O) (q4 (BG (cs:=[(vN a),(vN b),(vN p),(vN q),(vN c),(vN d)]) O λb1=>BG (cs:=[(qz pp ps.length pk),(qz tp ts.length tk),(qz sp sn sc)]) O λb2=>asg' O (q6 (sL [2,3,4] O) (rN [(0,true),(1,true),(2,true),(3,true),(4,true),(5,true),(6,true),(7,true),(8,true),(9,true),(10,true),(11,true),(12,true),(13,true),(14,true),(15,true)] [⟨16,5,105,Am jJ⟩,⟨17,6,105,Am jJ⟩] [(18,false),(19,false)] sr jV (λ_ _ d _ _ h=>by cases d<;>exact h) (EP O O Gu O (EP O O Gu O (Fk))) O (FP (v:=(pP b1 0)) O (AA O underlying157 O sizeOf49 O) O (FP (v:=(pP b1 0)) O (AA O underlying49 O sizeOf3 O) O (P7 1 (vN a) BN O (FP (v:=(pP b1 5)) O (AA O underlying157 O sizeOf3 O) O ?_)))))))))
 refine P7 1 (vN d) BN O (FP (v:=(pP b1 4)) O (AA O underlying157 O sizeOf3 O) O (P7 1 (vN c) BN O (FP (v:=(aG (Am (a,d,c)))) O (Bk (zs:=Am jJ) (vs:=Am (a,d,c)) (pv:=[(0,(vN a)),(1,(vN d)),(2,(vN c))]) zeroValue105 underlying105 sizeOf3 O (Gv a d c)) O (FP (v:=(pP b1 5)) O (AA O underlying157 O sizeOf3 O) O (P7 1 (vN d) BN O (FP (v:=(pP b1 0)) O (AA O underlying157 O sizeOf49 O) O (FP (v:=(pP b1 1)) O (AA O underlying49 O sizeOf3 O) O (P7 1 (vN b) BN O (FP (v:=(pP b1 4)) O (AA O underlying157 O sizeOf3 O) O (P7 1 (vN c) BN O (FP (v:=(aG (Am (d,b,c)))) O (Bk (zs:=Am jJ) (vs:=Am (d,b,c)) (pv:=[(0,(vN d)),(1,(vN b)),(2,(vN c))]) zeroValue105 underlying105 sizeOf3 O (Gv d b c)) O ?_)))))))))))
 refine yr λb3 b4=>zL O (Aj O sizeOf105 O (zG (sl (sl sr)) (zL O (CP O sizeOf105 O (zG (sl (sl sr)) (zT (zF (sL [2,3,4,6,5] O) (q1 (q4 (An 0 CY O ?_))))))))))
 refine An 1 CY O (zn (V:=λb5=>(qz (jk b5) 2 2)) (T:=105) (cs:=Am (a,d,c)++Am (d,b,c)) (AM O) (BH (z:=.agg (Am jJ).toArray) (cs:=Am (a,d,c)++Am (d,b,c)) (pv:=[(0,(aG (Am (a,d,c)))),(1,(aG (Am (d,b,c))))]) underlying23 sizeOf105 zeroValue105 jY jY O (J8 (a,d,c) (d,b,c))) O (leB O) λb5=>st' (v:=(vI 2)) (AD O underlying23) O (AJ O (oNl' (zF (sL [2,3,4,6,5,27,28,29] O) (zC (zN (yG 3 (zk (q4 (st' (AW (c:=true) O O jY) O ?_))))))))))
 refine oNl' (q1 (zZ O (zJ (q1 (zN (q4 (st' (v:=(pP b5 0)) (AL (j:=0) O O underlying23 sizeOf105 O Z O) O (C9 0 (Am (a,d,c)) CY O (al Gu O λb6=>Aj O sizeOf105 O (q6 (sL [2,3,4,6,5,27,28,29,8] O) ?_))))))))))
 refine CE (Dm 18++[(18,false),(19,true)]) sr (Ag (v:=(pP b2 0)) O (AA O underlying30 O sizeOf28 O) (BC 4 (qz pp ps.length pk) DS O (Ag (v:=(pP b6 0)) O (AB (j:=0) O O underlying105 sizeOf3 O jY O) (BC 0 (vN a) BN O (Ag (v:=(pP (pB pp) (pO pp+a*10))) O (AF (j:=a) O O hk2 underlying28 sizeOf99 O Z) (Ag (v:=(aG (Ad (ps.getD a (⟨0,0⟩:Pt))))) O (AH (vs:=Ad (ps.getD a (⟨0,0⟩:Pt))) (i:=7) O O (Ao.ne hk2 Z) BD (AZ Az _ _ _ Z) (Az _)) (Ag (v:=(pP b2 0)) O (AA O underlying30 O sizeOf28 O) (BC 4 (qz pp ps.length pk) DS O (Ag (v:=(pP b6 1)) O (AB (j:=1) O O underlying105 sizeOf3 O jY O) (BC 0 (vN d) BN O (Ag (v:=(pP (pB pp) (pO pp+d*10))) O (AF (j:=d) O O hk2 underlying28 sizeOf99 O Z) ?_)))))))))))
 refine Ag (v:=(aG (Ad (ps.getD d (⟨0,0⟩:Pt))))) O (AH (vs:=Ad (ps.getD d (⟨0,0⟩:Pt))) (i:=7) O O (Ao.ne hk2 Z) BD (AZ Az _ _ _ Z) (Az _)) (Ag (v:=(pP b2 0)) O (AA O underlying30 O sizeOf28 O) (BC 4 (qz pp ps.length pk) DS O (Ag (v:=(pP b6 2)) O (AB (j:=2) O O underlying105 sizeOf3 O jY O) (BC 0 (vN c) BN O (Ag (v:=(pP (pB pp) (pO pp+c*10))) O (AF (j:=c) O O hk2 underlying28 sizeOf99 O Z) (Ag (v:=(aG (Ad (ps.getD c (⟨0,0⟩:Pt))))) O (AH (vs:=Ad (ps.getD c (⟨0,0⟩:Pt))) (i:=7) O O (Ao.ne hk2 Z) BD (AZ Az _ _ _ Z) (Az _)) (zL O (ck' call143 (HG (ps.getD a (⟨0,0⟩:Pt)) (ps.getD d (⟨0,0⟩:Pt)) (ps.getD c (⟨0,0⟩:Pt)) Z) O (zG sr (Ag O (Bf (c:=(decide (((Aa (ps.getD a (⟨0,0⟩:Pt)) (ps.getD d (⟨0,0⟩:Pt)) (ps.getD c (⟨0,0⟩:Pt))).num.sign)≠(1:Int)))) O O O) (zT ?_)))))))))))
 refine zF (sL [2,3,4,6,5,27,28,29,8,52] O) (zC ?_)
 refine zO O (λhc1=>?_) (λhc1=>?_)
 ·replace hc1:=xR hc1
  have hB:=PF (b:=b) hc1
  exact q4 (asg' O (oNl' (zC (zH (zU (zI (zI (zU (zI (ret_one O (rd_tmp (v:=(qa false)) O) (λw hw=>⟨by rw [hB],(),trivial,by rw [KO hB];exact hw.weak (sl (sl (sl (sl (sl (sl sr))))))⟩)))))))))))
 ·replace hc1:=xQ hc1
  have hT1:=Decidable.of_not_not hc1
  refine zJ (zP (zC (zQ (st' (AV (c:=(1:Int)) O O jY) O (AJ O (oNl' (zF (sL [2,3,4,6,5,27,28,29,8] O) (zu (zk (q4 (st' (AW (c:=true) O O jY) O ?_)))))))))))
  refine oNl' (q1 (zZ O (zJ (q1 (zN (q4 (st' (v:=(pP b5 3)) (AL (j:=1) O O underlying23 sizeOf105 O Z O) O (C9 1 (Am (d,b,c)) CY O (al Gu O λb7=>Aj O sizeOf105 O (q6 (sL [2,3,4,6,5,27,28,29,8] O) ?_))))))))))
  refine CE (Dm 18++[(18,false),(19,true)]) sr (Ag (v:=(pP b2 0)) O (AA O underlying30 O sizeOf28 O) (BC 5 (qz pp ps.length pk) DS O (Ag (v:=(pP b7 0)) O (AB (j:=0) O O underlying105 sizeOf3 O jY O) (BC 0 (vN d) BN O (Ag (v:=(pP (pB pp) (pO pp+d*10))) O (AF (j:=d) O O hk2 underlying28 sizeOf99 O Z) (Ag (v:=(aG (Ad (ps.getD d (⟨0,0⟩:Pt))))) O (AH (vs:=Ad (ps.getD d (⟨0,0⟩:Pt))) (i:=8) O O (Ao.ne hk2 Z) BD (AZ Az _ _ _ Z) (Az _)) (Ag (v:=(pP b2 0)) O (AA O underlying30 O sizeOf28 O) (BC 5 (qz pp ps.length pk) DS O (Ag (v:=(pP b7 1)) O (AB (j:=1) O O underlying105 sizeOf3 O jY O) (BC 0 (vN b) BN O (Ag (v:=(pP (pB pp) (pO pp+b*10))) O (AF (j:=b) O O hk2 underlying28 sizeOf99 O Z) ?_)))))))))))
  refine Ag (v:=(aG (Ad (ps.getD b (⟨0,0⟩:Pt))))) O (AH (vs:=Ad (ps.getD b (⟨0,0⟩:Pt))) (i:=8) O O (Ao.ne hk2 Z) BD (AZ Az _ _ _ Z) (Az _)) (Ag (v:=(pP b2 0)) O (AA O underlying30 O sizeOf28 O) (BC 5 (qz pp ps.length pk) DS O (Ag (v:=(pP b7 2)) O (AB (j:=2) O O underlying105 sizeOf3 O jY O) (BC 0 (vN c) BN O (Ag (v:=(pP (pB pp) (pO pp+c*10))) O (AF (j:=c) O O hk2 underlying28 sizeOf99 O Z) (Ag (v:=(aG (Ad (ps.getD c (⟨0,0⟩:Pt))))) O (AH (vs:=Ad (ps.getD c (⟨0,0⟩:Pt))) (i:=8) O O (Ao.ne hk2 Z) BD (AZ Az _ _ _ Z) (Az _)) (zL O (ck' call143 (HG (ps.getD d (⟨0,0⟩:Pt)) (ps.getD b (⟨0,0⟩:Pt)) (ps.getD c (⟨0,0⟩:Pt)) Z) O (zG sr (Ag O (Bf (c:=(decide (((Aa (ps.getD d (⟨0,0⟩:Pt)) (ps.getD b (⟨0,0⟩:Pt)) (ps.getD c (⟨0,0⟩:Pt))).num.sign)≠(1:Int)))) O O O) (zT ?_)))))))))))
  refine zF (sL [2,3,4,6,5,27,28,29,8,52] O) (zC ?_)
  refine zO O (λhc1=>?_) (λhc1=>?_)
  ·replace hc1:=xR hc1
   have hB:=PG (a:=a) hc1
   exact q4 (asg' O (oNl' (zC (zH (zU (zI (zI (zU (zI (ret_one O (rd_tmp (v:=(qa false)) O) (λw hw=>⟨by rw [hB],(),trivial,by rw [KO hB];exact hw.weak (sl (sl (sl (sl (sl (sl (sl sr)))))))⟩)))))))))))
  ·replace hc1:=xQ hc1
   have hB:=PH hT1 (Decidable.of_not_not hc1)
   refine zJ (zP (zC (zQ (st' (AV (c:=(2:Int)) O O jY) O (AJ O (oNl' (zF (sL [2,3,4,6,5,27,28,29,8] O) (zu (zk (q4 (st' (AW (c:=false) O O jY) O ?_)))))))))))
   refine oNl' (q1 (zX O (zY (zR (zR (zV (q1 (CE (Dm 13++[(13,false),(14,true),(15,false)]) (sk (sk (sk (sk (sk (sk (sk (sl sr)))))))) (Ag (v:=(pP b2 1)) O (AA O underlying30 O sizeOf23 O) (BC 5 (qz tp ts.length tk) CQ O (Ag (v:=(pP b1 0)) O (AA O underlying157 O sizeOf49 O) ?_)))))))))))
   refine Ag (v:=(pP b1 2)) O (AA O underlying49 O sizeOf3 O) (BC 6 (vN p) BN O (Ag (v:=(pP b2 1)) O (AA O underlying30 O sizeOf23 O) (BC 5 (qz tp ts.length tk) CQ O (Ag (v:=(pP b1 0)) O (AA O underlying157 O sizeOf49 O) (Ag (v:=(pP b1 3)) O (AA O underlying49 O sizeOf3 O) (BC 6 (vN q) BN O (C3 3 CY O (C3 4 CY O (Ag (v:=(pP (pB tp) (pO tp+p*3))) O (AF (j:=p) O O hk1 underlying23 sizeOf105 O Z) (zL O (yh 7 (enc:=Am) (j:=p) (r:=0) (x':=(a,d,c)) (vs:=Am (a,d,c)) jJ A8 ho1 (by first|rfl|omega|simp [*]) O O O (Ao.ne hk1 Z) Z O sizeOf105 O O ?_)))))))))))
   exact zG (sk (sk (sk (sk (sk (sk (sk (sl sr)))))))) (Ag (v:=(pP (pB tp) (pO tp+q*3))) O (AF (j:=q) O O hk1 underlying23 sizeOf105 O Z) (zL O (yh 7 (enc:=Am) (j:=q) (r:=0) (x':=(d,b,c)) (vs:=Am (d,b,c)) jJ A8 ho1 (by first|rfl|omega|simp [*]) O O O (Ao.ne hk1 Z) Z O sizeOf105 O O (zG (sk (sk (sk (sk (sk (sk (sk (sl sr)))))))) (zT (zF (sL [2,3,4,6,5,27,28,29,8] O) (q2 (asg' O (oNl' (zC (zH (ret_one O (rd_tmp (v:=(qa true)) O) (λw hw=>⟨by rw [hB],(),trivial,by rw [PI hB];unfold Ia;exact hw.weak (sl (sl (sl (sl (sl (sl (sl sr)))))))⟩)))))))))))))
end
section
set_option maxRecDepth 100000
theorem Vb (p:Option Addr) (n cp:Nat) (h:n<=cp) (w:World)  :Calls prog 55 #[(qz p n cp)] w (AX w (qz p n n)):=by
 refine AS (args:=[(qz p n cp)]) func55 O O (leB O) (zM (sL [0] O) (q4 (asg' O (oNl' (q2 (AJ O (AJ O (st' (v:=(vN n)) (AD O underlying28) O (AJ O (st' (v:=(vN n)) (AD O underlying28) O (st' (v:=(qz p n n)) (El (m:=n) O O O underlying28 sizeOf99 Z) O ?_)))))))))))
 exact asg' O (oNl' (zF (sL [2] O) (zC (zH (ret_one O (rd_tmp (v:=(qz p n n)) O) (λw hw=>⟨rfl,hw.out⟩))))))
theorem Ml (ts:List Pt) (x:RX (rowsL Ad ts) ts.length) (hl:ts.length<=1000000000) (w:World) {S:Nat->Prop} (hx:Ro S w x):Calls prog 51 #[(qz x.p ts.length x.c)] w (DC Pc (ZO (T:=99) (z:=10) (cs:=rowsL Ad ts) (n:=ts.length)) S w):=by
 have lx:=Bq (W:=w) hx
 refine AR (args:=[(qz x.p ts.length x.c)]) (L:=[AC x.p (rowsL Ad ts)]) func51 O O (leB O) (C7 hx Ae) (zM (sL [0] O) (q4 (asg' O (zx 99 10 (oNl' (q1 (q4 (AJ O (st' (v:=(qa x.p.isNone)) (H7 O O underlying28) O (oNl' (zF (sL [0,2,4] O) ?_)))))))))))
 refine zC ?_
 refine zO O (λhc0=>?_) (λhc0=>?_)
 ·have hts:ts=[]:=List.eq_nil_of_length_eq_zero (x.ok.nil (Option.isNone_iff_eq_none.1 hc0)).1
  exact q4 (asg' O (zx 99 10 (oNl' (zC (zH (zI (ret_one O (rd_tmp (v:=jj) O) (λw hw=>(by subst hts;exact OE hw (OX.mk none 0 OwnOk.none) (by exact (sk (sl (sl sr)))) (Ht.own O Ht.nil) (by show qz none 0 0=_;rfl))))))))))
 ·exact zJ (q2 (zn (V:=λb1=>(qz (jk b1) 0 0)) (T:=99) (cs:=[]) (AM O) (Hj underlying28 sizeOf99) O (leB O) λb1=>yg (z:=10) 0 O Z λho_b1=>AJ O (yL eO O ho_b1 O (Ma (k:=2) O x.ok) (Al Az _) (DJ ZT _) (KU Z) Z O λp_1 c_1 ho_1=>asg' O (oNl' (zF (sL [0,2] O) (zC (zH (ret_one O (rd_tmp (v:=(qz p_1 ts.length c_1)) O) (λw hw=>(OE hw (OX.mk p_1 c_1 ho_1) (sk (sl (sl sr))) (Ht.own O Ht.nil) O))))))))))
theorem Vc (p:Option Addr) (n cp:Nat) (h:n<=cp) (w:World)  :Calls prog 52 #[(qz p n cp)] w (AX w (qz p n n)):=by
 refine AS (args:=[(qz p n cp)]) func52 O O (leB O) (zM (sL [0] O) (q4 (asg' O (oNl' (q2 (AJ O (AJ O (st' (v:=(vN n)) (AD O underlying23) O (AJ O (st' (v:=(vN n)) (AD O underlying23) O (st' (v:=(qz p n n)) (El (m:=n) O O O underlying23 sizeOf105 Z) O ?_)))))))))))
 exact asg' O (oNl' (zF (sL [2] O) (zC (zH (ret_one O (rd_tmp (v:=(qz p n n)) O) (λw hw=>⟨rfl,hw.out⟩))))))
theorem On (p:Option Addr) (n cp:Nat) (h:n<=cp) (w:World)  :Calls prog 102 #[(qz p n cp)] w (AX w (qz p n n)):=by
 refine AS (args:=[(qz p n cp)]) func102 O O (leB O) (zM (sL [0] O) (q4 (asg' O (oNl' (q2 (AJ O (AJ O (st' (v:=(vN n)) (AD O underlying24) O (AJ O (st' (v:=(vN n)) (AD O underlying24) O (st' (v:=(qz p n n)) (El (m:=n) O O O underlying24 sizeOf110 Z) O ?_)))))))))))
 exact asg' O (oNl' (zF (sL [2] O) (zC (zH (ret_one O (rd_tmp (v:=(qz p n n)) O) (λw hw=>⟨rfl,hw.out⟩))))))
end
section
set_option maxRecDepth 100000
end
section
set_option maxRecDepth 100000
theorem Qf (ts:List Z3) (x:RX (rowsL Af ts) ts.length) (hl:ts.length<=1000000000) (w:World) {S:Nat->Prop} (hx:Ro S w x):Calls prog 53 #[(qz x.p ts.length x.c)] w (DC Pc (ZO (T:=105) (z:=3) (cs:=rowsL Af ts) (n:=ts.length)) S w):=by
 have lx:=Bq (W:=w) hx
 refine AR (args:=[(qz x.p ts.length x.c)]) (L:=[AC x.p (rowsL Af ts)]) func53 O O (leB O) (C7 hx Ae) (zM (sL [0] O) (q4 (asg' O (zx 105 3 (oNl' (q1 (q4 (AJ O (st' (v:=(qa x.p.isNone)) (H7 O O underlying23) O (oNl' (zF (sL [0,2,4] O) ?_)))))))))))
 refine zC ?_
 refine zO O (λhc0=>?_) (λhc0=>?_)
 ·have hts:ts=[]:=List.eq_nil_of_length_eq_zero (x.ok.nil (Option.isNone_iff_eq_none.1 hc0)).1
  exact q4 (asg' O (zx 105 3 (oNl' (zC (zH (zI (ret_one O (rd_tmp (v:=jj) O) (λw hw=>(by subst hts;exact OE hw (OX.mk none 0 OwnOk.none) (by exact (sk (sl (sl sr)))) (Ht.own O Ht.nil) (by show qz none 0 0=_;rfl))))))))))
 ·exact zJ (q2 (zn (V:=λb1=>(qz (jk b1) 0 0)) (T:=105) (cs:=[]) (AM O) (Hj underlying23 sizeOf105) O (leB O) λb1=>yg (z:=3) 0 O Z λho_b1=>AJ O (yL Zs O ho_b1 O (Ma (k:=2) O x.ok) (Al BF _) (DJ Gn _) (KU Z) Z O λp_1 c_1 ho_1=>asg' O (oNl' (zF (sL [0,2] O) (zC (zH (ret_one O (rd_tmp (v:=(qz p_1 ts.length c_1)) O) (λw hw=>(OE hw (OX.mk p_1 c_1 ho_1) (sk (sl (sl sr))) (Ht.own O Ht.nil) O))))))))))
theorem Qe (ts:List Z3) (x:RX (rowsL Af ts) ts.length) (hl:ts.length<=1000000000) (w:World) {S:Nat->Prop} (hx:Ro S w x):Calls prog 103 #[(qz x.p ts.length x.c)] w (DC Pc (ZO (T:=110) (z:=3) (cs:=rowsL Af ts) (n:=ts.length)) S w):=by
 have lx:=Bq (W:=w) hx
 refine AR (args:=[(qz x.p ts.length x.c)]) (L:=[AC x.p (rowsL Af ts)]) func103 O O (leB O) (C7 hx Ae) (zM (sL [0] O) (q4 (asg' O (zx 110 3 (oNl' (q1 (q4 (AJ O (st' (v:=(qa x.p.isNone)) (H7 O O underlying24) O (oNl' (zF (sL [0,2,4] O) ?_)))))))))))
 refine zC ?_
 refine zO O (λhc0=>?_) (λhc0=>?_)
 ·have hts:ts=[]:=List.eq_nil_of_length_eq_zero (x.ok.nil (Option.isNone_iff_eq_none.1 hc0)).1
  exact q4 (asg' O (zx 110 3 (oNl' (zC (zH (zI (ret_one O (rd_tmp (v:=jj) O) (λw hw=>(by subst hts;exact OE hw (OX.mk none 0 OwnOk.none) (by exact (sk (sl (sl sr)))) (Ht.own O Ht.nil) (by show qz none 0 0=_;rfl))))))))))
 ·exact zJ (q2 (zn (V:=λb1=>(qz (jk b1) 0 0)) (T:=110) (cs:=[]) (AM O) (Hj underlying24 sizeOf110) O (leB O) λb1=>yg (z:=3) 0 O Z λho_b1=>AJ O (yL cg O ho_b1 O (Ma (k:=2) O x.ok) (Al BF _) (DJ Gn _) (KU Z) Z O λp_1 c_1 ho_1=>asg' O (oNl' (zF (sL [0,2] O) (zC (zH (ret_one O (rd_tmp (v:=(qz p_1 ts.length c_1)) O) (λw hw=>(OE hw (OX.mk p_1 c_1 ho_1) (sk (sl (sl sr))) (Ht.own O Ht.nil) O))))))))))
theorem Ut {ps:List Pt} {ts ss:List Z3} (x:MZ ps ts ss) (hp:ps.length<=1000000000) (ht:ts.length<=1000000000) (hs:ss.length<=1000000000) (w:World) {S:Nat->Prop} (hx:Ro S w x):Calls prog 35 #[(aG (Cv x))] w (DC (λa:dF ps ts ss=>aG (gV a)) gW S w):=by
 have lx:=Bq (W:=w) hx
 refine AR (args:=[(aG (Cv x))]) (L:=[AC x.a.p (rowsL Ad ps),AC x.b.p (rowsL Af ts),AC x.c.p (rowsL Af ss)]) func35 O O (leB O) (C7 hx Ae) (zM (sL [0] O) (q4 (BG (cs:=Cv x) O λb1=>al Hw O λb2=>q6 (sL [1,2] O) (CE [(0,true),(1,true),(4,true),(5,true),(8,true),(9,true),(2,false),(3,false),(6,false),(7,false),(10,false),(11,false),(12,true),(13,false)] (sl sr) (Ag (v:=(pP b1 0)) O (AA O underlying30 O sizeOf28 O) (BC 0 (qz x.a.p ps.length x.a.c) DS O (Ag (v:=(pP b1 1)) O (AA O underlying30 O sizeOf23 O) (BC 0 (qz x.b.p ts.length x.b.c) CQ O (Ag (v:=(pP b1 2)) O (AA O underlying30 O sizeOf24 O) ?_)))))))))
 refine BC 0 (qz x.c.p ss.length x.c.c) GS O (zL O (yR (S:=S) (V:=Pc) (LW:=ZO (T:=99) (z:=10) (cs:=rowsL Ad ps) (n:=ps.length)) (args:=[(qz x.a.p ps.length x.a.c)]) call51 (λw hw=>Ml ps x.a Z w (cK (inS hw 2 O lx))) O λcl1 hcl1=>zG (sl (sl sr)) (zL O (ck' call55 (Vb cl1.p ps.length cl1.c cl1.ok.row.le) O (zG (sl (sl sr)) (zL O (yR (S:=S) (V:=Pc) (LW:=ZO (T:=105) (z:=3) (cs:=rowsL Af ts) (n:=ts.length)) (args:=[(qz x.b.p ts.length x.b.c)]) call53 (λw hw=>Qf ts x.b Z w (cL (inS hw 3 O lx))) O λcl2 hcl2=>zG (sl (sl (sl sr))) (zL O (ck' call52 (Vc cl2.p ts.length cl2.c cl2.ok.row.le) O ?_)))))))))
 refine zG (sl (sl (sl sr))) (zL O (yR (S:=S) (V:=Pc) (LW:=ZO (T:=110) (z:=3) (cs:=rowsL Af ss) (n:=ss.length)) (args:=[(qz x.c.p ss.length x.c.c)]) call103 (λw hw=>Qe ss x.c Z w (cM (inS hw 4 O lx))) O λcl3 hcl3=>zG (sl (sl (sl (sl sr)))) (zL O (ck' call102 (On cl3.p ss.length cl3.c cl3.ok.row.le) O (zG (sl (sl (sl (sl sr)))) (Ag (v:=(aG ([(qz cl1.p ps.length ps.length),(qz cl2.p ts.length ts.length),(qz cl3.p ss.length ss.length)]))) O (AO (zs:=[jj,jj,jj]) (vs:=[(qz cl1.p ps.length ps.length),(qz cl2.p ts.length ts.length),(qz cl3.p ss.length ss.length)]) (pv:=[(0,(qz cl1.p ps.length ps.length)),(1,(qz cl2.p ts.length ts.length)),(2,(qz cl3.p ss.length ss.length))]) (places:=[(0,1),(1,1),(2,1)]) zeroValue30 underlying30 (λw=>by simp [sizeOf23,sizeOf24,sizeOf28]) O O) (zL O (Gt O sizeOf30 O (zG (sl (sl (sl (sl sr)))) (zT ?_))))))))))
 exact zF (sL [2] O) (zC (zH (ret_one O (Ah (i:=3) (cs:=[(qz cl1.p ps.length ps.length),(qz cl2.p ts.length ts.length),(qz cl3.p ss.length ss.length)]) O O isAgg30 sizeOf30 O) (λw hw=>(OE hw (dF.mk (OX.mk cl1.p cl1.c cl1.ok) (OX.mk cl2.p cl2.c cl2.ok) (OX.mk cl3.p cl3.c cl3.ok)) (sk (sk (sk (sl (sl (sl (sl (sl sr)))))))) (Ht.own O (Ht.own O (Ht.own O Ht.nil))) O)))))
theorem Z9 (p q:Pt) (w:World)  :Calls prog 135 #[(aG (Ad p)),(aG (Ad q))] w (AX w (qa (decide (p=q)))):=by
 refine AS (args:=[(aG (Ad p)),(aG (Ad q))]) func135 O O (leB O) (zM (sL [0,1] O) (q4 (BG (cs:=Ad p) O λb1=>BG (cs:=Ad q) O λb2=>asg' O (q3 (sL [2,3,4] O) (An 1 BD O (An 0 BD O (st' (Cf (c:=decide (p=q)) O O eqGuardType99 (Vs 9994 p q)) O (asg' O (oNl' ?_)))))))))
 exact zF (sL [4] O) (zC (zH (ret_one O (rd_tmp (v:=(qa (decide (p=q)))) O) (λw hw=>⟨rfl,hw.out⟩))))
theorem Uc (xs ys:List Pt) (x:RX (rowsL Ad xs) xs.length) (y:RX (rowsL Ad ys) ys.length) (hl:xs.length<=1000000) (w:World) {S:Nat->Prop} (hx:Ro S w x) (hy:Ro S w y):Calls prog 134 #[(qz x.p xs.length x.c),(qz y.p ys.length y.c),(Value.func (.func 135) #[] #[])] w (AX w (qa (decide (xs=ys)))):=by
 have lx:=Bq (W:=w) hx
 have ly:=Bq (W:=w) hy
 refine AR (args:=[(qz x.p xs.length x.c),(qz y.p ys.length y.c),(Value.func (.func 135) #[] #[])]) (L:=[AC x.p (rowsL Ad xs),AC y.p (rowsL Ad ys)]) func134 O O (leB O) (C7 hx (C7 hy Ae)) (zM (sL [0,1,2] O) (q4 (asg' O (oNl' (q1 (q4 (AJ O (st' (v:=(vN xs.length)) (AD O underlying28) O (AJ O (st' (v:=(vN ys.length)) (AD O underlying28) O (st' (Bf (c:=(decide (xs.length≠ys.length))) O O (Q8 (a:=xs.length) (b:=ys.length))) O ?_)))))))))))
 refine oNl' (zF (sL [0,1,2,6,12] O) (zC ?_))
 refine zO O (λhc0=>?_) (λhc0=>?_)
 ·replace hc0:=xR hc0
  have hne:¬xs=ys:=λh=>by grind
  exact q4 (asg' O (oNl' (zC (zH (zI (ret_one O (rd_tmp (v:=(qa false)) O) (λw hw=>⟨by rw [xq hne],hw.out⟩)))))))
 ·replace hc0:=xQ hc0
  have hll:xs.length=ys.length:=by grind
  refine zJ (q1 (q4 (AJ O (st' (v:=(vN xs.length)) (AD O underlying28) O (AJ O (oNl' (zF (sL [0,1,2,6,14,15] O) (zC (zN ?_)))))))))
  refine zw (tg λ(j:Nat)=>j<=xs.length/\∀k,k<j->xs.getD k (⟨0,0⟩:Pt)=ys.getD k (⟨0,0⟩:Pt)) (tg λ(j:Nat)=>[(0,(qz x.p xs.length x.c)),(1,(qz y.p ys.length y.c)),(2,(Value.func (.func 135) #[] #[])),(14,(vN xs.length)),(15,(vN j))]) (tg λ(j:Nat)=>[AC x.p (rowsL Ad xs),AC y.p (rowsL Ad ys)]) (tg λ(j:Nat)=>xs.length-j) 0 (⟨xu _,λk h=>absurd h (Nat.not_lt_zero _)⟩) (sF O) sr (λj hJ=>?_)
  obtain ⟨hj,he⟩:=hJ
  refine q4 (st' (AW (c:=(decide (j<xs.length))) O O (B_ (a:=j) (b:=xs.length))) O (oNl' (q1 ?_)))
  refine zO O (λhc1=>?_) (λhc1=>?_)
  ·replace hc1:=xR hc1
   refine zJ (q1 (zN (q4 (AJ O (asg' O (q6 (sL [0,1,2,14,15,7] O) (CE (Dm 9++[(9,false),(10,true)]) sr (Bl O (Bl O (Bl O (Ag (v:=(pP (pB x.p) (pO x.p+j*10))) O (AF (j:=j) O O x.ok underlying28 sizeOf99 O Z) ?_)))))))))))
   refine Ag (v:=(aG (Ad (xs.getD j (⟨0,0⟩:Pt))))) O (AH (vs:=Ad (xs.getD j (⟨0,0⟩:Pt))) (i:=0) O O (Ao.ne x.ok Z) BD (AZ Az _ _ _ Z) (Az _)) (Bl O (Bl O (Ag (v:=(pP (pB y.p) (pO y.p+j*10))) O (AF (j:=j) O O y.ok underlying28 sizeOf99 O Z) (Ag (v:=(aG (Ad (ys.getD j (⟨0,0⟩:Pt))))) O (AH (vs:=Ad (ys.getD j (⟨0,0⟩:Pt))) (i:=1) O O (Ao.ne y.ok Z) BD (AZ Az _ _ _ Z) (Az _)) (zL O (ck' call135 (Z9 (xs.getD j (⟨0,0⟩:Pt)) (ys.getD j (⟨0,0⟩:Pt))) O (zG sr (Ag O (BB (c:=(!(decide (xs.getD j (⟨0,0⟩:Pt)=ys.getD j (⟨0,0⟩:Pt))))) O O) (zT (zF (sL [0,1,2,14,15,28] O) (zC ?_)))))))))))
   refine zO O (λhc2=>?_) (λhc2=>?_)
   ·simp only [jK] at hc2
    have hne:¬xs=ys:=Fx (d:=(⟨0,0⟩:Pt)) (i:=j) (by grind)
    exact q4 (asg' O (oNl' (zC (zH (zU (zI (zr (zU (zI (ret_one O (rd_tmp (v:=(qa false)) O) (λw hw=>⟨by rw [xq hne],hw.out⟩)))))))))))
   ·simp only [jK] at hc2
    have hej:xs.getD j (⟨0,0⟩:Pt)=ys.getD j (⟨0,0⟩:Pt):=by grind
    exact zJ (zP (zC (zQ (st' (AV (c:=((j+1:Nat):Int)) O O (AY (a:=j) (b:=1) Z)) O (AJ O (oNl' (zF (sL [0,1,2,14,15] O) (zm (j+1) (⟨Z,λk hk=>by rcases Nat.lt_or_ge k j with q|q;exact he k q;rw [show k=j by omega];exact hej⟩) Z (sF O) sr))))))))
  ·replace hc1:=xQ hc1
   have heq:xs=ys:=GI (d:=(⟨0,0⟩:Pt)) hll λk hk=>he k Z
   exact zY (zR (zh (zV (q2 (asg' O (oNl' (zC (zH (ret_one O (rd_tmp (v:=(qa true)) O) (λw hw=>⟨by rw [xr heq],hw.out⟩))))))))))
theorem aA (p q:Z3) (w:World)  :Calls prog 137 #[(aG (Af p)),(aG (Af q))] w (AX w (qa (decide (p=q)))):=by
 refine AS (args:=[(aG (Af p)),(aG (Af q))]) func137 O O (leB O) (zM (sL [0,1] O) (q4 (BG (cs:=Af p) O λb1=>BG (cs:=Af q) O λb2=>asg' O (q3 (sL [2,3,4] O) (An 1 CY O (An 0 CY O (st' (Cf (c:=decide (p=q)) O O eqGuardType105 (Vt 9998 p q)) O (asg' O (oNl' ?_)))))))))
 exact zF (sL [4] O) (zC (zH (ret_one O (rd_tmp (v:=(qa (decide (p=q)))) O) (λw hw=>⟨rfl,hw.out⟩))))
theorem Ue (xs ys:List Z3) (x:RX (rowsL Af xs) xs.length) (y:RX (rowsL Af ys) ys.length) (hl:xs.length<=1000000) (w:World) {S:Nat->Prop} (hx:Ro S w x) (hy:Ro S w y):Calls prog 136 #[(qz x.p xs.length x.c),(qz y.p ys.length y.c),(Value.func (.func 137) #[] #[])] w (AX w (qa (decide (xs=ys)))):=by
 have lx:=Bq (W:=w) hx
 have ly:=Bq (W:=w) hy
 refine AR (args:=[(qz x.p xs.length x.c),(qz y.p ys.length y.c),(Value.func (.func 137) #[] #[])]) (L:=[AC x.p (rowsL Af xs),AC y.p (rowsL Af ys)]) func136 O O (leB O) (C7 hx (C7 hy Ae)) (zM (sL [0,1,2] O) (q4 (asg' O (oNl' (q1 (q4 (AJ O (st' (v:=(vN xs.length)) (AD O underlying23) O (AJ O (st' (v:=(vN ys.length)) (AD O underlying23) O (st' (Bf (c:=(decide (xs.length≠ys.length))) O O (Q8 (a:=xs.length) (b:=ys.length))) O ?_)))))))))))
 refine oNl' (zF (sL [0,1,2,6,12] O) (zC ?_))
 refine zO O (λhc0=>?_) (λhc0=>?_)
 ·replace hc0:=xR hc0
  have hne:¬xs=ys:=λh=>by grind
  exact q4 (asg' O (oNl' (zC (zH (zI (ret_one O (rd_tmp (v:=(qa false)) O) (λw hw=>⟨by rw [xq hne],hw.out⟩)))))))
 ·replace hc0:=xQ hc0
  have hll:xs.length=ys.length:=by grind
  refine zJ (q1 (q4 (AJ O (st' (v:=(vN xs.length)) (AD O underlying23) O (AJ O (oNl' (zF (sL [0,1,2,6,14,15] O) (zC (zN ?_)))))))))
  refine zw (tg λ(j:Nat)=>j<=xs.length/\∀k,k<j->xs.getD k ((0,0,0):Z3)=ys.getD k ((0,0,0):Z3)) (tg λ(j:Nat)=>[(0,(qz x.p xs.length x.c)),(1,(qz y.p ys.length y.c)),(2,(Value.func (.func 137) #[] #[])),(14,(vN xs.length)),(15,(vN j))]) (tg λ(j:Nat)=>[AC x.p (rowsL Af xs),AC y.p (rowsL Af ys)]) (tg λ(j:Nat)=>xs.length-j) 0 (⟨xu _,λk h=>absurd h (Nat.not_lt_zero _)⟩) (sF O) sr (λj hJ=>?_)
  obtain ⟨hj,he⟩:=hJ
  refine q4 (st' (AW (c:=(decide (j<xs.length))) O O (B_ (a:=j) (b:=xs.length))) O (oNl' (q1 ?_)))
  refine zO O (λhc1=>?_) (λhc1=>?_)
  ·replace hc1:=xR hc1
   refine zJ (q1 (zN (q4 (AJ O (asg' O (q6 (sL [0,1,2,14,15,7] O) (CE (Dm 9++[(9,false),(10,true)]) sr (Bl O (Bl O (Bl O (Ag (v:=(pP (pB x.p) (pO x.p+j*3))) O (AF (j:=j) O O x.ok underlying23 sizeOf105 O Z) ?_)))))))))))
   refine Ag (v:=(aG (Af (xs.getD j ((0,0,0):Z3))))) O (AH (vs:=Af (xs.getD j ((0,0,0):Z3))) (i:=0) O O (Ao.ne x.ok Z) CY (AZ BF _ _ _ Z) (BF _)) (Bl O (Bl O (Ag (v:=(pP (pB y.p) (pO y.p+j*3))) O (AF (j:=j) O O y.ok underlying23 sizeOf105 O Z) (Ag (v:=(aG (Af (ys.getD j ((0,0,0):Z3))))) O (AH (vs:=Af (ys.getD j ((0,0,0):Z3))) (i:=1) O O (Ao.ne y.ok Z) CY (AZ BF _ _ _ Z) (BF _)) (zL O (ck' call137 (aA (xs.getD j ((0,0,0):Z3)) (ys.getD j ((0,0,0):Z3))) O (zG sr (Ag O (BB (c:=(!(decide (xs.getD j ((0,0,0):Z3)=ys.getD j ((0,0,0):Z3))))) O O) (zT (zF (sL [0,1,2,14,15,28] O) (zC ?_)))))))))))
   refine zO O (λhc2=>?_) (λhc2=>?_)
   ·simp only [jK] at hc2
    have hne:¬xs=ys:=Fx (d:=((0,0,0):Z3)) (i:=j) (by grind)
    exact q4 (asg' O (oNl' (zC (zH (zU (zI (zr (zU (zI (ret_one O (rd_tmp (v:=(qa false)) O) (λw hw=>⟨by rw [xq hne],hw.out⟩)))))))))))
   ·simp only [jK] at hc2
    have hej:xs.getD j ((0,0,0):Z3)=ys.getD j ((0,0,0):Z3):=by grind
    exact zJ (zP (zC (zQ (st' (AV (c:=((j+1:Nat):Int)) O O (AY (a:=j) (b:=1) Z)) O (AJ O (oNl' (zF (sL [0,1,2,14,15] O) (zm (j+1) (⟨Z,λk hk=>by rcases Nat.lt_or_ge k j with q|q;exact he k q;rw [show k=j by omega];exact hej⟩) Z (sF O) sr))))))))
  ·replace hc1:=xQ hc1
   have heq:xs=ys:=GI (d:=((0,0,0):Z3)) hll λk hk=>he k Z
   exact zY (zR (zh (zV (q2 (asg' O (oNl' (zC (zH (ret_one O (rd_tmp (v:=(qa true)) O) (λw hw=>⟨by rw [xr heq],hw.out⟩))))))))))
theorem Z_ (p q:Z3) (w:World)  :Calls prog 139 #[(aG (Af p)),(aG (Af q))] w (AX w (qa (decide (p=q)))):=by
 refine AS (args:=[(aG (Af p)),(aG (Af q))]) func139 O O (leB O) (zM (sL [0,1] O) (q4 (BG (cs:=Af p) O λb1=>BG (cs:=Af q) O λb2=>asg' O (q3 (sL [2,3,4] O) (An 1 Ls O (An 0 Ls O (st' (Cf (c:=decide (p=q)) O O eqGuardType110 (bG 9998 p q)) O (asg' O (oNl' ?_)))))))))
 exact zF (sL [4] O) (zC (zH (ret_one O (rd_tmp (v:=(qa (decide (p=q)))) O) (λw hw=>⟨rfl,hw.out⟩))))
theorem Ud (xs ys:List Z3) (x:RX (rowsL Af xs) xs.length) (y:RX (rowsL Af ys) ys.length) (hl:xs.length<=1000000) (w:World) {S:Nat->Prop} (hx:Ro S w x) (hy:Ro S w y):Calls prog 138 #[(qz x.p xs.length x.c),(qz y.p ys.length y.c),(Value.func (.func 139) #[] #[])] w (AX w (qa (decide (xs=ys)))):=by
 have lx:=Bq (W:=w) hx
 have ly:=Bq (W:=w) hy
 refine AR (args:=[(qz x.p xs.length x.c),(qz y.p ys.length y.c),(Value.func (.func 139) #[] #[])]) (L:=[AC x.p (rowsL Af xs),AC y.p (rowsL Af ys)]) func138 O O (leB O) (C7 hx (C7 hy Ae)) (zM (sL [0,1,2] O) (q4 (asg' O (oNl' (q1 (q4 (AJ O (st' (v:=(vN xs.length)) (AD O underlying24) O (AJ O (st' (v:=(vN ys.length)) (AD O underlying24) O (st' (Bf (c:=(decide (xs.length≠ys.length))) O O (Q8 (a:=xs.length) (b:=ys.length))) O ?_)))))))))))
 refine oNl' (zF (sL [0,1,2,6,12] O) (zC ?_))
 refine zO O (λhc0=>?_) (λhc0=>?_)
 ·replace hc0:=xR hc0
  have hne:¬xs=ys:=λh=>by grind
  exact q4 (asg' O (oNl' (zC (zH (zI (ret_one O (rd_tmp (v:=(qa false)) O) (λw hw=>⟨by rw [xq hne],hw.out⟩)))))))
 ·replace hc0:=xQ hc0
  have hll:xs.length=ys.length:=by grind
  refine zJ (q1 (q4 (AJ O (st' (v:=(vN xs.length)) (AD O underlying24) O (AJ O (oNl' (zF (sL [0,1,2,6,14,15] O) (zC (zN ?_)))))))))
  refine zw (tg λ(j:Nat)=>j<=xs.length/\∀k,k<j->xs.getD k ((0,0,0):Z3)=ys.getD k ((0,0,0):Z3)) (tg λ(j:Nat)=>[(0,(qz x.p xs.length x.c)),(1,(qz y.p ys.length y.c)),(2,(Value.func (.func 139) #[] #[])),(14,(vN xs.length)),(15,(vN j))]) (tg λ(j:Nat)=>[AC x.p (rowsL Af xs),AC y.p (rowsL Af ys)]) (tg λ(j:Nat)=>xs.length-j) 0 (⟨xu _,λk h=>absurd h (Nat.not_lt_zero _)⟩) (sF O) sr (λj hJ=>?_)
  obtain ⟨hj,he⟩:=hJ
  refine q4 (st' (AW (c:=(decide (j<xs.length))) O O (B_ (a:=j) (b:=xs.length))) O (oNl' (q1 ?_)))
  refine zO O (λhc1=>?_) (λhc1=>?_)
  ·replace hc1:=xR hc1
   refine zJ (q1 (zN (q4 (AJ O (asg' O (q6 (sL [0,1,2,14,15,7] O) (CE (Dm 9++[(9,false),(10,true)]) sr (Bl O (Bl O (Bl O (Ag (v:=(pP (pB x.p) (pO x.p+j*3))) O (AF (j:=j) O O x.ok underlying24 sizeOf110 O Z) ?_)))))))))))
   refine Ag (v:=(aG (Af (xs.getD j ((0,0,0):Z3))))) O (AH (vs:=Af (xs.getD j ((0,0,0):Z3))) (i:=0) O O (Ao.ne x.ok Z) Ls (AZ BF _ _ _ Z) (BF _)) (Bl O (Bl O (Ag (v:=(pP (pB y.p) (pO y.p+j*3))) O (AF (j:=j) O O y.ok underlying24 sizeOf110 O Z) (Ag (v:=(aG (Af (ys.getD j ((0,0,0):Z3))))) O (AH (vs:=Af (ys.getD j ((0,0,0):Z3))) (i:=1) O O (Ao.ne y.ok Z) Ls (AZ BF _ _ _ Z) (BF _)) (zL O (ck' call139 (Z_ (xs.getD j ((0,0,0):Z3)) (ys.getD j ((0,0,0):Z3))) O (zG sr (Ag O (BB (c:=(!(decide (xs.getD j ((0,0,0):Z3)=ys.getD j ((0,0,0):Z3))))) O O) (zT (zF (sL [0,1,2,14,15,28] O) (zC ?_)))))))))))
   refine zO O (λhc2=>?_) (λhc2=>?_)
   ·simp only [jK] at hc2
    have hne:¬xs=ys:=Fx (d:=((0,0,0):Z3)) (i:=j) (by grind)
    exact q4 (asg' O (oNl' (zC (zH (zU (zI (zr (zU (zI (ret_one O (rd_tmp (v:=(qa false)) O) (λw hw=>⟨by rw [xq hne],hw.out⟩)))))))))))
   ·simp only [jK] at hc2
    have hej:xs.getD j ((0,0,0):Z3)=ys.getD j ((0,0,0):Z3):=by grind
    exact zJ (zP (zC (zQ (st' (AV (c:=((j+1:Nat):Int)) O O (AY (a:=j) (b:=1) Z)) O (AJ O (oNl' (zF (sL [0,1,2,14,15] O) (zm (j+1) (⟨Z,λk hk=>by rcases Nat.lt_or_ge k j with q|q;exact he k q;rw [show k=j by omega];exact hej⟩) Z (sF O) sr))))))))
  ·replace hc1:=xQ hc1
   have heq:xs=ys:=GI (d:=((0,0,0):Z3)) hll λk hk=>he k Z
   exact zY (zR (zh (zV (q2 (asg' O (oNl' (zC (zH (ret_one O (rd_tmp (v:=(qa true)) O) (λw hw=>⟨by rw [xr heq],hw.out⟩))))))))))
theorem U_ {ps qs:List Pt} {ts ss us vs:List Z3} (x:MZ ps ts ss) (y:MZ qs us vs) (hp:ps.length<=1000000) (ht:ts.length<=1000000) (hs:ss.length<=1000000) (w:World) {S:Nat->Prop} (hx:Ro S w x) (hy:Ro S w y):Calls prog 78 #[(aG (Cv x)),(aG (Cv y))] w (AX w (qa (decide (ps=qs/\ts=us/\ss=vs)))):=by
 have lx:=Bq (W:=w) hx
 have ly:=Bq (W:=w) hy
 refine AR (args:=[(aG (Cv x)),(aG (Cv y))]) (L:=[AC x.a.p (rowsL Ad ps),AC x.b.p (rowsL Af ts),AC x.c.p (rowsL Af ss),AC y.a.p (rowsL Ad qs),AC y.b.p (rowsL Af us),AC y.c.p (rowsL Af vs)]) func78 O O (leB O) (C7 hx (C7 hy Ae)) (zM (sL [0,1] O) (q4 (BG (cs:=Cv x) O λb1=>BG (cs:=Cv y) O λb2=>asg' O (q3 (sL [2,3,4] O) (st' (v:=(pP b1 0)) (AA O underlying30 O sizeOf28 O) O (A_ 1 (qz x.a.p ps.length x.a.c) DS O (st' (v:=(pP b2 0)) (AA O underlying30 O sizeOf28 O) O (A_ 0 (qz y.a.p qs.length y.a.c) DS O (Bx call134 (λw hw=>Uc ps qs x.a y.a Z w (cK (inS hw 2 O lx)) (cK (inS hw 5 O ly))) O ?_)))))))))
 refine AJ O ?_
 refine zg (FM:=[(2,(pP b1 0)),(3,(pP b2 0)),(4,(qa false)),(5,(pP b1 0)),(6,(qz x.a.p ps.length x.a.c)),(7,(pP b2 0)),(8,(qz y.a.p qs.length y.a.c)),(9,(qa (decide (ps=qs)))),(10,(qa (decide (ps=qs)))),(16,(qa ((decide (ps=qs))&&(decide (ts=us)))))]) (LM:=[AU b2 30 (Cv y),AU b1 30 (Cv x),AC x.a.p (rowsL Ad ps),AC x.b.p (rowsL Af ts),AC x.c.p (rowsL Af ss),AC y.a.p (rowsL Ad qs),AC y.b.p (rowsL Af us),AC y.c.p (rowsL Af vs)]) 6 ?_ ?_
 ·rcases xO (decide (ps=qs)) with hg1|hg1
  ·refine zK (k:=10) (u:=qa true) O (by rw [hg1]) ?_
   have hg1':=xR hg1
   exact Au (v:=(pP b1 1)) O (AA O underlying30 O sizeOf23 O) (Au (v:=(qz x.b.p ts.length x.b.c)) O (AE (i:=1) (v:=(qz x.b.p ts.length x.b.c)) O O CQ.a O) (Au (v:=(pP b2 1)) O (AA O underlying30 O sizeOf23 O) (Au (v:=(qz y.b.p us.length y.b.c)) O (AE (i:=0) (v:=(qz y.b.p us.length y.b.c)) O O CQ.a O) (zj (v:=(qa (decide (ts=us)))) (AN O) (Ak (args:=[(qz x.b.p ts.length x.b.c),(qz y.b.p us.length y.b.c),(Value.func (.func 137) #[] #[])]) O O call136) (λw hw=>Ue ts us x.b y.b Z w (cL (inS hw 2 O lx)) (cL (inS hw 5 O ly))) O (leB O) (st' (v:=(qa (decide (ts=us)))) (ex_pick_true O O) O (oNl' (zS Bi (xP _))))))))
  ·refine zK (k:=10) (u:=qa false) O (by rw [hg1]) ?_
   have hg1':=xQ hg1
   exact Aw O (Aw O (Aw O (Aw O (Aw O (st' (v:=(qa false)) (AI O O) O (oNl' (zS Bi (xP _))))))))
 refine AJ O ?_
 refine zg (FM:=[(2,(pP b1 0)),(3,(pP b2 0)),(4,(qa false)),(5,(pP b1 0)),(6,(qz x.a.p ps.length x.a.c)),(7,(pP b2 0)),(8,(qz y.a.p qs.length y.a.c)),(9,(qa (decide (ps=qs)))),(10,(qa (decide (ps=qs)))),(16,(qa ((decide (ps=qs))&&(decide (ts=us))))),(17,(qa ((decide (ps=qs))&&(decide (ts=us))))),(23,(qa (((decide (ps=qs))&&(decide (ts=us)))&&(decide (ss=vs)))))]) (LM:=[AU b2 30 (Cv y),AU b1 30 (Cv x),AC x.a.p (rowsL Ad ps),AC x.b.p (rowsL Af ts),AC x.c.p (rowsL Af ss),AC y.a.p (rowsL Ad qs),AC y.b.p (rowsL Af us),AC y.c.p (rowsL Af vs)]) 6 ?_ ?_
 ·rcases xO ((decide (ps=qs))&&(decide (ts=us))) with hg2|hg2
  ·refine zK (k:=17) (u:=qa true) O (by rw [hg2]) ?_
   have hg2':=hg2
   simp only [jK] at hg2'
   exact Au (v:=(pP b1 2)) O (AA O underlying30 O sizeOf24 O) (Au (v:=(qz x.c.p ss.length x.c.c)) O (AE (i:=1) (v:=(qz x.c.p ss.length x.c.c)) O O GS.a O) (Au (v:=(pP b2 2)) O (AA O underlying30 O sizeOf24 O) (Au (v:=(qz y.c.p vs.length y.c.c)) O (AE (i:=0) (v:=(qz y.c.p vs.length y.c.c)) O O GS.a O) (zj (v:=(qa (decide (ss=vs)))) (AN O) (Ak (args:=[(qz x.c.p ss.length x.c.c),(qz y.c.p vs.length y.c.c),(Value.func (.func 139) #[] #[])]) O O call138) (λw hw=>Ud ss vs x.c y.c Z w (cM (inS hw 2 O lx)) (cM (inS hw 5 O ly))) O (leB O) (st' (v:=(qa (decide (ss=vs)))) (ex_pick_true O O) O (oNl' (zS EW (xP _))))))))
  ·refine zK (k:=17) (u:=qa false) O (by rw [hg2]) ?_
   have hg2':=hg2
   simp only [jK] at hg2'
   exact Aw O (Aw O (Aw O (Aw O (Aw O (st' (v:=(qa false)) (AI O O) O (oNl' (zS EW (xP _))))))))
 exact asg' O (oNl' (zF (sL [4] O) (zC (zH (ret_one O (rd_tmp (v:=(qa (((decide (ps=qs))&&(decide (ts=us)))&&(decide (ss=vs))))) O) (λw hw=>⟨by congr 2;grind,hw.out⟩))))))
end
end Go.Proofs.YtpolhpjiahbidaaGreatDoor
