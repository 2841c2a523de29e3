import Derived.Test.YtbfdamnfcmefmaaGreatDoorPend30
namespace Go.Proofs.YtbfdamnfcmefmaaGreatDoor
open Go Go.RowKit Go.Proofs.Tryz
open Go.Value renaming slice→qz,bool→qa
set_option linter.unusedVariables false
set_option linter.unusedSimpArgs false
section
set_option maxRecDepth 100000
theorem U5 (T:T3) (a b:Nat) (h1:a+b<=T.1+T.2.1+T.2.2) (h2:T.1<1000000/\T.2.1<1000000/\T.2.2<1000000) (w:World)  :Calls prog 109 #[(aG (Af T)),(vN a),(vN b)] w (Ac w (vN (Jt T a b))):=by
 refine AW (args:=[(aG (Af T)),(vN a),(vN b)]) func109 O O (A_ O) (zM (sL [0,1,2] O) (q4 (BV (cs:=Af T) O λb1=>asg' O (q3 (sL [1,2,3,6] O) (AD (v:=(pP b1 0)) (AB (j:=0) O O underlying71 sizeOf3 O jY O) O (BG 0 (vN T.1) Bk O (AD (v:=(pP b1 1)) (AB (j:=1) O O underlying71 sizeOf3 O jY O) O (BG 0 (vN T.2.1) Bk O (AD (AS (c:=((T.1+T.2.1:Nat):Int)) O O (AV (a:=T.1) (b:=T.2.1) Z)) O (AD (v:=(pP b1 2)) (AB (j:=2) O O underlying71 sizeOf3 O jY O) O ?_))))))))))
 exact BG 0 (vN T.2.2) Bk O (AD (AS (c:=(((T.1+T.2.1)+T.2.2:Nat):Int)) O O (AV (a:=T.1+T.2.1) (b:=T.2.2) Z)) O (AL O (AD (Bt (c:=((((T.1+T.2.1)+T.2.2)-a:Nat):Int)) O O (CH (a:=(T.1+T.2.1)+T.2.2) (b:=a) Z Z)) O (AL O (AD (Bt (c:=(((((T.1+T.2.1)+T.2.2)-a)-b:Nat):Int)) O O (CH (a:=((T.1+T.2.1)+T.2.2)-a) (b:=b) Z Z)) O (asg' O (oNl' (zB (sL [6] O) (zA (zG (ret_one O (rd_tmp (v:=(vN ((((T.1+T.2.1)+T.2.2)-a)-b))) O) (λw hw=>⟨rfl,hw.out⟩))))))))))))
theorem aR {ps:List Pt} {ts:List T3} {ss:List Z3} (x:MN ps ts ss) (e:E4) (hno:¬(0<=e.l/\0<=e.r)) (w:World) {S:Nat->Prop} (hx:Ro S w x):Calls prog 49 #[(aG (CG x)),(aG (Bn e))] w (Ac w (Value.tuple #[(aG (Jk ⟨e,0,0⟩)),(qa false)])):=by
 have lx:=DT (W:=w) hx
 refine Ag (args:=[(aG (CG x)),(aG (Bn e))]) (L:=[AN x.a.p (rowsL Aa ps),AN x.b.p (rowsL Af ts),AN x.c.p (rowsL BU ss)]) func49 O O (A_ O) (DU hx Az) (zM (sL [0,1] O) (q4 (BV (cs:=CG x) O λb1=>BV (cs:=Bn e) O λb2=>al Lv O λb3=>asg' O (q3 (sL [2,3,4,5] O) (Ak 1 IB O (AD (v:=(pP b3 0)) (AA O underlying127 O sizeOf54 O) O (Fj 0 (off:=0) (vs:=Bn e) (cs':=Bn e++[(vI 0),(vI 0)]) (AI O) O sizeOf54 O (q6 (sL [2,4,5] O) ?_))))))))
 refine q4 (AD (v:=(pP b3 0)) (AA O underlying127 O sizeOf54 O) O (AD (v:=(pP b3 2)) (AA O underlying54 O sizeOf3 O) O (BG 0 (vI e.l) Bk O (AD (Ab (c:=(decide (e.l<(0:Int)))) O O O) O (AL O ?_)))))
 refine zi (FM:=[(2,(pP b1 0)),(4,(pP b3 0)),(5,(qa false)),(8,(pP b3 0)),(9,(pP b3 2)),(10,(vI e.l)),(11,(qa (decide (e.l<(0:Int))))),(12,(qa (decide (e.l<(0:Int))))),(17,(qa ((decide (e.l<(0:Int)))||(decide (e.r<(0:Int))))))]) (LM:=[AY b3 127 (Bn e++[(vI 0),(vI 0)]),AY b2 54 (Bn e),AY b1 34 (CG x),AN x.a.p (rowsL Aa ps),AN x.b.p (rowsL Af ts),AN x.c.p (rowsL BU ss)]) 5 ?_ ?_
 ·rcases xQ (decide (e.l<(0:Int))) with hg1|hg1
  ·refine zL (k:=12) (u:=qa true) O (by rw [hg1]) ?_
   have hg1':=xT hg1
   exact BT O (BT O (BT O (BT O (AD (v:=(qa true)) (AX O O) O (oNl' (zT Cd (xR _)))))))
  ·refine zL (k:=12) (u:=qa false) O (by rw [hg1]) ?_
   have hg1':=xS hg1
   exact BI (v:=(pP b3 0)) O (AA O underlying127 O sizeOf54 O) (BI (v:=(pP b3 3)) O (AA O underlying54 O sizeOf3 O) (BI (v:=(vI e.r)) O (AH (i:=0) (v:=(vI e.r)) O O Bk.a O) (BI (v:=(qa (decide (e.r<(0:Int))))) O (Ab (c:=(decide (e.r<(0:Int)))) O O O) (AD (v:=(qa (decide (e.r<(0:Int))))) (AP O O) O (oNl' (zT Cd (xR _)))))))
 refine oNl' (zB (sL [2,4,5,17] O) (zA ?_))
 refine zK O (λhc0=>?_) (λhc0=>?_)
 ·simp only [jK] at hc0
  exact q4 (Ak 0 G4 O (Ah O sizeOf127 O (asg' O (oNl' (zB (sL [2,4,5] O) (zA (zG (zJ (Bs O (An (i:=0) (cs:=Bn e++[(vI 0),(vI 0)]) O O isAgg127 sizeOf127 O) (rd_tmp (v:=(qa false)) O) (λw hw=>⟨rfl,hw.out⟩))))))))))
 ·simp only [jK] at hc0
  exfalso;omega
theorem aS {ps:List Pt} {ts:List T3} {ss:List Z3} (x:MN ps ts ss) (a b p q c d:Nat) (hnb:Ba ps.length ts=true) (hpl:p<ts.length) (hql:q<ts.length) (h1:Mj ps.length (ts.getD p (0,0,0)) a b c) (h2:Mj ps.length (ts.getD q (0,0,0)) b a d) (hN:ps.length<=1000000) (w:World) {S:Nat->Prop} (hx:Ro S w x):Calls prog 49 #[(aG (CG x)),(aG ([(vN a),(vN b),(vN p),(vN q)]))] w (Ac w (Value.tuple #[(aG (Jk ⟨⟨a,b,(p:Int),(q:Int)⟩,c,d⟩)),(qa true)])):=by
 have lx:=DT (W:=w) hx
 refine Ag (args:=[(aG (CG x)),(aG ([(vN a),(vN b),(vN p),(vN q)]))]) (L:=[AN x.a.p (rowsL Aa ps),AN x.b.p (rowsL Af ts),AN x.c.p (rowsL BU ss)]) func49 O O (A_ O) (DU hx Az) (zM (sL [0,1] O) (q4 (BV (cs:=CG x) O λb1=>BV (cs:=[(vN a),(vN b),(vN p),(vN q)]) O λb2=>al Lv O λb3=>asg' O (q3 (sL [2,3,4,5] O) (Ak 1 IB O (AD (v:=(pP b3 0)) (AA O underlying127 O sizeOf54 O) O (Fj 0 (off:=0) (vs:=[(vN a),(vN b),(vN p),(vN q)]) (cs':=[(vN a),(vN b),(vN p),(vN q),(vI 0),(vI 0)]) (AI O) O sizeOf54 O (q6 (sL [2,4,5] O) ?_))))))))
 refine q4 (AD (v:=(pP b3 0)) (AA O underlying127 O sizeOf54 O) O (AD (v:=(pP b3 2)) (AA O underlying54 O sizeOf3 O) O (BG 0 (vN p) Bk O (AD (Ab (c:=(decide (p<0))) O O (DA (a:=p) (b:=0))) O (AL O ?_)))))
 refine zi (FM:=[(2,(pP b1 0)),(4,(pP b3 0)),(5,(qa false)),(8,(pP b3 0)),(9,(pP b3 2)),(10,(vN p)),(11,(qa (decide (p<0)))),(12,(qa (decide (p<0)))),(17,(qa ((decide (p<0))||(decide (q<0)))))]) (LM:=[AY b3 127 ([(vN a),(vN b),(vN p),(vN q),(vI 0),(vI 0)]),AY b2 54 ([(vN a),(vN b),(vN p),(vN q)]),AY b1 34 (CG x),AN x.a.p (rowsL Aa ps),AN x.b.p (rowsL Af ts),AN x.c.p (rowsL BU ss)]) 5 ?_ ?_
 ·rcases xQ (decide (p<0)) with hg1|hg1
  ·refine zL (k:=12) (u:=qa true) O (by rw [hg1]) ?_
   have hg1':=xT hg1
   exact BT O (BT O (BT O (BT O (AD (v:=(qa true)) (AX O O) O (oNl' (zT Cd (xR _)))))))
  ·refine zL (k:=12) (u:=qa false) O (by rw [hg1]) ?_
   have hg1':=xS hg1
   exact BI (v:=(pP b3 0)) O (AA O underlying127 O sizeOf54 O) (BI (v:=(pP b3 3)) O (AA O underlying54 O sizeOf3 O) (BI (v:=(vN q)) O (AH (i:=0) (v:=(vN q)) O O Bk.a O) (BI (v:=(qa (decide (q<0)))) O (Ab (c:=(decide (q<0))) O O (DA (a:=q) (b:=0))) (AD (v:=(qa (decide (q<0)))) (AP O O) O (oNl' (zT Cd (xR _)))))))
 refine oNl' (zB (sL [2,4,5,17] O) (zA ?_))
 refine zK O (λhc0=>?_) (λhc0=>?_)
 ·simp only [jK] at hc0
  exfalso;omega
 ·simp only [jK] at hc0
  refine zC (q1 (fX [(0,true),(1,true),(2,true),(3,true),(4,true),(5,true),(6,true),(7,true),(8,true),(9,true),(10,true),(11,true),(12,true),(14,true),(15,true),(16,true),(17,true),(18,true),(19,true),(20,true),(21,true),(22,true),(23,true),(24,true),(25,true),(26,true),(13,false),(28,true),(27,false)] 29 [(30,true),(31,false)] sr (sl sr) jV (λ_ _ d _ _ h=>by cases d<;>exact h) (CN.pasA (v:=(pP b1 1)) O jV (AI O) (AA O underlying34 O sizeOf28 O) O O (CN.pasA (v:=(qz x.b.p ts.length x.b.c)) O jV (AI O) (AH (i:=2) (v:=(qz x.b.p ts.length x.b.c)) O O C5.a O) O O (CN.pasA (v:=(pP b3 0)) O jV (AI O) (AA O underlying127 O sizeOf54 O) O O (CN.pasA (v:=(pP b3 2)) O jV (AI O) (AA O underlying54 O sizeOf3 O) O O (CN.pasA (v:=(vN p)) O jV (AI O) (AH (i:=0) (v:=(vN p)) O O Bk.a O) O O (CN.pasA (v:=(pP (pB x.b.p) (pO x.b.p+p*3))) O jV (AI O) (AO (j:=p) O O x.b.ok underlying28 sizeOf71 O Z) O O (CN.pasA (v:=(aG (Af (ts.getD p ((0,0,0):Tq3))))) O jV (AI O) (AM (vs:=Af (ts.getD p ((0,0,0):Tq3))) (i:=4) O O (A8.ne x.b.ok Z) Ec (Ae Av _ _ _ Z) (Av _)) O O (CN.pasA (v:=(pP b3 0)) O jV (AI O) (AA O underlying127 O sizeOf54 O) O O (CN.pasA (v:=(pP b3 0)) O jV (AI O) (AA O underlying54 O sizeOf3 O) O O ?_)))))))))))
  refine CN.pasA (v:=(vN a)) O jV (AI O) (AH (i:=0) (v:=(vN a)) O O Bk.a O) O O (CN.pasA (v:=(pP b3 0)) O jV (AI O) (AA O underlying127 O sizeOf54 O) O O (CN.pasA (v:=(pP b3 1)) O jV (AI O) (AA O underlying54 O sizeOf3 O) O O (CN.pasA (v:=(vN b)) O jV (AI O) (AH (i:=0) (v:=(vN b)) O O Bk.a O) O O (CN.pasA (v:=(pP b1 1)) O jV (AI O) (AA O underlying34 O sizeOf28 O) O O (CN.pasA (v:=(qz x.b.p ts.length x.b.c)) O jV (AI O) (AH (i:=2) (v:=(qz x.b.p ts.length x.b.c)) O O C5.a O) O O (CN.pasA (v:=(pP b3 0)) O jV (AI O) (AA O underlying127 O sizeOf54 O) O O (CN.pasA (v:=(pP b3 3)) O jV (AI O) (AA O underlying54 O sizeOf3 O) O O (CN.pasA (v:=(vN q)) O jV (AI O) (AH (i:=0) (v:=(vN q)) O O Bk.a O) O O (CN.pasA (v:=(pP (pB x.b.p) (pO x.b.p+q*3))) O jV (AI O) (AO (j:=q) O O x.b.ok underlying28 sizeOf71 O Z) O O (CN.pasA (v:=(aG (Af (ts.getD q ((0,0,0):Tq3))))) O jV (AI O) (AM (vs:=Af (ts.getD q ((0,0,0):Tq3))) (i:=4) O O (A8.ne x.b.ok Z) Ec (Ae Av _ _ _ Z) (Av _)) O O (CN.pasA (v:=(pP b3 0)) O jV (AI O) (AA O underlying127 O sizeOf54 O) O O ?_)))))))))))
  refine CN.pasA (v:=(pP b3 0)) O jV (AI O) (AA O underlying54 O sizeOf3 O) O O (CN.pasA (v:=(vN a)) O jV (AI O) (AH (i:=0) (v:=(vN a)) O O Bk.a O) O O (CN.pasA (v:=(pP b3 0)) O jV (AI O) (AA O underlying127 O sizeOf54 O) O O (CN.pasA (v:=(pP b3 1)) O jV (AI O) (AA O underlying54 O sizeOf3 O) O O (CN.pasA (v:=(vN b)) O jV (AI O) (AH (i:=0) (v:=(vN b)) O O Bk.a O) O O (CN.imp O (C3 (args:=[(aG (Af (ts.getD p ((0,0,0):Tq3)))),(vN a),(vN b)]) (v:=(vN c)) call109 (λw hw=>(by have h9:=U5 (ts.getD p ((0,0,0):Tq3)) a b (by have:=h1.far.2.2;omega) (by have:=Ct (Bw hnb hpl);omega) w;rw [show Jt (ts.getD p ((0,0,0):Tq3)) a b=c from h1.far.1] at h9;exact h9)) O (CN.back sr (CN.pasA (v:=(pP b3 4)) O jV (AI O) (AA O underlying127 O sizeOf3 O) O O (CN.imp O (C3 (args:=[(aG (Af (ts.getD q ((0,0,0):Tq3)))),(vN a),(vN b)]) (v:=(vN d)) call109 (λw hw=>(by have h9:=U5 (ts.getD q ((0,0,0):Tq3)) a b (by have:=h2.far.2.2;omega) (by have:=Ct (Bw hnb hql);omega) w;rw [show Jt (ts.getD q ((0,0,0):Tq3)) a b=d from h2.far.2.1] at h9;exact h9)) O (CN.back sr ?_)))))))))))
  refine CN.cut O (Fj 0 (off:=4) (vs:=[(vN c)]) (cs':=[(vN a),(vN b),(vN p),(vN q),(vN c),(vI 0)]) (AI O) O sizeOf3 O (zD (sl sr) (Al (v:=(pP b3 5)) O (AA O underlying127 O sizeOf3 O) (zN O (Fj 0 (off:=5) (vs:=[(vN d)]) (cs':=[(vN a),(vN b),(vN p),(vN q),(vN c),(vN d)]) (AI O) O sizeOf3 O (zD (sl sr) (zQ (zB (sL [4,5] O) (q2 (Ak 0 G4 O (Ah O sizeOf127 O ?_)))))))))))
  exact asg' O (oNl' (zB (sL [4,5] O) (zA (zG (Bs O (An (i:=0) (cs:=[(vN a),(vN b),(vN p),(vN q),(vN c),(vN d)]) O O isAgg127 sizeOf127 O) (rd_tmp (v:=(qa true)) O) (λw hw=>⟨rfl,hw.out⟩))))))
theorem S5 {ps:List Pt} {ts:List T3} {ss:List Z3} (x:MN ps ts ss) (a b p q c d:Nat) (ha:a<ps.length) (hb:b<ps.length) (hcl:c<ps.length) (hdl:d<ps.length) (hz:∀i,Bl (cor ps i)<=200000) (w:World) {S:Nat->Prop} (hx:Ro S w x):Calls prog 50 #[(aG ([(vN a),(vN b),(vN p),(vN q),(vN c),(vN d)])),(aG (CG x))] w (Ac w (qa (decide (Ko (cor ps a) (cor ps b) (cor ps c) (cor ps d)≠1)))):=by
 have za:Bl (ps.getD a (⟨0,0⟩:Pt))<=200000:=hz a
 have zb:Bl (ps.getD b (⟨0,0⟩:Pt))<=200000:=hz b
 have zc:Bl (ps.getD c (⟨0,0⟩:Pt))<=200000:=hz c
 have zd:Bl (ps.getD d (⟨0,0⟩:Pt))<=200000:=hz d
 have lx:=DT (W:=w) hx
 refine Ag (args:=[(aG ([(vN a),(vN b),(vN p),(vN q),(vN c),(vN d)])),(aG (CG x))]) (L:=[AN x.a.p (rowsL Aa ps),AN x.b.p (rowsL Af ts),AN x.c.p (rowsL BU ss)]) func50 O O (A_ O) (DU hx Az) (zM (sL [0,1] O) (q4 (BV (cs:=[(vN a),(vN b),(vN p),(vN q),(vN c),(vN d)]) O λb1=>BV (cs:=CG x) O λb2=>asg' O (q6 (sL [2,3,4] O) (C8 (El 26++[(26,false),(27,true),(28,true)]) sr (Al (v:=(pP b2 0)) O (AA O underlying34 O sizeOf32 O) (BQ 0 (qz x.a.p ps.length x.a.c) C2 O (Al (v:=(pP b1 0)) O (AA O underlying127 O sizeOf54 O) (Al (v:=(pP b1 0)) O (AA O underlying54 O sizeOf3 O) ?_)))))))))
 refine BQ 1 (vN a) Bk O (Al (v:=(pP (pB x.a.p) (pO x.a.p+a*10))) O (AO (j:=a) O O x.a.ok underlying32 sizeOf78 O Z) (Al (v:=(aG (Aa (ps.getD a (⟨0,0⟩:Pt))))) O (AM (vs:=Aa (ps.getD a (⟨0,0⟩:Pt))) (i:=2) O O (A8.ne x.a.ok Z) A9 (Ae Ap _ _ _ Z) (Ap _)) (Al (v:=(pP b2 0)) O (AA O underlying34 O sizeOf32 O) (BQ 0 (qz x.a.p ps.length x.a.c) C2 O (Al (v:=(pP b1 0)) O (AA O underlying127 O sizeOf54 O) (Al (v:=(pP b1 1)) O (AA O underlying54 O sizeOf3 O) (BQ 1 (vN b) Bk O (Al (v:=(pP (pB x.a.p) (pO x.a.p+b*10))) O (AO (j:=b) O O x.a.ok underlying32 sizeOf78 O Z) (Al (v:=(aG (Aa (ps.getD b (⟨0,0⟩:Pt))))) O (AM (vs:=Aa (ps.getD b (⟨0,0⟩:Pt))) (i:=2) O O (A8.ne x.a.ok Z) A9 (Ae Ap _ _ _ Z) (Ap _)) (Al (v:=(pP b2 0)) O (AA O underlying34 O sizeOf32 O) (BQ 0 (qz x.a.p ps.length x.a.c) C2 O ?_)))))))))))
 refine Al (v:=(pP b1 4)) O (AA O underlying127 O sizeOf3 O) (BQ 1 (vN c) Bk O (Al (v:=(pP (pB x.a.p) (pO x.a.p+c*10))) O (AO (j:=c) O O x.a.ok underlying32 sizeOf78 O Z) (Al (v:=(aG (Aa (ps.getD c (⟨0,0⟩:Pt))))) O (AM (vs:=Aa (ps.getD c (⟨0,0⟩:Pt))) (i:=2) O O (A8.ne x.a.ok Z) A9 (Ae Ap _ _ _ Z) (Ap _)) (Al (v:=(pP b2 0)) O (AA O underlying34 O sizeOf32 O) (BQ 0 (qz x.a.p ps.length x.a.c) C2 O (Al (v:=(pP b1 5)) O (AA O underlying127 O sizeOf3 O) (BQ 1 (vN d) Bk O (Al (v:=(pP (pB x.a.p) (pO x.a.p+d*10))) O (AO (j:=d) O O x.a.ok underlying32 sizeOf78 O Z) (Al (v:=(aG (Aa (ps.getD d (⟨0,0⟩:Pt))))) O (AM (vs:=Aa (ps.getD d (⟨0,0⟩:Pt))) (i:=2) O O (A8.ne x.a.ok Z) A9 (Ae Ap _ _ _ Z) (Ap _)) (zN O (ck' call110 (SC (ps.getD a (⟨0,0⟩:Pt)) (ps.getD b (⟨0,0⟩:Pt)) (ps.getD c (⟨0,0⟩:Pt)) (ps.getD d (⟨0,0⟩:Pt)) Z) O ?_)))))))))))
 exact zD sr (Al O (Bv (c:=(decide ((Ko (ps.getD a (⟨0,0⟩:Pt)) (ps.getD b (⟨0,0⟩:Pt)) (ps.getD c (⟨0,0⟩:Pt)) (ps.getD d (⟨0,0⟩:Pt)))≠(1:Int)))) O O O) (pS' O (zQ (zB (sL [4] O) (zA (zG (ret_one O (rd_tmp (v:=(qa (decide ((Ko (ps.getD a (⟨0,0⟩:Pt)) (ps.getD b (⟨0,0⟩:Pt)) (ps.getD c (⟨0,0⟩:Pt)) (ps.getD d (⟨0,0⟩:Pt)))≠(1:Int))))) O) (λw hw=>⟨rfl,hw.out⟩))))))))
theorem K5  :Instr.fill ([(0,1),(1,1),(2,1),(3,1)].toArray[·]?) (Bn jA).toArray []=some (Bn jA).toArray:=by kernel_rfl
set_option maxHeartbeats 1000000 in
theorem IS {ps:List Pt} {ts:List T3} {ss:List Z3} (x:MN ps ts ss) (u v:Int) (hnb:Ba ps.length ts=true) (htl:ts.length<=1000000) (hN:ps.length<=1000000) (w:World) {S:Nat->Prop} (hx:Ro S w x):Calls prog 48 #[(aG (CG x)),(vI u),(vI v)] w (Ac w (Value.tuple #[(aG (Bn (Dh ts u v))),(qa (decide (0<=GF ts u v)))])):=by
 have lx:=DT (W:=w) hx
 refine Ag (args:=[(aG (CG x)),(vI u),(vI v)]) (L:=[AN x.a.p (rowsL Aa ps),AN x.b.p (rowsL Af ts),AN x.c.p (rowsL BU ss)]) func48 O O (A_ O) (DU hx Az) (zM (sL [0,1,2] O) (q4 (BV (cs:=CG x) O λb1=>al JN O λb2=>asg' O (q6 (sL [1,2,3,6,7] O) (q4 (Ak 1 BY O (cX (S:=S) (cs:=rowsL Bn (BK ts)) (k:=(BK ts).length) (args:=[(aG (CG x))]) call17 (λw hw=>(by obtain ⟨y2,hy2,hro⟩:=ZT x;have h9:=Hn y2 Z Z hnb w (hro (CL hw 2 O lx));rw [hy2] at h9;exact h9)) O O O λo lo=>?_)))))))
 have hel:=QA ts
 refine AD (v:=(vN ((BK ts).length))) (AE O underlying51) O (AL O (oNl' (zB (sL [1,2,6,7,11,12,13] O) (zA (zI ?_)))))
 refine zy (tg λ(i:Nat)=>i<=(BK ts).length/\GF ts u v=inG ((BK ts).drop i) (min u v) (max u v) i) (tg λ(i:Nat)=>[(1,(vI u)),(2,(vI v)),(6,(pP b2 0)),(11,(qz o.p ((BK ts).length) o.c)),(12,(vN ((BK ts).length))),(13,(vN i))]) (tg λ(i:Nat)=>[AN o.p (rowsL Bn (BK ts)),AY b2 54 (Bn jA),AY b1 34 (CG x),AN x.a.p (rowsL Aa ps),AN x.b.p (rowsL Af ts),AN x.c.p (rowsL BU ss)]) (tg λ(i:Nat)=>(BK ts).length-i) 0 (⟨xJ _,rfl⟩) (sF O) sr (λi hJ=>?_)
 obtain ⟨hi,he⟩:=hJ
 refine q4 (AD (Ab (c:=(decide (i<((BK ts).length)))) O O (DA (a:=i) (b:=(BK ts).length))) O (oNl' (q1 ?_)))
 refine zK O (λhc0=>?_) (λhc0=>?_)
 ·replace hc0:=xT hc0
  refine zC (q1 (zI (q4 (AD (v:=(pP (pB o.p) (pO o.p+i*4))) (AO (j:=i) O O o.ok underlying51 sizeOf54 O Z) O (AD (v:=(aG (Bn ((BK ts).getD i jA)))) (AM (vs:=Bn ((BK ts).getD i jA)) (i:=0) O O (A8.ne o.ok Z) IB (Ae C9 _ _ _ Z) (C9 _)) O (al JN O λb3=>Ah O sizeOf54 O (q3 (sL [1,2,6,11,12,13,9] O) (AD (v:=(pP b3 0)) (AA O underlying54 O sizeOf3 O) O (BG 0 (vN (((BK ts).getD i jA).a)) Bk O (AL O ?_))))))))))
  refine AL O (AD (Gm (c:=(min u v)) O O (by split<;>omega)) O (AD (BM (c:=(decide (((((BK ts).getD i jA).a:Nat):Int)=(min u v)))) O O O) O (AL O ?_)))
  refine zi (FM:=[(1,(vI u)),(2,(vI v)),(6,(pP b2 0)),(11,(qz o.p ((BK ts).length) o.c)),(12,(vN ((BK ts).length))),(13,(vN i)),(9,(pP b3 0)),(17,(pP b3 0)),(18,(vN (((BK ts).getD i jA).a))),(19,(vI u)),(20,(vI v)),(21,(vI (min u v))),(22,(qa (decide (((((BK ts).getD i jA).a:Nat):Int)=(min u v))))),(23,(qa (decide (((((BK ts).getD i jA).a:Nat):Int)=(min u v))))),(30,(qa ((decide (((((BK ts).getD i jA).a:Nat):Int)=(min u v)))&&(decide (((((BK ts).getD i jA).b:Nat):Int)=(max u v))))))]) (LM:=[AY b3 54 (Bn ((BK ts).getD i jA)),AN o.p (rowsL Bn (BK ts)),AY b2 54 (Bn jA),AY b1 34 (CG x),AN x.a.p (rowsL Aa ps),AN x.b.p (rowsL Af ts),AN x.c.p (rowsL BU ss)]) 7 ?_ ?_
  ·rcases xQ (decide (((((BK ts).getD i jA).a:Nat):Int)=(min u v))) with hg1|hg1
   ·refine zL (k:=23) (u:=qa true) O (by rw [hg1]) ?_
    have hg1':=xT hg1
    exact BI (v:=(pP b3 1)) O (AA O underlying54 O sizeOf3 O) (BI (v:=(vN (((BK ts).getD i jA).b))) O (AH (i:=0) (v:=(vN (((BK ts).getD i jA).b))) O O Bk.a O) (Gq O (Gq O (BI (v:=(vI (max u v))) O (GH (c:=(max u v)) O O (by split<;>omega)) (BI (v:=(qa (decide (((((BK ts).getD i jA).b:Nat):Int)=(max u v))))) O (BM (c:=(decide (((((BK ts).getD i jA).b:Nat):Int)=(max u v)))) O O O) (AD (v:=(qa (decide (((((BK ts).getD i jA).b:Nat):Int)=(max u v))))) (AX O O) O (oNl' (zT Cd (xR _)))))))))
   ·refine zL (k:=23) (u:=qa false) O (by rw [hg1]) ?_
    have hg1':=xS hg1
    exact BT O (BT O (BT O (BT O (BT O (BT O (AD (v:=(qa false)) (AP O O) O (oNl' (zT Cd (xR _)))))))))
  refine oNl' (zB (sL [1,2,6,11,12,13,9,30] O) (zA ?_))
  refine zK O (λhc1=>?_) (λhc1=>?_)
  ·simp only [jK] at hc1
   have hye:(((BK ts).getD i jA).a:Int)=min u v/\(((BK ts).getD i jA).b:Int)=max u v:=by grind
   have hfin:=he.trans (YI Z hye)
   refine q4 (Ak 0 IB O (Ls O sizeOf54 O (asg' O (oNl' (zB (sL [1,2,6,11,12,13,9,7] O) (zA (zG (zR (zJ (z7 (zR ?_)))))))))))
   exact zJ (Bs O (An (i:=2) (cs:=Bn ((BK ts).getD i jA)) O O isAgg54 sizeOf54 O) (rd_tmp (v:=(qa true)) O) (λw hw=>⟨by rw [(Kv hfin).1,(Kv hfin).2];try rfl,hw.out⟩))
  ·simp only [jK] at hc1
   have hno:¬((((BK ts).getD i jA).a:Int)=min u v/\(((BK ts).getD i jA).b:Int)=max u v):=by grind
   exact zC (zF (zA (zH (AD (AS (c:=((i+1:Nat):Int)) O O (AV (a:=i) (b:=1) Z)) O (AL O (oNl' (zB (sL [1,2,6,11,12,13,9] O) (zm (i+1) (⟨Z,he.trans (VN Z hno)⟩) Z (sF O) (sl sr)))))))))
 ·replace hc0:=xS hc0
  have hfin:=he.trans (YH hc0)
  exact zU (zO (zY (zP (q2 (AD (v:=(aG (Bn jA))) (AQ (zs:=Bn jA) (vs:=Bn jA) (pv:=[]) (places:=[(0,1),(1,1),(2,1),(3,1)]) zeroValue54 underlying54 (λw=>by simp [sizeOf3]) O (K5 )) O (CM O sizeOf54 O (asg' O (oNl' (zB (sL [1,2,6,11,12,13,7] O) (zA (zG (Bs O (An (i:=1) (cs:=Bn jA) O O isAgg54 sizeOf54 O) (rd_tmp (v:=(qa false)) O) (λw hw=>⟨by rw [(Ur hfin).1,(Ur hfin).2];try rfl,hw.out⟩)))))))))))))
theorem Li {ps:List Pt} {ts:List T3} {ss:List Z3} (x:MN ps ts ss) (e:E4) (he:e∈BK ts) (hnb:Ba ps.length ts=true) (hN:ps.length<=1000000) (w:World) {S:Nat->Prop} (hx:Ro S w x):Calls prog 49 #[(aG (CG x)),(aG (Bn e))] w (Ac w (.tuple #[(aG (Jk (B9 ts e))),(qa (CZ e))])):=by
 by_cases h:0<=e.l/\0<=e.r
 ·obtain ⟨p,q,c,d,h2⟩:=JP hnb Z he h.1 h.2
  rw [(Cu h2).1,(Cu h2).2,h2.mk4]
  exact aS x e.a e.b p q c d hnb h2.pl h2.ql h2.sc h2.sd hN w hx
 ·rw [(PO (ts:=ts) h).1,(PO (ts:=ts) h).2]
  exact aR x e h w hx
theorem PC {ps:List Pt} {ts:List T3} {ss:List Z3} (x:MN ps ts ss) (e:E4) (he:e∈BK ts) (hb:CZ e=true) (hnb:Ba ps.length ts=true) (hN:ps.length<=1000000) (hz:∀i,Bl (cor ps i)<=200000) (w:World) {S:Nat->Prop} (hx:Ro S w x):Calls prog 50 #[(aG (Jk (B9 ts e))),(aG (CG x))] w (Ac w (qa (Dx ps ts e))):=by
 obtain ⟨h3,h4⟩:=Ez.1 hb
 obtain ⟨p,q,c,d,h2⟩:=JP hnb Z he h3 h4
 rw [(Cu h2).1,LU h2]
 have e9:=h2.mk4
 have k:=S5 x e.a e.b p q c d h2.sc.a h2.sc.b h2.sc.c h2.sd.c hz w hx
 rw [e9]
 exact k
set_option maxHeartbeats 1000000 in
theorem T0 {ps:List Pt} {ts:List T3} {ss:List Z3} (x:MN ps ts ss) (u v:Int) (hnb:Ba ps.length ts=true) (htl:ts.length<=1000000) (hN:ps.length<=1000000) (hz:∀i,Bl (cor ps i)<=200000) (w:World) {S:Nat->Prop} (hx:Ro S w x):Calls prog 18 #[(aG (CG x)),(vI u),(vI v)] w (Ac w (Value.tuple #[(qa (XE ps ts u v)),(vN (XF ts u v))])):=by
 have lx:=DT (W:=w) hx
 refine Ag (args:=[(aG (CG x)),(vI u),(vI v)]) (L:=[AN x.a.p (rowsL Aa ps),AN x.b.p (rowsL Af ts),AN x.c.p (rowsL BU ss)]) func18 O O (A_ O) (DU hx Az) (zM (sL [0,1,2] O) (q4 (BV (cs:=CG x) O λb1=>asg' O (asg' O (q3 (sL [1,2,3,6,7] O) (Ak 0 BY O (AL O (AL O (C3 call48 (λw hw=>IS x u v hnb htl hN w (CL hw 1 O lx)) O (AL O ?_))))))))))
 refine AD (AJ (v:=(aG (Bn (Dh ts u v)))) O O) O (AD (AJ (v:=(qa (decide (0<=GF ts u v)))) O O) O (al JN O λb2=>Ah O sizeOf54 O (asg' O (q6 (sL [3,6,7,8,9] O) (q4 (AL O (AD (BE (c:=(!(decide (0<=GF ts u v)))) O O) O (oNl' (zB (sL [3,6,7,8,20] O) (zA ?_))))))))))
 refine zK O (λhc0=>?_) (λhc0=>?_)
 ·simp only [jK] at hc0
  exact q4 (asg' O (asg' O (oNl' (zA (zG (zJ (Bs O (rd_tmp (v:=(qa false)) O) (rd_tmp (v:=(vI 1)) O) (λw hw=>⟨by rw [(Rl (ps:=ps) Z).1,(Rl (ps:=ps) Z).2];try rfl,hw.out⟩))))))))
 ·simp only [jK] at hc0
  refine zC (q2 (Ak 1 BY O (Ak 0 IB O (C3 call49 (λw hw=>Li x (Dh ts u v) (HK hc0) hnb hN w (CL hw 2 O lx)) O (AL O (AD (AJ (v:=(aG (Jk (B9 ts (Dh ts u v))))) O O) O (AD (AJ (v:=(qa (CZ (Dh ts u v)))) O O) O (al Lv O λb3=>Ah O sizeOf127 O (asg' O (q3 (sL [3,6,7,8,10,11] O) ?_))))))))))
  refine AL O (AD (BE (c:=(!(CZ (Dh ts u v)))) O O) O (AL O ?_))
  refine zi (FM:=[(3,(pP b1 0)),(6,(qa false)),(7,(vI 0)),(8,(pP b2 0)),(10,(pP b3 0)),(11,(qa (CZ (Dh ts u v)))),(27,(qa (CZ (Dh ts u v)))),(28,(qa (!(CZ (Dh ts u v))))),(29,(qa (!(CZ (Dh ts u v))))),(33,(qa ((!(CZ (Dh ts u v)))||(Dx ps ts (Dh ts u v)))))]) (LM:=[AY b3 127 (Jk (B9 ts (Dh ts u v))),AY b2 54 (Bn (Dh ts u v)),AY b1 34 (CG x),AN x.a.p (rowsL Aa ps),AN x.b.p (rowsL Af ts),AN x.c.p (rowsL BU ss)]) 4 ?_ ?_
  ·rcases xQ (!(CZ (Dh ts u v))) with hg1|hg1
   ·refine zL (k:=29) (u:=qa true) O (by rw [hg1]) ?_
    have hg1':=hg1
    simp only [jK] at hg1'
    exact BT O (BT O (BT O (AD (v:=(qa true)) (AX O O) O (oNl' (zT Cd (xR _))))))
   ·refine zL (k:=29) (u:=qa false) O (by rw [hg1]) ?_
    have hg1':=hg1
    simp only [jK] at hg1'
    exact BI (v:=(aG (Jk (B9 ts (Dh ts u v))))) O (Ad (i:=0) (vs:=Jk (B9 ts (Dh ts u v))) O O G4.a G4.s O O) (BI (v:=(aG (CG x))) O (Ad (i:=2) (vs:=CG x) O O BY.a BY.s O O) (zg (v:=(qa (Dx ps ts (Dh ts u v)))) (AU O) (Am (args:=[(aG (Jk (B9 ts (Dh ts u v)))),(aG (CG x))]) O O call50) (λw hw=>PC x (Dh ts u v) (HK hc0) (by simpa using hg1') hnb hN hz w (CL hw 3 O lx)) O (A_ O) (AD (v:=(qa (Dx ps ts (Dh ts u v)))) (AP O O) O (oNl' (zT Cd (xR _))))))
  exact asg' O (asg' O (oNl' (zB (sL [3,6,7,8,10] O) (zA (zG (Bs O (rd_tmp (v:=(qa ((!(CZ (Dh ts u v)))||(Dx ps ts (Dh ts u v))))) O) (rd_tmp (v:=(vI 0)) O) (λw hw=>⟨by rw [Rj,(QV (ps:=ps) hc0).1,(QV (ps:=ps) hc0).2];try rfl,hw.out⟩)))))))
end
section
set_option maxRecDepth 100000
theorem G8 (x0 x1 x2:Nat):Instr.fill (λi=>some (i*1,1)) (Af jJ).toArray [(0,vN x0),(1,vN x1),(2,vN x2)]=some (Af (x0,x1,x2)).toArray:=by kernel_rfl
theorem L3 (x0 x1:Tq3):Instr.fill (λi=>some (i*3,3)) ((Array.range (2*3)).map ((Value.agg (Af jJ).toArray).cells[·%(Value.agg (Af jJ).toArray).cells.size]!)) [(0,.agg (Af x0).toArray),(1,.agg (Af x1).toArray)]=some (Af x0++Af x1).toArray:=by kernel_rfl
set_option maxHeartbeats 2000000 in
theorem Ns (ps:List Pt) (ts:List T3) (a b p q c d:Nat) (ha:a<ps.length) (hb:b<ps.length) (hcl:c<ps.length) (hdl:d<ps.length) (hpl:p<ts.length) (hql:q<ts.length) (hN:ps.length<=1000000) (htl:ts.length<=1000000) (hz:∀i,Bl (cor ps i)<=200000) (pp tp sp:Option Addr) (pk tc tk sn sc:Nat) (ho1:OwnOk tp ts.length tc) (hk1:A8 tp ts.length tk) (hk2:A8 pp ps.length pk) (w:World) {w0:BD} {LR:List As} (hW:BH w0 w (rowW tp 71 3 ts.length tc (rowsL Af ts)::AN pp (rowsL Aa ps)::LR)):Calls prog 51 #[(aG ([(vN a),(vN b),(vN p),(vN q),(vN c),(vN d)])),(aG ([(qz pp ps.length pk),(qz tp ts.length tk),(qz sp sn sc)]))] w (λe w'=>e=.returned (qa (Db ps a b c d))/\∃u:Unit,True/\BH w0 w' (rowW tp 71 3 ts.length tc (rowsL Af (MY ps ts a b p q c d))::AN pp (rowsL Aa ps)::LR)):=by
 have za:Bl (ps.getD a (⟨0,0⟩:Pt))<=200000:=hz a
 have zb:Bl (ps.getD b (⟨0,0⟩:Pt))<=200000:=hz b
 have zc:Bl (ps.getD c (⟨0,0⟩:Pt))<=200000:=hz c
 have zd:Bl (ps.getD d (⟨0,0⟩:Pt))<=200000:=hz d
 refine Mm (args:=[(aG ([(vN a),(vN b),(vN p),(vN q),(vN c),(vN d)])),(aG ([(qz pp ps.length pk),(qz tp ts.length tk),(qz sp sn sc)]))]) func51 O O (A_ O) hW (zM (sL [0,1] O) (q4 (BV (cs:=[(vN a),(vN b),(vN p),(vN q),(vN c),(vN d)]) O λb1=>BV (cs:=[(qz pp ps.length pk),(qz tp ts.length tk),(qz sp sn sc)]) O λb2=>asg' O (q6 (sL [2,3,4] O) (rN [(0,true),(1,true),(2,true),(3,true),(4,true),(5,true),(6,true),(7,true),(8,true),(9,true),(10,true),(11,true),(12,true),(13,true),(14,true),(15,true)] [⟨16,5,71,Af jJ⟩,⟨17,6,71,Af jJ⟩] [(18,false),(19,false)] sr jV (λ_ _ d _ _ h=>by cases d<;>exact h) (FL O O J1 O (FL O O J1 O (Hg))) O (F9 (v:=(pP b1 0)) O (AA O underlying127 O sizeOf54 O) O (F9 (v:=(pP b1 0)) O (AA O underlying54 O sizeOf3 O) O (TT 1 (vN a) Bk O (F9 (v:=(pP b1 5)) O (AA O underlying127 O sizeOf3 O) O ?_)))))))))
 refine TT 1 (vN d) Bk O (F9 (v:=(pP b1 4)) O (AA O underlying127 O sizeOf3 O) O (TT 1 (vN c) Bk O (F9 (v:=(aG (Af (a,d,c)))) O (Ao (zs:=Af jJ) (vs:=Af (a,d,c)) (pv:=[(0,(vN a)),(1,(vN d)),(2,(vN c))]) zeroValue71 underlying71 sizeOf3 O (G8 a d c)) O (F9 (v:=(pP b1 5)) O (AA O underlying127 O sizeOf3 O) O (TT 1 (vN d) Bk O (F9 (v:=(pP b1 0)) O (AA O underlying127 O sizeOf54 O) O (F9 (v:=(pP b1 1)) O (AA O underlying54 O sizeOf3 O) O (TT 1 (vN b) Bk O (F9 (v:=(pP b1 4)) O (AA O underlying127 O sizeOf3 O) O (TT 1 (vN c) Bk O (F9 (v:=(aG (Af (d,b,c)))) O (Ao (zs:=Af jJ) (vs:=Af (d,b,c)) (pv:=[(0,(vN d)),(1,(vN b)),(2,(vN c))]) zeroValue71 underlying71 sizeOf3 O (G8 d b c)) O ?_)))))))))))
 refine yW λb3 b4=>zN O (Ah O sizeOf71 O (zD (sl (sl sr)) (zN O (CM O sizeOf71 O (zD (sl (sl sr)) (zQ (zB (sL [2,3,4,6,5] O) (q1 (q4 (Ak 0 Ec O ?_))))))))))
 refine Ak 1 Ec O (ze (V:=λb5=>(qz (jk b5) 2 2)) (T:=71) (cs:=Af (a,d,c)++Af (d,b,c)) (AI O) (Ax (z:=.agg (Af jJ).toArray) (cs:=Af (a,d,c)++Af (d,b,c)) (pv:=[(0,(aG (Af (a,d,c)))),(1,(aG (Af (d,b,c))))]) underlying28 sizeOf71 zeroValue71 jY jY O (L3 (a,d,c) (d,b,c))) O (A_ O) λb5=>AD (v:=(vI 2)) (AE O underlying28) O (AL O (oNl' (zB (sL [2,3,4,6,5,27,28,29] O) (zA (zI (yD 3 (zZ (q4 (AD (Ab (c:=true) O O jY) O ?_))))))))))
 refine oNl' (q1 (zV O (zC (q1 (zI (q4 (AD (v:=(pP b5 0)) (AG (j:=0) O O underlying28 sizeOf71 O Z O) O (Dp 0 (Af (a,d,c)) Ec O (al J1 O λb6=>Ah O sizeOf71 O (q6 (sL [2,3,4,6,5,27,28,29,8] O) ?_))))))))))
 refine C8 (El 18++[(18,false),(19,true)]) sr (Al (v:=(pP b2 0)) O (AA O underlying34 O sizeOf32 O) (BQ 4 (qz pp ps.length pk) C2 O (Al (v:=(pP b6 0)) O (AB (j:=0) O O underlying71 sizeOf3 O jY O) (BQ 0 (vN a) Bk O (Al (v:=(pP (pB pp) (pO pp+a*10))) O (AO (j:=a) O O hk2 underlying32 sizeOf78 O Z) (Al (v:=(aG (Aa (ps.getD a (⟨0,0⟩:Pt))))) O (AM (vs:=Aa (ps.getD a (⟨0,0⟩:Pt))) (i:=7) O O (A8.ne hk2 Z) A9 (Ae Ap _ _ _ Z) (Ap _)) (Al (v:=(pP b2 0)) O (AA O underlying34 O sizeOf32 O) (BQ 4 (qz pp ps.length pk) C2 O (Al (v:=(pP b6 1)) O (AB (j:=1) O O underlying71 sizeOf3 O jY O) (BQ 0 (vN d) Bk O (Al (v:=(pP (pB pp) (pO pp+d*10))) O (AO (j:=d) O O hk2 underlying32 sizeOf78 O Z) ?_)))))))))))
 refine Al (v:=(aG (Aa (ps.getD d (⟨0,0⟩:Pt))))) O (AM (vs:=Aa (ps.getD d (⟨0,0⟩:Pt))) (i:=7) O O (A8.ne hk2 Z) A9 (Ae Ap _ _ _ Z) (Ap _)) (Al (v:=(pP b2 0)) O (AA O underlying34 O sizeOf32 O) (BQ 4 (qz pp ps.length pk) C2 O (Al (v:=(pP b6 2)) O (AB (j:=2) O O underlying71 sizeOf3 O jY O) (BQ 0 (vN c) Bk O (Al (v:=(pP (pB pp) (pO pp+c*10))) O (AO (j:=c) O O hk2 underlying32 sizeOf78 O Z) (Al (v:=(aG (Aa (ps.getD c (⟨0,0⟩:Pt))))) O (AM (vs:=Aa (ps.getD c (⟨0,0⟩:Pt))) (i:=7) O O (A8.ne hk2 Z) A9 (Ae Ap _ _ _ Z) (Ap _)) (zN O (ck' call111 (Gw (ps.getD a (⟨0,0⟩:Pt)) (ps.getD d (⟨0,0⟩:Pt)) (ps.getD c (⟨0,0⟩:Pt)) Z) O (zD sr (Al O (Bv (c:=(decide (((AC (ps.getD a (⟨0,0⟩:Pt)) (ps.getD d (⟨0,0⟩:Pt)) (ps.getD c (⟨0,0⟩:Pt))).num.sign)≠(1:Int)))) O O O) (zQ ?_)))))))))))
 refine zB (sL [2,3,4,6,5,27,28,29,8,52] O) (zA ?_)
 refine zK O (λhc1=>?_) (λhc1=>?_)
 ·replace hc1:=xT hc1
  have hB:=U8 (b:=b) hc1
  exact q4 (asg' O (oNl' (zA (zG (zR (zJ (zJ (zR (zJ (ret_one O (rd_tmp (v:=(qa false)) O) (λw hw=>⟨by rw [hB],(),trivial,by rw [KE hB];exact hw.weak (sl (sl (sl (sl (sl (sl sr))))))⟩)))))))))))
 ·replace hc1:=xS hc1
  have hT1:=Decidable.of_not_not hc1
  refine zC (zF (zA (zH (AD (AS (c:=(1:Int)) O O jY) O (AL O (oNl' (zB (sL [2,3,4,6,5,27,28,29,8] O) (zk (zZ (q4 (AD (Ab (c:=true) O O jY) O ?_)))))))))))
  refine oNl' (q1 (zV O (zC (q1 (zI (q4 (AD (v:=(pP b5 3)) (AG (j:=1) O O underlying28 sizeOf71 O Z O) O (Dp 1 (Af (d,b,c)) Ec O (al J1 O λb7=>Ah O sizeOf71 O (q6 (sL [2,3,4,6,5,27,28,29,8] O) ?_))))))))))
  refine C8 (El 18++[(18,false),(19,true)]) sr (Al (v:=(pP b2 0)) O (AA O underlying34 O sizeOf32 O) (BQ 5 (qz pp ps.length pk) C2 O (Al (v:=(pP b7 0)) O (AB (j:=0) O O underlying71 sizeOf3 O jY O) (BQ 0 (vN d) Bk O (Al (v:=(pP (pB pp) (pO pp+d*10))) O (AO (j:=d) O O hk2 underlying32 sizeOf78 O Z) (Al (v:=(aG (Aa (ps.getD d (⟨0,0⟩:Pt))))) O (AM (vs:=Aa (ps.getD d (⟨0,0⟩:Pt))) (i:=8) O O (A8.ne hk2 Z) A9 (Ae Ap _ _ _ Z) (Ap _)) (Al (v:=(pP b2 0)) O (AA O underlying34 O sizeOf32 O) (BQ 5 (qz pp ps.length pk) C2 O (Al (v:=(pP b7 1)) O (AB (j:=1) O O underlying71 sizeOf3 O jY O) (BQ 0 (vN b) Bk O (Al (v:=(pP (pB pp) (pO pp+b*10))) O (AO (j:=b) O O hk2 underlying32 sizeOf78 O Z) ?_)))))))))))
  refine Al (v:=(aG (Aa (ps.getD b (⟨0,0⟩:Pt))))) O (AM (vs:=Aa (ps.getD b (⟨0,0⟩:Pt))) (i:=8) O O (A8.ne hk2 Z) A9 (Ae Ap _ _ _ Z) (Ap _)) (Al (v:=(pP b2 0)) O (AA O underlying34 O sizeOf32 O) (BQ 5 (qz pp ps.length pk) C2 O (Al (v:=(pP b7 2)) O (AB (j:=2) O O underlying71 sizeOf3 O jY O) (BQ 0 (vN c) Bk O (Al (v:=(pP (pB pp) (pO pp+c*10))) O (AO (j:=c) O O hk2 underlying32 sizeOf78 O Z) (Al (v:=(aG (Aa (ps.getD c (⟨0,0⟩:Pt))))) O (AM (vs:=Aa (ps.getD c (⟨0,0⟩:Pt))) (i:=8) O O (A8.ne hk2 Z) A9 (Ae Ap _ _ _ Z) (Ap _)) (zN O (ck' call111 (Gw (ps.getD d (⟨0,0⟩:Pt)) (ps.getD b (⟨0,0⟩:Pt)) (ps.getD c (⟨0,0⟩:Pt)) Z) O (zD sr (Al O (Bv (c:=(decide (((AC (ps.getD d (⟨0,0⟩:Pt)) (ps.getD b (⟨0,0⟩:Pt)) (ps.getD c (⟨0,0⟩:Pt))).num.sign)≠(1:Int)))) O O O) (zQ ?_)))))))))))
  refine zB (sL [2,3,4,6,5,27,28,29,8,52] O) (zA ?_)
  refine zK O (λhc1=>?_) (λhc1=>?_)
  ·replace hc1:=xT hc1
   have hB:=U9 (a:=a) hc1
   exact q4 (asg' O (oNl' (zA (zG (zR (zJ (zJ (zR (zJ (ret_one O (rd_tmp (v:=(qa false)) O) (λw hw=>⟨by rw [hB],(),trivial,by rw [KE hB];exact hw.weak (sl (sl (sl (sl (sl (sl (sl sr)))))))⟩)))))))))))
  ·replace hc1:=xS hc1
   have hB:=O9 hT1 (Decidable.of_not_not hc1)
   refine zC (zF (zA (zH (AD (AS (c:=(2:Int)) O O jY) O (AL O (oNl' (zB (sL [2,3,4,6,5,27,28,29,8] O) (zk (zZ (q4 (AD (Ab (c:=false) O O jY) O ?_)))))))))))
   refine oNl' (q1 (zS O (zU (zO (zO (zP (q1 (C8 (El 13++[(13,false),(14,true),(15,false)]) (sk (sk (sk (sk (sk (sk (sk (sl sr)))))))) (Al (v:=(pP b2 1)) O (AA O underlying34 O sizeOf28 O) (BQ 5 (qz tp ts.length tk) C5 O (Al (v:=(pP b1 0)) O (AA O underlying127 O sizeOf54 O) ?_)))))))))))
   refine Al (v:=(pP b1 2)) O (AA O underlying54 O sizeOf3 O) (BQ 6 (vN p) Bk O (Al (v:=(pP b2 1)) O (AA O underlying34 O sizeOf28 O) (BQ 5 (qz tp ts.length tk) C5 O (Al (v:=(pP b1 0)) O (AA O underlying127 O sizeOf54 O) (Al (v:=(pP b1 3)) O (AA O underlying54 O sizeOf3 O) (BQ 6 (vN q) Bk O (Ej 3 Ec O (Ej 4 Ec O (Al (v:=(pP (pB tp) (pO tp+p*3))) O (AO (j:=p) O O hk1 underlying28 sizeOf71 O Z) (zN O (ym 7 (enc:=Af) (j:=p) (r:=0) (x':=(a,d,c)) (vs:=Af (a,d,c)) jJ Av ho1 (by first|rfl|omega|simp [*]) O O O (A8.ne hk1 Z) Z O sizeOf71 O O ?_)))))))))))
   exact zD (sk (sk (sk (sk (sk (sk (sk (sl sr)))))))) (Al (v:=(pP (pB tp) (pO tp+q*3))) O (AO (j:=q) O O hk1 underlying28 sizeOf71 O Z) (zN O (ym 7 (enc:=Af) (j:=q) (r:=0) (x':=(d,b,c)) (vs:=Af (d,b,c)) jJ Av ho1 (by first|rfl|omega|simp [*]) O O O (A8.ne hk1 Z) Z O sizeOf71 O O (zD (sk (sk (sk (sk (sk (sk (sk (sl sr)))))))) (zQ (zB (sL [2,3,4,6,5,27,28,29,8] O) (q2 (asg' O (oNl' (zA (zG (ret_one O (rd_tmp (v:=(qa true)) O) (λw hw=>⟨by rw [hB],(),trivial,by rw [LC hB];unfold CF;exact hw.weak (sl (sl (sl (sl (sl (sl (sl sr)))))))⟩)))))))))))))
end
section
set_option maxRecDepth 100000
theorem Ud (p:Option Addr) (n cp:Nat) (h:n<=cp) (w:World)  :Calls prog 75 #[(qz p n cp)] w (Ac w (qz p n n)):=by
 refine AW (args:=[(qz p n cp)]) func75 O O (A_ O) (zM (sL [0] O) (q4 (asg' O (oNl' (q2 (AL O (AL O (AD (v:=(vN n)) (AE O underlying32) O (AL O (AD (v:=(vN n)) (AE O underlying32) O (AD (v:=(qz p n n)) (EO (m:=n) O O O underlying32 sizeOf78 Z) O ?_)))))))))))
 exact asg' O (oNl' (zB (sL [2] O) (zA (zG (ret_one O (rd_tmp (v:=(qz p n n)) O) (λw hw=>⟨rfl,hw.out⟩))))))
theorem Mr (ts:List Pt) (x:RX (rowsL Aa ts) ts.length) (hl:ts.length<=1000000000) (w:World) {S:Nat->Prop} (hx:Ro S w x):Calls prog 76 #[(qz x.p ts.length x.c)] w (E9 aV (Yo (T:=78) (z:=10) (cs:=rowsL Aa ts) (n:=ts.length)) S w):=by
 have lx:=DT (W:=w) hx
 refine Ag (args:=[(qz x.p ts.length x.c)]) (L:=[AN x.p (rowsL Aa ts)]) func76 O O (A_ O) (DU hx Az) (zM (sL [0] O) (q4 (asg' O (z6 78 10 (oNl' (q1 (q4 (AL O (AD (v:=(qa x.p.isNone)) (Hu O O underlying32) O (oNl' (zB (sL [0,2,4] O) ?_)))))))))))
 refine zA ?_
 refine zK O (λhc0=>?_) (λhc0=>?_)
 ·have hts:ts=[]:=List.eq_nil_of_length_eq_zero (x.ok.nil (Option.isNone_iff_eq_none.1 hc0)).1
  exact q4 (asg' O (z6 78 10 (oNl' (zA (zG (zJ (ret_one O (rd_tmp (v:=jj) O) (λw hw=>(by subst hts;exact PV hw (OX.mk none 0 OwnOk.none) (by exact (sk (sl (sl sr)))) (IL.own O IL.nil) (by show qz none 0 0=_;rfl))))))))))
 ·exact zC (q2 (ze (V:=λb1=>(qz (jk b1) 0 0)) (T:=78) (cs:=[]) (AI O) (JD underlying32 sizeOf78) O (A_ O) λb1=>yi (z:=10) 0 O Z λho_b1=>AL O (yf cg O ho_b1 O (az (k:=2) O x.ok) (AZ Ap _) (HY Yu _) (Ma Z) Z O λp_1 c_1 ho_1=>asg' O (oNl' (zB (sL [0,2] O) (zA (zG (ret_one O (rd_tmp (v:=(qz p_1 ts.length c_1)) O) (λw hw=>(PV hw (OX.mk p_1 c_1 ho_1) (sk (sl (sl sr))) (IL.own O IL.nil) O))))))))))
theorem Ue (p:Option Addr) (n cp:Nat) (h:n<=cp) (w:World)  :Calls prog 77 #[(qz p n cp)] w (Ac w (qz p n n)):=by
 refine AW (args:=[(qz p n cp)]) func77 O O (A_ O) (zM (sL [0] O) (q4 (asg' O (oNl' (q2 (AL O (AL O (AD (v:=(vN n)) (AE O underlying28) O (AL O (AD (v:=(vN n)) (AE O underlying28) O (AD (v:=(qz p n n)) (EO (m:=n) O O O underlying28 sizeOf71 Z) O ?_)))))))))))
 exact asg' O (oNl' (zB (sL [2] O) (zA (zG (ret_one O (rd_tmp (v:=(qz p n n)) O) (λw hw=>⟨rfl,hw.out⟩))))))
theorem Ov (p:Option Addr) (n cp:Nat) (h:n<=cp) (w:World)  :Calls prog 79 #[(qz p n cp)] w (Ac w (qz p n n)):=by
 refine AW (args:=[(qz p n cp)]) func79 O O (A_ O) (zM (sL [0] O) (q4 (asg' O (oNl' (q2 (AL O (AL O (AD (v:=(vN n)) (AE O underlying29) O (AL O (AD (v:=(vN n)) (AE O underlying29) O (AD (v:=(qz p n n)) (EO (m:=n) O O O underlying29 sizeOf80 Z) O ?_)))))))))))
 exact asg' O (oNl' (zB (sL [2] O) (zA (zG (ret_one O (rd_tmp (v:=(qz p n n)) O) (λw hw=>⟨rfl,hw.out⟩))))))
end
section
set_option maxRecDepth 100000
end
end Go.Proofs.YtbfdamnfcmefmaaGreatDoor
