import Derived.Test.YtbfdamnfcmefmaaGreatDoorPart30
namespace Go.Proofs.YtbfdamnfcmefmaaGreatDoor
open Go Go.RowKit Go.Proofs.Tryz
open Go.Value renaming slice→qz,bool→qa
set_option linter.unusedVariables false
set_option linter.unusedSimpArgs false
section
set_option maxRecDepth 100000
theorem Uz (T:T3) (a b:Nat) (h1:a+b<=T.1+T.2.1+T.2.2) (h2:T.1<1000000/\T.2.1<1000000/\T.2.2<1000000) (w:World)  :Calls prog 109 #[(aG (Ad T)),(vN a),(vN b)] w (Ag w (vN (J1 T a b))):=by
 refine AW (args:=[(aG (Ad T)),(vN a),(vN b)]) func109 O O (BE O) (zM (sL [0,1,2] O) (q4 (BZ (cs:=Ad T) O λb1=>asg' O (q3 (sL [1,2,3,6] O) (AC (v:=(pP b1 0)) (AB (j:=0) O O underlying71 sizeOf3 O jY O) O (BA 0 (vN T.1) BP O (AC (v:=(pP b1 1)) (AB (j:=1) O O underlying71 sizeOf3 O jY O) O (BA 0 (vN T.2.1) BP O (AC (AR (c:=((T.1+T.2.1:Nat):Int)) O O (AS (a:=T.1) (b:=T.2.1) Z)) O (AC (v:=(pP b1 2)) (AB (j:=2) O O underlying71 sizeOf3 O jY O) O ?_))))))))))
 exact BA 0 (vN T.2.2) BP O (AC (AR (c:=(((T.1+T.2.1)+T.2.2:Nat):Int)) O O (AS (a:=T.1+T.2.1) (b:=T.2.2) Z)) O (AM O (AC (Bp (c:=((((T.1+T.2.1)+T.2.2)-a:Nat):Int)) O O (Bz (a:=(T.1+T.2.1)+T.2.2) (b:=a) Z Z)) O (AM O (AC (Bp (c:=(((((T.1+T.2.1)+T.2.2)-a)-b:Nat):Int)) O O (Bz (a:=((T.1+T.2.1)+T.2.2)-a) (b:=b) Z Z)) O (asg' O (oNl' (zB (sL [6] O) (zA (zH (ret_one O (rd_tmp (v:=(vN ((((T.1+T.2.1)+T.2.2)-a)-b))) O) (λw hw=>⟨rfl,hw.out⟩))))))))))))
theorem aD {ps:List Pt} {ts:List T3} {ss:List Z3} (x:MN ps ts ss) (e:E4) (hno:¬(0<=e.l/\0<=e.r)) (w:World) {S:Nat->Prop} (hx:Ro S w x):Calls prog 49 #[(aG (Cb x)),(aG (Bd e))] w (Ag w (Value.tuple #[(aG (Js ⟨e,0,0⟩)),(qa false)])):=by
 have lx:=Db (W:=w) hx
 refine Ak (args:=[(aG (Cb x)),(aG (Bd e))]) (L:=[AP x.a.p (rowsL AZ ps),AP x.b.p (rowsL Ad ts),AP x.c.p (rowsL Bb ss)]) func49 O O (BE O) (De hx A_) (zM (sL [0,1] O) (q4 (BZ (cs:=Cb x) O λb1=>BZ (cs:=Bd e) O λb2=>al Ly O λb3=>asg' O (q3 (sL [2,3,4,5] O) (Ai 1 G8 O (AC (v:=(pP b3 0)) (AA O underlying127 O sizeOf54 O) O (Fm 0 (off:=0) (vs:=Bd e) (cs':=Bd e++[(vI 0),(vI 0)]) (AK O) O sizeOf54 O (q6 (sL [2,4,5] O) ?_))))))))
 refine q4 (AC (v:=(pP b3 0)) (AA O underlying127 O sizeOf54 O) O (AC (v:=(pP b3 2)) (AA O underlying54 O sizeOf3 O) O (BA 0 (vI e.l) BP O (AC (Aa (c:=(decide (e.l<(0:Int)))) O O O) O (AM O ?_)))))
 refine zi (FM:=[(2,(pP b1 0)),(4,(pP b3 0)),(5,(qa false)),(8,(pP b3 0)),(9,(pP b3 2)),(10,(vI e.l)),(11,(qa (decide (e.l<(0:Int))))),(12,(qa (decide (e.l<(0:Int))))),(17,(qa ((decide (e.l<(0:Int)))||(decide (e.r<(0:Int))))))]) (LM:=[AX b3 127 (Bd e++[(vI 0),(vI 0)]),AX b2 54 (Bd e),AX b1 34 (Cb x),AP x.a.p (rowsL AZ ps),AP x.b.p (rowsL Ad ts),AP x.c.p (rowsL Bb ss)]) 5 ?_ ?_
 ·rcases xR (decide (e.l<(0:Int))) with hg1|hg1
  ·refine zK (k:=12) (u:=qa true) O (by rw [hg1]) ?_
   have hg1':=xU hg1
   exact BD O (BD O (BD O (BD O (AC (v:=(qa true)) (AQ O O) O (oNl' (zT Cc (xS _)))))))
  ·refine zK (k:=12) (u:=qa false) O (by rw [hg1]) ?_
   have hg1':=xT hg1
   exact Av (v:=(pP b3 0)) O (AA O underlying127 O sizeOf54 O) (Av (v:=(pP b3 3)) O (AA O underlying54 O sizeOf3 O) (Av (v:=(vI e.r)) O (AD (i:=0) (v:=(vI e.r)) O O BP.a O) (Av (v:=(qa (decide (e.r<(0:Int))))) O (Aa (c:=(decide (e.r<(0:Int)))) O O O) (AC (v:=(qa (decide (e.r<(0:Int))))) (AL O O) O (oNl' (zT Cc (xS _)))))))
 refine oNl' (zB (sL [2,4,5,17] O) (zA ?_))
 refine zL O (λhc0=>?_) (λhc0=>?_)
 ·simp only [jK] at hc0
  exact q4 (Ai 0 G7 O (Ah O sizeOf127 O (asg' O (oNl' (zB (sL [2,4,5] O) (zA (zH (zJ (Bu O (Ap (i:=0) (cs:=Bd e++[(vI 0),(vI 0)]) O O isAgg127 sizeOf127 O) (rd_tmp (v:=(qa false)) O) (λw hw=>⟨rfl,hw.out⟩))))))))))
 ·simp only [jK] at hc0
  exfalso;omega
theorem aE {ps:List Pt} {ts:List T3} {ss:List Z3} (x:MN ps ts ss) (a b p q c d:Nat) (hnb:BV ps.length ts=true) (hpl:p<ts.length) (hql:q<ts.length) (h1:I5 ps.length (ts.getD p (0,0,0)) a b c) (h2:I5 ps.length (ts.getD q (0,0,0)) b a d) (hN:ps.length<=1000000) (w:World) {S:Nat->Prop} (hx:Ro S w x):Calls prog 49 #[(aG (Cb x)),(aG ([(vN a),(vN b),(vN p),(vN q)]))] w (Ag w (Value.tuple #[(aG (Js ⟨⟨a,b,(p:Int),(q:Int)⟩,c,d⟩)),(qa true)])):=by
 have lx:=Db (W:=w) hx
 refine Ak (args:=[(aG (Cb x)),(aG ([(vN a),(vN b),(vN p),(vN q)]))]) (L:=[AP x.a.p (rowsL AZ ps),AP x.b.p (rowsL Ad ts),AP x.c.p (rowsL Bb ss)]) func49 O O (BE O) (De hx A_) (zM (sL [0,1] O) (q4 (BZ (cs:=Cb x) O λb1=>BZ (cs:=[(vN a),(vN b),(vN p),(vN q)]) O λb2=>al Ly O λb3=>asg' O (q3 (sL [2,3,4,5] O) (Ai 1 G8 O (AC (v:=(pP b3 0)) (AA O underlying127 O sizeOf54 O) O (Fm 0 (off:=0) (vs:=[(vN a),(vN b),(vN p),(vN q)]) (cs':=[(vN a),(vN b),(vN p),(vN q),(vI 0),(vI 0)]) (AK O) O sizeOf54 O (q6 (sL [2,4,5] O) ?_))))))))
 refine q4 (AC (v:=(pP b3 0)) (AA O underlying127 O sizeOf54 O) O (AC (v:=(pP b3 2)) (AA O underlying54 O sizeOf3 O) O (BA 0 (vN p) BP O (AC (Aa (c:=(decide (p<0))) O O (DF (a:=p) (b:=0))) O (AM O ?_)))))
 refine zi (FM:=[(2,(pP b1 0)),(4,(pP b3 0)),(5,(qa false)),(8,(pP b3 0)),(9,(pP b3 2)),(10,(vN p)),(11,(qa (decide (p<0)))),(12,(qa (decide (p<0)))),(17,(qa ((decide (p<0))||(decide (q<0)))))]) (LM:=[AX b3 127 ([(vN a),(vN b),(vN p),(vN q),(vI 0),(vI 0)]),AX b2 54 ([(vN a),(vN b),(vN p),(vN q)]),AX b1 34 (Cb x),AP x.a.p (rowsL AZ ps),AP x.b.p (rowsL Ad ts),AP x.c.p (rowsL Bb ss)]) 5 ?_ ?_
 ·rcases xR (decide (p<0)) with hg1|hg1
  ·refine zK (k:=12) (u:=qa true) O (by rw [hg1]) ?_
   have hg1':=xU hg1
   exact BD O (BD O (BD O (BD O (AC (v:=(qa true)) (AQ O O) O (oNl' (zT Cc (xS _)))))))
  ·refine zK (k:=12) (u:=qa false) O (by rw [hg1]) ?_
   have hg1':=xT hg1
   exact Av (v:=(pP b3 0)) O (AA O underlying127 O sizeOf54 O) (Av (v:=(pP b3 3)) O (AA O underlying54 O sizeOf3 O) (Av (v:=(vN q)) O (AD (i:=0) (v:=(vN q)) O O BP.a O) (Av (v:=(qa (decide (q<0)))) O (Aa (c:=(decide (q<0))) O O (DF (a:=q) (b:=0))) (AC (v:=(qa (decide (q<0)))) (AL O O) O (oNl' (zT Cc (xS _)))))))
 refine oNl' (zB (sL [2,4,5,17] O) (zA ?_))
 refine zL O (λhc0=>?_) (λhc0=>?_)
 ·simp only [jK] at hc0
  exfalso;omega
 ·simp only [jK] at hc0
  refine zC (q1 (fI [(0,true),(1,true),(2,true),(3,true),(4,true),(5,true),(6,true),(7,true),(8,true),(9,true),(10,true),(11,true),(12,true),(14,true),(15,true),(16,true),(17,true),(18,true),(19,true),(20,true),(21,true),(22,true),(23,true),(24,true),(25,true),(26,true),(13,false),(28,true),(27,false)] 29 [(30,true),(31,false)] sr (sl sr) jV (λ_ _ d _ _ h=>by cases d<;>exact h) (CT.pasA (v:=(pP b1 1)) O jV (AK O) (AA O underlying34 O sizeOf28 O) O O (CT.pasA (v:=(qz x.b.p ts.length x.b.c)) O jV (AK O) (AD (i:=2) (v:=(qz x.b.p ts.length x.b.c)) O O CM.a O) O O (CT.pasA (v:=(pP b3 0)) O jV (AK O) (AA O underlying127 O sizeOf54 O) O O (CT.pasA (v:=(pP b3 2)) O jV (AK O) (AA O underlying54 O sizeOf3 O) O O (CT.pasA (v:=(vN p)) O jV (AK O) (AD (i:=0) (v:=(vN p)) O O BP.a O) O O (CT.pasA (v:=(pP (pB x.b.p) (pO x.b.p+p*3))) O jV (AK O) (AO (j:=p) O O x.b.ok underlying28 sizeOf71 O Z) O O (CT.pasA (v:=(aG (Ad (ts.getD p ((0,0,0):Tq3))))) O jV (AK O) (AI (vs:=Ad (ts.getD p ((0,0,0):Tq3))) (i:=4) O O (Aw.ne x.b.ok Z) Bm (Ae An _ _ _ Z) (An _)) O O (CT.pasA (v:=(pP b3 0)) O jV (AK O) (AA O underlying127 O sizeOf54 O) O O (CT.pasA (v:=(pP b3 0)) O jV (AK O) (AA O underlying54 O sizeOf3 O) O O ?_)))))))))))
  refine CT.pasA (v:=(vN a)) O jV (AK O) (AD (i:=0) (v:=(vN a)) O O BP.a O) O O (CT.pasA (v:=(pP b3 0)) O jV (AK O) (AA O underlying127 O sizeOf54 O) O O (CT.pasA (v:=(pP b3 1)) O jV (AK O) (AA O underlying54 O sizeOf3 O) O O (CT.pasA (v:=(vN b)) O jV (AK O) (AD (i:=0) (v:=(vN b)) O O BP.a O) O O (CT.pasA (v:=(pP b1 1)) O jV (AK O) (AA O underlying34 O sizeOf28 O) O O (CT.pasA (v:=(qz x.b.p ts.length x.b.c)) O jV (AK O) (AD (i:=2) (v:=(qz x.b.p ts.length x.b.c)) O O CM.a O) O O (CT.pasA (v:=(pP b3 0)) O jV (AK O) (AA O underlying127 O sizeOf54 O) O O (CT.pasA (v:=(pP b3 3)) O jV (AK O) (AA O underlying54 O sizeOf3 O) O O (CT.pasA (v:=(vN q)) O jV (AK O) (AD (i:=0) (v:=(vN q)) O O BP.a O) O O (CT.pasA (v:=(pP (pB x.b.p) (pO x.b.p+q*3))) O jV (AK O) (AO (j:=q) O O x.b.ok underlying28 sizeOf71 O Z) O O (CT.pasA (v:=(aG (Ad (ts.getD q ((0,0,0):Tq3))))) O jV (AK O) (AI (vs:=Ad (ts.getD q ((0,0,0):Tq3))) (i:=4) O O (Aw.ne x.b.ok Z) Bm (Ae An _ _ _ Z) (An _)) O O (CT.pasA (v:=(pP b3 0)) O jV (AK O) (AA O underlying127 O sizeOf54 O) O O ?_)))))))))))
  refine CT.pasA (v:=(pP b3 0)) O jV (AK O) (AA O underlying54 O sizeOf3 O) O O (CT.pasA (v:=(vN a)) O jV (AK O) (AD (i:=0) (v:=(vN a)) O O BP.a O) O O (CT.pasA (v:=(pP b3 0)) O jV (AK O) (AA O underlying127 O sizeOf54 O) O O (CT.pasA (v:=(pP b3 1)) O jV (AK O) (AA O underlying54 O sizeOf3 O) O O (CT.pasA (v:=(vN b)) O jV (AK O) (AD (i:=0) (v:=(vN b)) O O BP.a O) O O (CT.imp O (C7 (args:=[(aG (Ad (ts.getD p ((0,0,0):Tq3)))),(vN a),(vN b)]) (v:=(vN c)) call109 (λw hw=>(by have h9:=Uz (ts.getD p ((0,0,0):Tq3)) a b (by have:=h1.far.2.2;omega) (by have:=DP (CQ hnb hpl);omega) w;rw [show J1 (ts.getD p ((0,0,0):Tq3)) a b=c from h1.far.1] at h9;exact h9)) O (CT.back sr (CT.pasA (v:=(pP b3 4)) O jV (AK O) (AA O underlying127 O sizeOf3 O) O O (CT.imp O (C7 (args:=[(aG (Ad (ts.getD q ((0,0,0):Tq3)))),(vN a),(vN b)]) (v:=(vN d)) call109 (λw hw=>(by have h9:=Uz (ts.getD q ((0,0,0):Tq3)) a b (by have:=h2.far.2.2;omega) (by have:=DP (CQ hnb hql);omega) w;rw [show J1 (ts.getD q ((0,0,0):Tq3)) a b=d from h2.far.2.1] at h9;exact h9)) O (CT.back sr ?_)))))))))))
  refine CT.cut O (Fm 0 (off:=4) (vs:=[(vN c)]) (cs':=[(vN a),(vN b),(vN p),(vN q),(vN c),(vI 0)]) (AK O) O sizeOf3 O (zG (sl sr) (Aj (v:=(pP b3 5)) O (AA O underlying127 O sizeOf3 O) (zN O (Fm 0 (off:=5) (vs:=[(vN d)]) (cs':=[(vN a),(vN b),(vN p),(vN q),(vN c),(vN d)]) (AK O) O sizeOf3 O (zG (sl sr) (zQ (zB (sL [4,5] O) (q2 (Ai 0 G7 O (Ah O sizeOf127 O ?_)))))))))))
  exact asg' O (oNl' (zB (sL [4,5] O) (zA (zH (Bu O (Ap (i:=0) (cs:=[(vN a),(vN b),(vN p),(vN q),(vN c),(vN d)]) O O isAgg127 sizeOf127 O) (rd_tmp (v:=(qa true)) O) (λw hw=>⟨rfl,hw.out⟩))))))
theorem S7 {ps:List Pt} {ts:List T3} {ss:List Z3} (x:MN ps ts ss) (a b p q c d:Nat) (ha:a<ps.length) (hb:b<ps.length) (hcl:c<ps.length) (hdl:d<ps.length) (hz:∀i,Bn (cor ps i)<=200000) (w:World) {S:Nat->Prop} (hx:Ro S w x):Calls prog 50 #[(aG ([(vN a),(vN b),(vN p),(vN q),(vN c),(vN d)])),(aG (Cb x))] w (Ag w (qa (decide (Mr (cor ps a) (cor ps b) (cor ps c) (cor ps d)≠1)))):=by
 have za:Bn (ps.getD a (⟨0,0⟩:Pt))<=200000:=hz a
 have zb:Bn (ps.getD b (⟨0,0⟩:Pt))<=200000:=hz b
 have zc:Bn (ps.getD c (⟨0,0⟩:Pt))<=200000:=hz c
 have zd:Bn (ps.getD d (⟨0,0⟩:Pt))<=200000:=hz d
 have lx:=Db (W:=w) hx
 refine Ak (args:=[(aG ([(vN a),(vN b),(vN p),(vN q),(vN c),(vN d)])),(aG (Cb x))]) (L:=[AP x.a.p (rowsL AZ ps),AP x.b.p (rowsL Ad ts),AP x.c.p (rowsL Bb ss)]) func50 O O (BE O) (De hx A_) (zM (sL [0,1] O) (q4 (BZ (cs:=[(vN a),(vN b),(vN p),(vN q),(vN c),(vN d)]) O λb1=>BZ (cs:=Cb x) O λb2=>asg' O (q6 (sL [2,3,4] O) (C_ (Ek 26++[(26,false),(27,true),(28,true)]) sr (Aj (v:=(pP b2 0)) O (AA O underlying34 O sizeOf32 O) (BK 0 (qz x.a.p ps.length x.a.c) DC O (Aj (v:=(pP b1 0)) O (AA O underlying127 O sizeOf54 O) (Aj (v:=(pP b1 0)) O (AA O underlying54 O sizeOf3 O) ?_)))))))))
 refine BK 1 (vN a) BP O (Aj (v:=(pP (pB x.a.p) (pO x.a.p+a*10))) O (AO (j:=a) O O x.a.ok underlying32 sizeOf78 O Z) (Aj (v:=(aG (AZ (ps.getD a (⟨0,0⟩:Pt))))) O (AI (vs:=AZ (ps.getD a (⟨0,0⟩:Pt))) (i:=2) O O (Aw.ne x.a.ok Z) BC (Ae Aq _ _ _ Z) (Aq _)) (Aj (v:=(pP b2 0)) O (AA O underlying34 O sizeOf32 O) (BK 0 (qz x.a.p ps.length x.a.c) DC O (Aj (v:=(pP b1 0)) O (AA O underlying127 O sizeOf54 O) (Aj (v:=(pP b1 1)) O (AA O underlying54 O sizeOf3 O) (BK 1 (vN b) BP O (Aj (v:=(pP (pB x.a.p) (pO x.a.p+b*10))) O (AO (j:=b) O O x.a.ok underlying32 sizeOf78 O Z) (Aj (v:=(aG (AZ (ps.getD b (⟨0,0⟩:Pt))))) O (AI (vs:=AZ (ps.getD b (⟨0,0⟩:Pt))) (i:=2) O O (Aw.ne x.a.ok Z) BC (Ae Aq _ _ _ Z) (Aq _)) (Aj (v:=(pP b2 0)) O (AA O underlying34 O sizeOf32 O) (BK 0 (qz x.a.p ps.length x.a.c) DC O ?_)))))))))))
 refine Aj (v:=(pP b1 4)) O (AA O underlying127 O sizeOf3 O) (BK 1 (vN c) BP O (Aj (v:=(pP (pB x.a.p) (pO x.a.p+c*10))) O (AO (j:=c) O O x.a.ok underlying32 sizeOf78 O Z) (Aj (v:=(aG (AZ (ps.getD c (⟨0,0⟩:Pt))))) O (AI (vs:=AZ (ps.getD c (⟨0,0⟩:Pt))) (i:=2) O O (Aw.ne x.a.ok Z) BC (Ae Aq _ _ _ Z) (Aq _)) (Aj (v:=(pP b2 0)) O (AA O underlying34 O sizeOf32 O) (BK 0 (qz x.a.p ps.length x.a.c) DC O (Aj (v:=(pP b1 5)) O (AA O underlying127 O sizeOf3 O) (BK 1 (vN d) BP O (Aj (v:=(pP (pB x.a.p) (pO x.a.p+d*10))) O (AO (j:=d) O O x.a.ok underlying32 sizeOf78 O Z) (Aj (v:=(aG (AZ (ps.getD d (⟨0,0⟩:Pt))))) O (AI (vs:=AZ (ps.getD d (⟨0,0⟩:Pt))) (i:=2) O O (Aw.ne x.a.ok Z) BC (Ae Aq _ _ _ Z) (Aq _)) (zN O (ck' call110 (SE (ps.getD a (⟨0,0⟩:Pt)) (ps.getD b (⟨0,0⟩:Pt)) (ps.getD c (⟨0,0⟩:Pt)) (ps.getD d (⟨0,0⟩:Pt)) Z) O ?_)))))))))))
 exact zG sr (Aj O (Bw (c:=(decide ((Mr (ps.getD a (⟨0,0⟩:Pt)) (ps.getD b (⟨0,0⟩:Pt)) (ps.getD c (⟨0,0⟩:Pt)) (ps.getD d (⟨0,0⟩:Pt)))≠(1:Int)))) O O O) (pS' O (zQ (zB (sL [4] O) (zA (zH (ret_one O (rd_tmp (v:=(qa (decide ((Mr (ps.getD a (⟨0,0⟩:Pt)) (ps.getD b (⟨0,0⟩:Pt)) (ps.getD c (⟨0,0⟩:Pt)) (ps.getD d (⟨0,0⟩:Pt)))≠(1:Int))))) O) (λw hw=>⟨rfl,hw.out⟩))))))))
theorem K_  :Instr.fill ([(0,1),(1,1),(2,1),(3,1)].toArray[·]?) (Bd jA).toArray []=some (Bd jA).toArray:=by kernel_rfl
set_option maxHeartbeats 1000000 in
theorem Ie {ps:List Pt} {ts:List T3} {ss:List Z3} (x:MN ps ts ss) (u v:Int) (hnb:BV ps.length ts=true) (htl:ts.length<=1000000) (hN:ps.length<=1000000) (w:World) {S:Nat->Prop} (hx:Ro S w x):Calls prog 48 #[(aG (Cb x)),(vI u),(vI v)] w (Ag w (Value.tuple #[(aG (Bd (Di ts u v))),(qa (decide (0<=GJ ts u v)))])):=by
 have lx:=Db (W:=w) hx
 refine Ak (args:=[(aG (Cb x)),(vI u),(vI v)]) (L:=[AP x.a.p (rowsL AZ ps),AP x.b.p (rowsL Ad ts),AP x.c.p (rowsL Bb ss)]) func48 O O (BE O) (De hx A_) (zM (sL [0,1,2] O) (q4 (BZ (cs:=Cb x) O λb1=>al II O λb2=>asg' O (q6 (sL [1,2,3,6,7] O) (q4 (Ai 1 Bg O (cX (S:=S) (cs:=rowsL Bd (BJ ts)) (k:=(BJ ts).length) (args:=[(aG (Cb x))]) call17 (λw hw=>(by obtain ⟨y2,hy2,hro⟩:=ZL x;have h9:=Hu y2 Z Z hnb w (hro (Cd hw 2 O lx));rw [hy2] at h9;exact h9)) O O O λo lo=>?_)))))))
 have hel:=QC ts
 refine AC (v:=(vN ((BJ ts).length))) (AE O underlying51) O (AM O (oNl' (zB (sL [1,2,6,7,11,12,13] O) (zA (zI ?_)))))
 refine zw (tg λ(i:Nat)=>i<=(BJ ts).length/\GJ ts u v=inG ((BJ ts).drop i) (min u v) (max u v) i) (tg λ(i:Nat)=>[(1,(vI u)),(2,(vI v)),(6,(pP b2 0)),(11,(qz o.p ((BJ ts).length) o.c)),(12,(vN ((BJ ts).length))),(13,(vN i))]) (tg λ(i:Nat)=>[AP o.p (rowsL Bd (BJ ts)),AX b2 54 (Bd jA),AX b1 34 (Cb x),AP x.a.p (rowsL AZ ps),AP x.b.p (rowsL Ad ts),AP x.c.p (rowsL Bb ss)]) (tg λ(i:Nat)=>(BJ ts).length-i) 0 (⟨xK _,rfl⟩) (sF O) sr (λi hJ=>?_)
 obtain ⟨hi,he⟩:=hJ
 refine q4 (AC (Aa (c:=(decide (i<((BJ ts).length)))) O O (DF (a:=i) (b:=(BJ ts).length))) O (oNl' (q1 ?_)))
 refine zL O (λhc0=>?_) (λhc0=>?_)
 ·replace hc0:=xU hc0
  refine zC (q1 (zI (q4 (AC (v:=(pP (pB o.p) (pO o.p+i*4))) (AO (j:=i) O O o.ok underlying51 sizeOf54 O Z) O (AC (v:=(aG (Bd ((BJ ts).getD i jA)))) (AI (vs:=Bd ((BJ ts).getD i jA)) (i:=0) O O (Aw.ne o.ok Z) G8 (Ae Cr _ _ _ Z) (Cr _)) O (al II O λb3=>Ah O sizeOf54 O (q3 (sL [1,2,6,11,12,13,9] O) (AC (v:=(pP b3 0)) (AA O underlying54 O sizeOf3 O) O (BA 0 (vN (((BJ ts).getD i jA).a)) BP O (AM O ?_))))))))))
  refine AM O (AC (Gt (c:=(min u v)) O O (by split<;>omega)) O (AC (BM (c:=(decide (((((BJ ts).getD i jA).a:Nat):Int)=(min u v)))) O O O) O (AM O ?_)))
  refine zi (FM:=[(1,(vI u)),(2,(vI v)),(6,(pP b2 0)),(11,(qz o.p ((BJ ts).length) o.c)),(12,(vN ((BJ ts).length))),(13,(vN i)),(9,(pP b3 0)),(17,(pP b3 0)),(18,(vN (((BJ ts).getD i jA).a))),(19,(vI u)),(20,(vI v)),(21,(vI (min u v))),(22,(qa (decide (((((BJ ts).getD i jA).a:Nat):Int)=(min u v))))),(23,(qa (decide (((((BJ ts).getD i jA).a:Nat):Int)=(min u v))))),(30,(qa ((decide (((((BJ ts).getD i jA).a:Nat):Int)=(min u v)))&&(decide (((((BJ ts).getD i jA).b:Nat):Int)=(max u v))))))]) (LM:=[AX b3 54 (Bd ((BJ ts).getD i jA)),AP o.p (rowsL Bd (BJ ts)),AX b2 54 (Bd jA),AX b1 34 (Cb x),AP x.a.p (rowsL AZ ps),AP x.b.p (rowsL Ad ts),AP x.c.p (rowsL Bb ss)]) 7 ?_ ?_
  ·rcases xR (decide (((((BJ ts).getD i jA).a:Nat):Int)=(min u v))) with hg1|hg1
   ·refine zK (k:=23) (u:=qa true) O (by rw [hg1]) ?_
    have hg1':=xU hg1
    exact Av (v:=(pP b3 1)) O (AA O underlying54 O sizeOf3 O) (Av (v:=(vN (((BJ ts).getD i jA).b))) O (AD (i:=0) (v:=(vN (((BJ ts).getD i jA).b))) O O BP.a O) (F0 O (F0 O (Av (v:=(vI (max u v))) O (GL (c:=(max u v)) O O (by split<;>omega)) (Av (v:=(qa (decide (((((BJ ts).getD i jA).b:Nat):Int)=(max u v))))) O (BM (c:=(decide (((((BJ ts).getD i jA).b:Nat):Int)=(max u v)))) O O O) (AC (v:=(qa (decide (((((BJ ts).getD i jA).b:Nat):Int)=(max u v))))) (AQ O O) O (oNl' (zT Cc (xS _)))))))))
   ·refine zK (k:=23) (u:=qa false) O (by rw [hg1]) ?_
    have hg1':=xT hg1
    exact BD O (BD O (BD O (BD O (BD O (BD O (AC (v:=(qa false)) (AL O O) O (oNl' (zT Cc (xS _)))))))))
  refine oNl' (zB (sL [1,2,6,11,12,13,9,30] O) (zA ?_))
  refine zL O (λhc1=>?_) (λhc1=>?_)
  ·simp only [jK] at hc1
   have hye:(((BJ ts).getD i jA).a:Int)=min u v/\(((BJ ts).getD i jA).b:Int)=max u v:=by grind
   have hfin:=he.trans (X7 Z hye)
   refine q4 (Ai 0 G8 O (Lv O sizeOf54 O (asg' O (oNl' (zB (sL [1,2,6,11,12,13,9,7] O) (zA (zH (zS (zJ (z6 (zS ?_)))))))))))
   exact zJ (Bu O (Ap (i:=2) (cs:=Bd ((BJ ts).getD i jA)) O O isAgg54 sizeOf54 O) (rd_tmp (v:=(qa true)) O) (λw hw=>⟨by rw [(Ky hfin).1,(Ky hfin).2];try rfl,hw.out⟩))
  ·simp only [jK] at hc1
   have hno:¬((((BJ ts).getD i jA).a:Int)=min u v/\(((BJ ts).getD i jA).b:Int)=max u v):=by grind
   exact zC (zF (zA (zD (AC (AR (c:=((i+1:Nat):Int)) O O (AS (a:=i) (b:=1) Z)) O (AM O (oNl' (zB (sL [1,2,6,11,12,13,9] O) (zh (i+1) (⟨Z,he.trans (VJ Z hno)⟩) Z (sF O) (sl sr)))))))))
 ·replace hc0:=xT hc0
  have hfin:=he.trans (X6 hc0)
  exact zU (zO (zX (zR (q2 (AC (v:=(aG (Bd jA))) (AT (zs:=Bd jA) (vs:=Bd jA) (pv:=[]) (places:=[(0,1),(1,1),(2,1),(3,1)]) zeroValue54 underlying54 (λw=>by simp [sizeOf3]) O (K_ )) O (CS O sizeOf54 O (asg' O (oNl' (zB (sL [1,2,6,11,12,13,7] O) (zA (zH (Bu O (Ap (i:=1) (cs:=Bd jA) O O isAgg54 sizeOf54 O) (rd_tmp (v:=(qa false)) O) (λw hw=>⟨by rw [(Uo hfin).1,(Uo hfin).2];try rfl,hw.out⟩)))))))))))))
theorem Lm {ps:List Pt} {ts:List T3} {ss:List Z3} (x:MN ps ts ss) (e:E4) (he:e∈BJ ts) (hnb:BV ps.length ts=true) (hN:ps.length<=1000000) (w:World) {S:Nat->Prop} (hx:Ro S w x):Calls prog 49 #[(aG (Cb x)),(aG (Bd e))] w (Ag w (.tuple #[(aG (Js (CG ts e))),(qa (Ci e))])):=by
 by_cases h:0<=e.l/\0<=e.r
 ·obtain ⟨p,q,c,d,h2⟩:=JX hnb Z he h.1 h.2
  rw [(Cy h2).1,(Cy h2).2,h2.mk4]
  exact aE x e.a e.b p q c d hnb h2.pl h2.ql h2.sc h2.sd hN w hx
 ·rw [(PO (ts:=ts) h).1,(PO (ts:=ts) h).2]
  exact aD x e h w hx
theorem PG {ps:List Pt} {ts:List T3} {ss:List Z3} (x:MN ps ts ss) (e:E4) (he:e∈BJ ts) (hb:Ci e=true) (hnb:BV ps.length ts=true) (hN:ps.length<=1000000) (hz:∀i,Bn (cor ps i)<=200000) (w:World) {S:Nat->Prop} (hx:Ro S w x):Calls prog 50 #[(aG (Js (CG ts e))),(aG (Cb x))] w (Ag w (qa (EN ps ts e))):=by
 obtain ⟨h3,h4⟩:=EG.1 hb
 obtain ⟨p,q,c,d,h2⟩:=JX hnb Z he h3 h4
 rw [(Cy h2).1,La h2]
 have e9:=h2.mk4
 have k:=S7 x e.a e.b p q c d h2.sc.a h2.sc.b h2.sc.c h2.sd.c hz w hx
 rw [e9]
 exact k
set_option maxHeartbeats 1000000 in
theorem Tx {ps:List Pt} {ts:List T3} {ss:List Z3} (x:MN ps ts ss) (u v:Int) (hnb:BV ps.length ts=true) (htl:ts.length<=1000000) (hN:ps.length<=1000000) (hz:∀i,Bn (cor ps i)<=200000) (w:World) {S:Nat->Prop} (hx:Ro S w x):Calls prog 18 #[(aG (Cb x)),(vI u),(vI v)] w (Ag w (Value.tuple #[(qa (XA ps ts u v)),(vN (XB ts u v))])):=by
 have lx:=Db (W:=w) hx
 refine Ak (args:=[(aG (Cb x)),(vI u),(vI v)]) (L:=[AP x.a.p (rowsL AZ ps),AP x.b.p (rowsL Ad ts),AP x.c.p (rowsL Bb ss)]) func18 O O (BE O) (De hx A_) (zM (sL [0,1,2] O) (q4 (BZ (cs:=Cb x) O λb1=>asg' O (asg' O (q3 (sL [1,2,3,6,7] O) (Ai 0 Bg O (AM O (AM O (C7 call48 (λw hw=>Ie x u v hnb htl hN w (Cd hw 1 O lx)) O (AM O ?_))))))))))
 refine AC (AJ (v:=(aG (Bd (Di ts u v)))) O O) O (AC (AJ (v:=(qa (decide (0<=GJ ts u v)))) O O) O (al II O λb2=>Ah O sizeOf54 O (asg' O (q6 (sL [3,6,7,8,9] O) (q4 (AM O (AC (BG (c:=(!(decide (0<=GJ ts u v)))) O O) O (oNl' (zB (sL [3,6,7,8,20] O) (zA ?_))))))))))
 refine zL O (λhc0=>?_) (λhc0=>?_)
 ·simp only [jK] at hc0
  exact q4 (asg' O (asg' O (oNl' (zA (zH (zJ (Bu O (rd_tmp (v:=(qa false)) O) (rd_tmp (v:=(vI 1)) O) (λw hw=>⟨by rw [(Rn (ps:=ps) Z).1,(Rn (ps:=ps) Z).2];try rfl,hw.out⟩))))))))
 ·simp only [jK] at hc0
  refine zC (q2 (Ai 1 Bg O (Ai 0 G8 O (C7 call49 (λw hw=>Lm x (Di ts u v) (HM hc0) hnb hN w (Cd hw 2 O lx)) O (AM O (AC (AJ (v:=(aG (Js (CG ts (Di ts u v))))) O O) O (AC (AJ (v:=(qa (Ci (Di ts u v)))) O O) O (al Ly O λb3=>Ah O sizeOf127 O (asg' O (q3 (sL [3,6,7,8,10,11] O) ?_))))))))))
  refine AM O (AC (BG (c:=(!(Ci (Di ts u v)))) O O) O (AM O ?_))
  refine zi (FM:=[(3,(pP b1 0)),(6,(qa false)),(7,(vI 0)),(8,(pP b2 0)),(10,(pP b3 0)),(11,(qa (Ci (Di ts u v)))),(27,(qa (Ci (Di ts u v)))),(28,(qa (!(Ci (Di ts u v))))),(29,(qa (!(Ci (Di ts u v))))),(33,(qa ((!(Ci (Di ts u v)))||(EN ps ts (Di ts u v)))))]) (LM:=[AX b3 127 (Js (CG ts (Di ts u v))),AX b2 54 (Bd (Di ts u v)),AX b1 34 (Cb x),AP x.a.p (rowsL AZ ps),AP x.b.p (rowsL Ad ts),AP x.c.p (rowsL Bb ss)]) 4 ?_ ?_
  ·rcases xR (!(Ci (Di ts u v))) with hg1|hg1
   ·refine zK (k:=29) (u:=qa true) O (by rw [hg1]) ?_
    have hg1':=hg1
    simp only [jK] at hg1'
    exact BD O (BD O (BD O (AC (v:=(qa true)) (AQ O O) O (oNl' (zT Cc (xS _))))))
   ·refine zK (k:=29) (u:=qa false) O (by rw [hg1]) ?_
    have hg1':=hg1
    simp only [jK] at hg1'
    exact Av (v:=(aG (Js (CG ts (Di ts u v))))) O (Ab (i:=0) (vs:=Js (CG ts (Di ts u v))) O O G7.a G7.s O O) (Av (v:=(aG (Cb x))) O (Ab (i:=2) (vs:=Cb x) O O Bg.a Bg.s O O) (zg (v:=(qa (EN ps ts (Di ts u v)))) (AY O) (Ao (args:=[(aG (Js (CG ts (Di ts u v)))),(aG (Cb x))]) O O call50) (λw hw=>PG x (Di ts u v) (HM hc0) (by simpa using hg1') hnb hN hz w (Cd hw 3 O lx)) O (BE O) (AC (v:=(qa (EN ps ts (Di ts u v)))) (AL O O) O (oNl' (zT Cc (xS _))))))
  exact asg' O (asg' O (oNl' (zB (sL [3,6,7,8,10] O) (zA (zH (Bu O (rd_tmp (v:=(qa ((!(Ci (Di ts u v)))||(EN ps ts (Di ts u v))))) O) (rd_tmp (v:=(vI 0)) O) (λw hw=>⟨by rw [Rl,(QV (ps:=ps) hc0).1,(QV (ps:=ps) hc0).2];try rfl,hw.out⟩)))))))
end
section
set_option maxRecDepth 100000
theorem HB (x0 x1 x2:Nat):Instr.fill (λi=>some (i*1,1)) (Ad jJ).toArray [(0,vN x0),(1,vN x1),(2,vN x2)]=some (Ad (x0,x1,x2)).toArray:=by kernel_rfl
theorem L7 (x0 x1:Tq3):Instr.fill (λi=>some (i*3,3)) ((Array.range (2*3)).map ((Value.agg (Ad jJ).toArray).cells[·%(Value.agg (Ad jJ).toArray).cells.size]!)) [(0,.agg (Ad x0).toArray),(1,.agg (Ad x1).toArray)]=some (Ad x0++Ad x1).toArray:=by kernel_rfl
set_option maxHeartbeats 2000000 in
theorem Ny (ps:List Pt) (ts:List T3) (a b p q c d:Nat) (ha:a<ps.length) (hb:b<ps.length) (hcl:c<ps.length) (hdl:d<ps.length) (hpl:p<ts.length) (hql:q<ts.length) (hN:ps.length<=1000000) (htl:ts.length<=1000000) (hz:∀i,Bn (cor ps i)<=200000) (pp tp sp:Option Addr) (pk tc tk sn sc:Nat) (ho1:OwnOk tp ts.length tc) (hk1:Aw tp ts.length tk) (hk2:Aw pp ps.length pk) (w:World) {w0:BF} {LR:List As} (hW:BI w0 w (rowW tp 71 3 ts.length tc (rowsL Ad ts)::AP pp (rowsL AZ ps)::LR)):Calls prog 51 #[(aG ([(vN a),(vN b),(vN p),(vN q),(vN c),(vN d)])),(aG ([(qz pp ps.length pk),(qz tp ts.length tk),(qz sp sn sc)]))] w (λe w'=>e=.returned (qa (Dg ps a b c d))/\∃u:Unit,True/\BI w0 w' (rowW tp 71 3 ts.length tc (rowsL Ad (Ma ps ts a b p q c d))::AP pp (rowsL AZ ps)::LR)):=by
 have za:Bn (ps.getD a (⟨0,0⟩:Pt))<=200000:=hz a
 have zb:Bn (ps.getD b (⟨0,0⟩:Pt))<=200000:=hz b
 have zc:Bn (ps.getD c (⟨0,0⟩:Pt))<=200000:=hz c
 have zd:Bn (ps.getD d (⟨0,0⟩:Pt))<=200000:=hz d
 refine Mm (args:=[(aG ([(vN a),(vN b),(vN p),(vN q),(vN c),(vN d)])),(aG ([(qz pp ps.length pk),(qz tp ts.length tk),(qz sp sn sc)]))]) func51 O O (BE O) hW (zM (sL [0,1] O) (q4 (BZ (cs:=[(vN a),(vN b),(vN p),(vN q),(vN c),(vN d)]) O λb1=>BZ (cs:=[(qz pp ps.length pk),(qz tp ts.length tk),(qz sp sn sc)]) O λb2=>asg' O (q6 (sL [2,3,4] O) (rN [(0,true),(1,true),(2,true),(3,true),(4,true),(5,true),(6,true),(7,true),(8,true),(9,true),(10,true),(11,true),(12,true),(13,true),(14,true),(15,true)] [⟨16,5,71,Ad jJ⟩,⟨17,6,71,Ad jJ⟩] [(18,false),(19,false)] sr jV (λ_ _ d _ _ h=>by cases d<;>exact h) (FL O O Hk O (FL O O Hk O (Hj))) O (GA (v:=(pP b1 0)) O (AA O underlying127 O sizeOf54 O) O (GA (v:=(pP b1 0)) O (AA O underlying54 O sizeOf3 O) O (TX 1 (vN a) BP O (GA (v:=(pP b1 5)) O (AA O underlying127 O sizeOf3 O) O ?_)))))))))
 refine TX 1 (vN d) BP O (GA (v:=(pP b1 4)) O (AA O underlying127 O sizeOf3 O) O (TX 1 (vN c) BP O (GA (v:=(aG (Ad (a,d,c)))) O (Af (zs:=Ad jJ) (vs:=Ad (a,d,c)) (pv:=[(0,(vN a)),(1,(vN d)),(2,(vN c))]) zeroValue71 underlying71 sizeOf3 O (HB a d c)) O (GA (v:=(pP b1 5)) O (AA O underlying127 O sizeOf3 O) O (TX 1 (vN d) BP O (GA (v:=(pP b1 0)) O (AA O underlying127 O sizeOf54 O) O (GA (v:=(pP b1 1)) O (AA O underlying54 O sizeOf3 O) O (TX 1 (vN b) BP O (GA (v:=(pP b1 4)) O (AA O underlying127 O sizeOf3 O) O (TX 1 (vN c) BP O (GA (v:=(aG (Ad (d,b,c)))) O (Af (zs:=Ad jJ) (vs:=Ad (d,b,c)) (pv:=[(0,(vN d)),(1,(vN b)),(2,(vN c))]) zeroValue71 underlying71 sizeOf3 O (HB d b c)) O ?_)))))))))))
 refine yW λb3 b4=>zN O (Ah O sizeOf71 O (zG (sl (sl sr)) (zN O (CS O sizeOf71 O (zG (sl (sl sr)) (zQ (zB (sL [2,3,4,6,5] O) (q1 (q4 (Ai 0 Bm O ?_))))))))))
 refine Ai 1 Bm O (ze (V:=λb5=>(qz (jk b5) 2 2)) (T:=71) (cs:=Ad (a,d,c)++Ad (d,b,c)) (AK O) (A7 (z:=.agg (Ad jJ).toArray) (cs:=Ad (a,d,c)++Ad (d,b,c)) (pv:=[(0,(aG (Ad (a,d,c)))),(1,(aG (Ad (d,b,c))))]) underlying28 sizeOf71 zeroValue71 jY jY O (L7 (a,d,c) (d,b,c))) O (BE O) λb5=>AC (v:=(vI 2)) (AE O underlying28) O (AM O (oNl' (zB (sL [2,3,4,6,5,27,28,29] O) (zA (zI (yC 3 (zZ (q4 (AC (Aa (c:=true) O O jY) O ?_))))))))))
 refine oNl' (q1 (zV O (zC (q1 (zI (q4 (AC (v:=(pP b5 0)) (AH (j:=0) O O underlying28 sizeOf71 O Z O) O (Ds 0 (Ad (a,d,c)) Bm O (al Hk O λb6=>Ah O sizeOf71 O (q6 (sL [2,3,4,6,5,27,28,29,8] O) ?_))))))))))
 refine C_ (Ek 18++[(18,false),(19,true)]) sr (Aj (v:=(pP b2 0)) O (AA O underlying34 O sizeOf32 O) (BK 4 (qz pp ps.length pk) DC O (Aj (v:=(pP b6 0)) O (AB (j:=0) O O underlying71 sizeOf3 O jY O) (BK 0 (vN a) BP O (Aj (v:=(pP (pB pp) (pO pp+a*10))) O (AO (j:=a) O O hk2 underlying32 sizeOf78 O Z) (Aj (v:=(aG (AZ (ps.getD a (⟨0,0⟩:Pt))))) O (AI (vs:=AZ (ps.getD a (⟨0,0⟩:Pt))) (i:=7) O O (Aw.ne hk2 Z) BC (Ae Aq _ _ _ Z) (Aq _)) (Aj (v:=(pP b2 0)) O (AA O underlying34 O sizeOf32 O) (BK 4 (qz pp ps.length pk) DC O (Aj (v:=(pP b6 1)) O (AB (j:=1) O O underlying71 sizeOf3 O jY O) (BK 0 (vN d) BP O (Aj (v:=(pP (pB pp) (pO pp+d*10))) O (AO (j:=d) O O hk2 underlying32 sizeOf78 O Z) ?_)))))))))))
 refine Aj (v:=(aG (AZ (ps.getD d (⟨0,0⟩:Pt))))) O (AI (vs:=AZ (ps.getD d (⟨0,0⟩:Pt))) (i:=7) O O (Aw.ne hk2 Z) BC (Ae Aq _ _ _ Z) (Aq _)) (Aj (v:=(pP b2 0)) O (AA O underlying34 O sizeOf32 O) (BK 4 (qz pp ps.length pk) DC O (Aj (v:=(pP b6 2)) O (AB (j:=2) O O underlying71 sizeOf3 O jY O) (BK 0 (vN c) BP O (Aj (v:=(pP (pB pp) (pO pp+c*10))) O (AO (j:=c) O O hk2 underlying32 sizeOf78 O Z) (Aj (v:=(aG (AZ (ps.getD c (⟨0,0⟩:Pt))))) O (AI (vs:=AZ (ps.getD c (⟨0,0⟩:Pt))) (i:=7) O O (Aw.ne hk2 Z) BC (Ae Aq _ _ _ Z) (Aq _)) (zN O (ck' call111 (G1 (ps.getD a (⟨0,0⟩:Pt)) (ps.getD d (⟨0,0⟩:Pt)) (ps.getD c (⟨0,0⟩:Pt)) Z) O (zG sr (Aj O (Bw (c:=(decide (((AF (ps.getD a (⟨0,0⟩:Pt)) (ps.getD d (⟨0,0⟩:Pt)) (ps.getD c (⟨0,0⟩:Pt))).num.sign)≠(1:Int)))) O O O) (zQ ?_)))))))))))
 refine zB (sL [2,3,4,6,5,27,28,29,8,52] O) (zA ?_)
 refine zL O (λhc1=>?_) (λhc1=>?_)
 ·replace hc1:=xU hc1
  have hB:=U4 (b:=b) hc1
  exact q4 (asg' O (oNl' (zA (zH (zS (zJ (zJ (zS (zJ (ret_one O (rd_tmp (v:=(qa false)) O) (λw hw=>⟨by rw [hB],(),trivial,by rw [KM hB];exact hw.weak (sl (sl (sl (sl (sl (sl sr))))))⟩)))))))))))
 ·replace hc1:=xT hc1
  have hT1:=Decidable.of_not_not hc1
  refine zC (zF (zA (zD (AC (AR (c:=(1:Int)) O O jY) O (AM O (oNl' (zB (sL [2,3,4,6,5,27,28,29,8] O) (zl (zZ (q4 (AC (Aa (c:=true) O O jY) O ?_)))))))))))
  refine oNl' (q1 (zV O (zC (q1 (zI (q4 (AC (v:=(pP b5 3)) (AH (j:=1) O O underlying28 sizeOf71 O Z O) O (Ds 1 (Ad (d,b,c)) Bm O (al Hk O λb7=>Ah O sizeOf71 O (q6 (sL [2,3,4,6,5,27,28,29,8] O) ?_))))))))))
  refine C_ (Ek 18++[(18,false),(19,true)]) sr (Aj (v:=(pP b2 0)) O (AA O underlying34 O sizeOf32 O) (BK 5 (qz pp ps.length pk) DC O (Aj (v:=(pP b7 0)) O (AB (j:=0) O O underlying71 sizeOf3 O jY O) (BK 0 (vN d) BP O (Aj (v:=(pP (pB pp) (pO pp+d*10))) O (AO (j:=d) O O hk2 underlying32 sizeOf78 O Z) (Aj (v:=(aG (AZ (ps.getD d (⟨0,0⟩:Pt))))) O (AI (vs:=AZ (ps.getD d (⟨0,0⟩:Pt))) (i:=8) O O (Aw.ne hk2 Z) BC (Ae Aq _ _ _ Z) (Aq _)) (Aj (v:=(pP b2 0)) O (AA O underlying34 O sizeOf32 O) (BK 5 (qz pp ps.length pk) DC O (Aj (v:=(pP b7 1)) O (AB (j:=1) O O underlying71 sizeOf3 O jY O) (BK 0 (vN b) BP O (Aj (v:=(pP (pB pp) (pO pp+b*10))) O (AO (j:=b) O O hk2 underlying32 sizeOf78 O Z) ?_)))))))))))
  refine Aj (v:=(aG (AZ (ps.getD b (⟨0,0⟩:Pt))))) O (AI (vs:=AZ (ps.getD b (⟨0,0⟩:Pt))) (i:=8) O O (Aw.ne hk2 Z) BC (Ae Aq _ _ _ Z) (Aq _)) (Aj (v:=(pP b2 0)) O (AA O underlying34 O sizeOf32 O) (BK 5 (qz pp ps.length pk) DC O (Aj (v:=(pP b7 2)) O (AB (j:=2) O O underlying71 sizeOf3 O jY O) (BK 0 (vN c) BP O (Aj (v:=(pP (pB pp) (pO pp+c*10))) O (AO (j:=c) O O hk2 underlying32 sizeOf78 O Z) (Aj (v:=(aG (AZ (ps.getD c (⟨0,0⟩:Pt))))) O (AI (vs:=AZ (ps.getD c (⟨0,0⟩:Pt))) (i:=8) O O (Aw.ne hk2 Z) BC (Ae Aq _ _ _ Z) (Aq _)) (zN O (ck' call111 (G1 (ps.getD d (⟨0,0⟩:Pt)) (ps.getD b (⟨0,0⟩:Pt)) (ps.getD c (⟨0,0⟩:Pt)) Z) O (zG sr (Aj O (Bw (c:=(decide (((AF (ps.getD d (⟨0,0⟩:Pt)) (ps.getD b (⟨0,0⟩:Pt)) (ps.getD c (⟨0,0⟩:Pt))).num.sign)≠(1:Int)))) O O O) (zQ ?_)))))))))))
  refine zB (sL [2,3,4,6,5,27,28,29,8,52] O) (zA ?_)
  refine zL O (λhc1=>?_) (λhc1=>?_)
  ·replace hc1:=xU hc1
   have hB:=U5 (a:=a) hc1
   exact q4 (asg' O (oNl' (zA (zH (zS (zJ (zJ (zS (zJ (ret_one O (rd_tmp (v:=(qa false)) O) (λw hw=>⟨by rw [hB],(),trivial,by rw [KM hB];exact hw.weak (sl (sl (sl (sl (sl (sl (sl sr)))))))⟩)))))))))))
  ·replace hc1:=xT hc1
   have hB:=Ih hT1 (Decidable.of_not_not hc1)
   refine zC (zF (zA (zD (AC (AR (c:=(2:Int)) O O jY) O (AM O (oNl' (zB (sL [2,3,4,6,5,27,28,29,8] O) (zl (zZ (q4 (AC (Aa (c:=false) O O jY) O ?_)))))))))))
   refine oNl' (q1 (zP O (zU (zO (zO (zR (q1 (C_ (Ek 13++[(13,false),(14,true),(15,false)]) (sk (sk (sk (sk (sk (sk (sk (sl sr)))))))) (Aj (v:=(pP b2 1)) O (AA O underlying34 O sizeOf28 O) (BK 5 (qz tp ts.length tk) CM O (Aj (v:=(pP b1 0)) O (AA O underlying127 O sizeOf54 O) ?_)))))))))))
   refine Aj (v:=(pP b1 2)) O (AA O underlying54 O sizeOf3 O) (BK 6 (vN p) BP O (Aj (v:=(pP b2 1)) O (AA O underlying34 O sizeOf28 O) (BK 5 (qz tp ts.length tk) CM O (Aj (v:=(pP b1 0)) O (AA O underlying127 O sizeOf54 O) (Aj (v:=(pP b1 3)) O (AA O underlying54 O sizeOf3 O) (BK 6 (vN q) BP O (Es 3 Bm O (Es 4 Bm O (Aj (v:=(pP (pB tp) (pO tp+p*3))) O (AO (j:=p) O O hk1 underlying28 sizeOf71 O Z) (zN O (ym 7 (enc:=Ad) (j:=p) (r:=0) (x':=(a,d,c)) (vs:=Ad (a,d,c)) jJ An ho1 (by first|rfl|omega|simp [*]) O O O (Aw.ne hk1 Z) Z O sizeOf71 O O ?_)))))))))))
   exact zG (sk (sk (sk (sk (sk (sk (sk (sl sr)))))))) (Aj (v:=(pP (pB tp) (pO tp+q*3))) O (AO (j:=q) O O hk1 underlying28 sizeOf71 O Z) (zN O (ym 7 (enc:=Ad) (j:=q) (r:=0) (x':=(d,b,c)) (vs:=Ad (d,b,c)) jJ An ho1 (by first|rfl|omega|simp [*]) O O O (Aw.ne hk1 Z) Z O sizeOf71 O O (zG (sk (sk (sk (sk (sk (sk (sk (sl sr)))))))) (zQ (zB (sL [2,3,4,6,5,27,28,29,8] O) (q2 (asg' O (oNl' (zA (zH (ret_one O (rd_tmp (v:=(qa true)) O) (λw hw=>⟨by rw [hB],(),trivial,by rw [O_ hB];unfold B8;exact hw.weak (sl (sl (sl (sl (sl (sl (sl sr)))))))⟩)))))))))))))
end
section
set_option maxRecDepth 100000
theorem Ua (p:Option Addr) (n cp:Nat) (h:n<=cp) (w:World)  :Calls prog 75 #[(qz p n cp)] w (Ag w (qz p n n)):=by
 refine AW (args:=[(qz p n cp)]) func75 O O (BE O) (zM (sL [0] O) (q4 (asg' O (oNl' (q2 (AM O (AM O (AC (v:=(vN n)) (AE O underlying32) O (AM O (AC (v:=(vN n)) (AE O underlying32) O (AC (v:=(qz p n n)) (EW (m:=n) O O O underlying32 sizeOf78 Z) O ?_)))))))))))
 exact asg' O (oNl' (zB (sL [2] O) (zA (zH (ret_one O (rd_tmp (v:=(qz p n n)) O) (λw hw=>⟨rfl,hw.out⟩))))))
theorem Ms (ts:List Pt) (x:RX (rowsL AZ ts) ts.length) (hl:ts.length<=1000000000) (w:World) {S:Nat->Prop} (hx:Ro S w x):Calls prog 76 #[(qz x.p ts.length x.c)] w (E9 aI (Yc (T:=78) (z:=10) (cs:=rowsL AZ ts) (n:=ts.length)) S w):=by
 have lx:=Db (W:=w) hx
 refine Ak (args:=[(qz x.p ts.length x.c)]) (L:=[AP x.p (rowsL AZ ts)]) func76 O O (BE O) (De hx A_) (zM (sL [0] O) (q4 (asg' O (zy 78 10 (oNl' (q1 (q4 (AM O (AC (v:=(qa x.p.isNone)) (H0 O O underlying32) O (oNl' (zB (sL [0,2,4] O) ?_)))))))))))
 refine zA ?_
 refine zL O (λhc0=>?_) (λhc0=>?_)
 ·have hts:ts=[]:=List.eq_nil_of_length_eq_zero (x.ok.nil (Option.isNone_iff_eq_none.1 hc0)).1
  exact q4 (asg' O (zy 78 10 (oNl' (zA (zH (zJ (ret_one O (rd_tmp (v:=jj) O) (λw hw=>(by subst hts;exact PV hw (OX.mk none 0 OwnOk.none) (by exact (sk (sl (sl sr)))) (IU.own O IU.nil) (by show qz none 0 0=_;rfl))))))))))
 ·exact zC (q2 (ze (V:=λb1=>(qz (jk b1) 0 0)) (T:=78) (cs:=[]) (AK O) (JN underlying32 sizeOf78) O (BE O) λb1=>yi (z:=10) 0 O Z λho_b1=>AM O (yf cQ O ho_b1 O (ah (k:=2) O x.ok) (Ac Aq _) (Ha Yi _) (Mb Z) Z O λp_1 c_1 ho_1=>asg' O (oNl' (zB (sL [0,2] O) (zA (zH (ret_one O (rd_tmp (v:=(qz p_1 ts.length c_1)) O) (λw hw=>(PV hw (OX.mk p_1 c_1 ho_1) (sk (sl (sl sr))) (IU.own O IU.nil) O))))))))))
theorem Ub (p:Option Addr) (n cp:Nat) (h:n<=cp) (w:World)  :Calls prog 77 #[(qz p n cp)] w (Ag w (qz p n n)):=by
 refine AW (args:=[(qz p n cp)]) func77 O O (BE O) (zM (sL [0] O) (q4 (asg' O (oNl' (q2 (AM O (AM O (AC (v:=(vN n)) (AE O underlying28) O (AM O (AC (v:=(vN n)) (AE O underlying28) O (AC (v:=(qz p n n)) (EW (m:=n) O O O underlying28 sizeOf71 Z) O ?_)))))))))))
 exact asg' O (oNl' (zB (sL [2] O) (zA (zH (ret_one O (rd_tmp (v:=(qz p n n)) O) (λw hw=>⟨rfl,hw.out⟩))))))
theorem Oy (p:Option Addr) (n cp:Nat) (h:n<=cp) (w:World)  :Calls prog 79 #[(qz p n cp)] w (Ag w (qz p n n)):=by
 refine AW (args:=[(qz p n cp)]) func79 O O (BE O) (zM (sL [0] O) (q4 (asg' O (oNl' (q2 (AM O (AM O (AC (v:=(vN n)) (AE O underlying29) O (AM O (AC (v:=(vN n)) (AE O underlying29) O (AC (v:=(qz p n n)) (EW (m:=n) O O O underlying29 sizeOf80 Z) O ?_)))))))))))
 exact asg' O (oNl' (zB (sL [2] O) (zA (zH (ret_one O (rd_tmp (v:=(qz p n n)) O) (λw hw=>⟨rfl,hw.out⟩))))))
end
section
set_option maxRecDepth 100000
end
end Go.Proofs.YtbfdamnfcmefmaaGreatDoor
