import Derived.Test.YtpolhpjiahbidaaGreatDoorPart20
namespace Go.Proofs.YtpolhpjiahbidaaGreatDoor
open Go Go.RowKit Go.Proofs.Tryz
open Go.Value renaming slice→qz,bool→qa
set_option linter.unusedVariables false
set_option linter.unusedSimpArgs false
section
set_option maxRecDepth 100000
theorem UX (T:T3) (a b:Nat) (h1:a+b<=T.1+T.2.1+T.2.2) (h2:T.1<1000000/\T.2.1<1000000/\T.2.2<1000000) (w:World)  :Calls prog 140 #[(aG (Ac T)),(vN a),(vN b)] w (Ad w (vN (IR T a b))):=by
 refine AY (args:=[(aG (Ac T)),(vN a),(vN b)]) func140 O O (BA O) (zM (sL [0,1,2] O) (q4 (BV (cs:=Ac T) O λb1=>asg' O (q3 (sL [1,2,3,6] O) (AD (v:=(pP b1 0)) (AB (j:=0) O O underlying105 sizeOf3 O jY O) O (BF 0 (vN T.1) Bm O (AD (v:=(pP b1 1)) (AB (j:=1) O O underlying105 sizeOf3 O jY O) O (BF 0 (vN T.2.1) Bm O (AD (AT (c:=((T.1+T.2.1:Nat):Int)) O O (AV (a:=T.1) (b:=T.2.1) Z)) O (AD (v:=(pP b1 2)) (AB (j:=2) O O underlying105 sizeOf3 O jY O) O ?_))))))))))
 exact BF 0 (vN T.2.2) Bm O (AD (AT (c:=(((T.1+T.2.1)+T.2.2:Nat):Int)) O O (AV (a:=T.1+T.2.1) (b:=T.2.2) Z)) O (AL O (AD (B3 (c:=((((T.1+T.2.1)+T.2.2)-a:Nat):Int)) O O (CZ (a:=(T.1+T.2.1)+T.2.2) (b:=a) Z Z)) O (AL O (AD (B3 (c:=(((((T.1+T.2.1)+T.2.2)-a)-b:Nat):Int)) O O (CZ (a:=((T.1+T.2.1)+T.2.2)-a) (b:=b) Z Z)) O (asg' O (oNl' (zB (sL [6] O) (zA (zF (ret_one O (rd_tmp (v:=(vN ((((T.1+T.2.1)+T.2.2)-a)-b))) O) (λw hw=>⟨rfl,hw.out⟩))))))))))))
theorem Zn {ps:List Pt} {ts:List T3} {ss:List Z3} (x:MN ps ts ss) (e:E4) (hno:¬(0<=e.l/\0<=e.r)) (w:World) {S:Nat->Prop} (hx:Ro S w x):Calls prog 80 #[(aG (CR x)),(aG (Bg e))] w (Ad w (Value.tuple #[(aG (Jg ⟨e,0,0⟩)),(qa false)])):=by
 have lx:=Da (W:=w) hx
 refine Ah (args:=[(aG (CR x)),(aG (Bg e))]) (L:=[AF x.a.p (rowsL AZ ps),AF x.b.p (rowsL Ac ts),AF x.c.p (rowsL BP ss)]) func80 O O (BA O) (Db hx A7) (zM (sL [0,1] O) (q4 (BV (cs:=CR x) O λb1=>BV (cs:=Bg e) O λb2=>al Lh O λb3=>asg' O (q3 (sL [2,3,4,5] O) (Al 1 Hg O (AD (v:=(pP b3 0)) (AA O underlying157 O sizeOf49 O) O (F8 0 (off:=0) (vs:=Bg e) (cs':=Bg e++[(vI 0),(vI 0)]) (AI O) O sizeOf49 O (q6 (sL [2,4,5] O) ?_))))))))
 refine q4 (AD (v:=(pP b3 0)) (AA O underlying157 O sizeOf49 O) O (AD (v:=(pP b3 2)) (AA O underlying49 O sizeOf3 O) O (BF 0 (vI e.l) Bm O (AD (Aa (c:=(decide (e.l<(0:Int)))) O O O) O (AL O ?_)))))
 refine ze (FM:=[(2,(pP b1 0)),(4,(pP b3 0)),(5,(qa false)),(8,(pP b3 0)),(9,(pP b3 2)),(10,(vI e.l)),(11,(qa (decide (e.l<(0:Int))))),(12,(qa (decide (e.l<(0:Int))))),(17,(qa ((decide (e.l<(0:Int)))||(decide (e.r<(0:Int))))))]) (LM:=[AX b3 157 (Bg e++[(vI 0),(vI 0)]),AX b2 49 (Bg e),AX b1 30 (CR x),AF x.a.p (rowsL AZ ps),AF x.b.p (rowsL Ac ts),AF x.c.p (rowsL BP ss)]) 5 ?_ ?_
 ·rcases xQ (decide (e.l<(0:Int))) with hg1|hg1
  ·refine zI (k:=12) (u:=qa true) O (by rw [hg1]) ?_
   have hg1':=xT hg1
   exact BO O (BO O (BO O (BO O (AD (v:=(qa true)) (AW O O) O (oNl' (zR Cc (xR _)))))))
  ·refine zI (k:=12) (u:=qa false) O (by rw [hg1]) ?_
   have hg1':=xS hg1
   exact BM (v:=(pP b3 0)) O (AA O underlying157 O sizeOf49 O) (BM (v:=(pP b3 3)) O (AA O underlying49 O sizeOf3 O) (BM (v:=(vI e.r)) O (AH (i:=0) (v:=(vI e.r)) O O Bm.a O) (BM (v:=(qa (decide (e.r<(0:Int))))) O (Aa (c:=(decide (e.r<(0:Int)))) O O O) (AD (v:=(qa (decide (e.r<(0:Int))))) (AQ O O) O (oNl' (zR Cc (xR _)))))))
 refine oNl' (zB (sL [2,4,5,17] O) (zA ?_))
 refine zL O (λhc0=>?_) (λhc0=>?_)
 ·simp only [jK] at hc0
  exact q4 (Al 0 G9 O (Ag O sizeOf157 O (asg' O (oNl' (zB (sL [2,4,5] O) (zA (zF (zK (Bu O (Ao (i:=0) (cs:=Bg e++[(vI 0),(vI 0)]) O O isAgg157 sizeOf157 O) (rd_tmp (v:=(qa false)) O) (λw hw=>⟨rfl,hw.out⟩))))))))))
 ·simp only [jK] at hc0
  exfalso;omega
theorem Zo {ps:List Pt} {ts:List T3} {ss:List Z3} (x:MN ps ts ss) (a b p q c d:Nat) (hnb:Be ps.length ts=true) (hpl:p<ts.length) (hql:q<ts.length) (h1:Yw ps.length (ts.getD p (0,0,0)) a b c) (h2:Yw ps.length (ts.getD q (0,0,0)) b a d) (hN:ps.length<=1000000) (w:World) {S:Nat->Prop} (hx:Ro S w x):Calls prog 80 #[(aG (CR x)),(aG ([(vN a),(vN b),(vN p),(vN q)]))] w (Ad w (Value.tuple #[(aG (Jg ⟨⟨a,b,(p:Int),(q:Int)⟩,c,d⟩)),(qa true)])):=by
 have lx:=Da (W:=w) hx
 refine Ah (args:=[(aG (CR x)),(aG ([(vN a),(vN b),(vN p),(vN q)]))]) (L:=[AF x.a.p (rowsL AZ ps),AF x.b.p (rowsL Ac ts),AF x.c.p (rowsL BP ss)]) func80 O O (BA O) (Db hx A7) (zM (sL [0,1] O) (q4 (BV (cs:=CR x) O λb1=>BV (cs:=[(vN a),(vN b),(vN p),(vN q)]) O λb2=>al Lh O λb3=>asg' O (q3 (sL [2,3,4,5] O) (Al 1 Hg O (AD (v:=(pP b3 0)) (AA O underlying157 O sizeOf49 O) O (F8 0 (off:=0) (vs:=[(vN a),(vN b),(vN p),(vN q)]) (cs':=[(vN a),(vN b),(vN p),(vN q),(vI 0),(vI 0)]) (AI O) O sizeOf49 O (q6 (sL [2,4,5] O) ?_))))))))
 refine q4 (AD (v:=(pP b3 0)) (AA O underlying157 O sizeOf49 O) O (AD (v:=(pP b3 2)) (AA O underlying49 O sizeOf3 O) O (BF 0 (vN p) Bm O (AD (Aa (c:=(decide (p<0))) O O (DB (a:=p) (b:=0))) O (AL O ?_)))))
 refine ze (FM:=[(2,(pP b1 0)),(4,(pP b3 0)),(5,(qa false)),(8,(pP b3 0)),(9,(pP b3 2)),(10,(vN p)),(11,(qa (decide (p<0)))),(12,(qa (decide (p<0)))),(17,(qa ((decide (p<0))||(decide (q<0)))))]) (LM:=[AX b3 157 ([(vN a),(vN b),(vN p),(vN q),(vI 0),(vI 0)]),AX b2 49 ([(vN a),(vN b),(vN p),(vN q)]),AX b1 30 (CR x),AF x.a.p (rowsL AZ ps),AF x.b.p (rowsL Ac ts),AF x.c.p (rowsL BP ss)]) 5 ?_ ?_
 ·rcases xQ (decide (p<0)) with hg1|hg1
  ·refine zI (k:=12) (u:=qa true) O (by rw [hg1]) ?_
   have hg1':=xT hg1
   exact BO O (BO O (BO O (BO O (AD (v:=(qa true)) (AW O O) O (oNl' (zR Cc (xR _)))))))
  ·refine zI (k:=12) (u:=qa false) O (by rw [hg1]) ?_
   have hg1':=xS hg1
   exact BM (v:=(pP b3 0)) O (AA O underlying157 O sizeOf49 O) (BM (v:=(pP b3 3)) O (AA O underlying49 O sizeOf3 O) (BM (v:=(vN q)) O (AH (i:=0) (v:=(vN q)) O O Bm.a O) (BM (v:=(qa (decide (q<0)))) O (Aa (c:=(decide (q<0))) O O (DB (a:=q) (b:=0))) (AD (v:=(qa (decide (q<0)))) (AQ O O) O (oNl' (zR Cc (xR _)))))))
 refine oNl' (zB (sL [2,4,5,17] O) (zA ?_))
 refine zL O (λhc0=>?_) (λhc0=>?_)
 ·simp only [jK] at hc0
  exfalso;omega
 ·simp only [jK] at hc0
  refine zC (q1 ?_)
  refine dA (sl sr) (dC (dC (dC (dC (dC (dC (dC (dC (dC (dC (dC (dC (dC (dC (dC (dC (dC (dC (dC (dC (dC (dC (dC (dC (dC (dC (dC (dC (dC (dN)))))))))))))))))))))))))))))) (λ_=>vC (PF (v:=(pP b1 1)) (G:=[(2,(pP b1 0))]) (λ_=>by kernel_rfl) (λ_=>AA O underlying30 O sizeOf23 O)) (vC (cG (G:=[(19,(pP b1 1))]) (λ_=>by kernel_rfl) (AH (i:=1) (v:=(qz x.b.p ts.length x.b.c)) O O C2.a O)) (vC (PF (v:=(pP b3 0)) (G:=[(4,(pP b3 0))]) (λ_=>by kernel_rfl) (λ_=>AA O underlying157 O sizeOf49 O)) (vC (PF (v:=(pP b3 2)) (G:=[(21,(pP b3 0))]) (λ_=>by kernel_rfl) (λ_=>AA O underlying49 O sizeOf3 O)) (vC (GB (v:=λβ=>(vN p)) (ks:=[]) (G:=λβ=>[(22,(pP b3 2))]) (λβ=>sF jV) (λβ=>AH (i:=0) (v:=(vN p)) O O Bm.a O)) (vC (PF (v:=(pP (pB x.b.p) (pO x.b.p+p*3))) (G:=[(20,(qz x.b.p ts.length x.b.c)),(23,(vN p))]) (λ_=>by kernel_rfl) (λ_=>AM (j:=p) O O x.b.ok underlying23 sizeOf105 O Z)) (vC (cG (G:=[(24,(pP (pB x.b.p) (pO x.b.p+p*3)))]) (λ_=>by kernel_rfl) (AO (vs:=Ac (ts.getD p ((0,0,0):Tq3))) (i:=3) O O (Ay.ne x.b.ok Z) C8 (Af Aq _ _ _ Z) (Aq _))) (vC (PF (v:=(pP b3 0)) (G:=[(4,(pP b3 0))]) (λ_=>by kernel_rfl) (λ_=>AA O underlying157 O sizeOf49 O)) (vC (PF (v:=(pP b3 0)) (G:=[(26,(pP b3 0))]) (λ_=>by kernel_rfl) (λ_=>AA O underlying49 O sizeOf3 O)) (vC (GB (v:=λβ=>(vN a)) (ks:=[]) (G:=λβ=>[(27,(pP b3 0))]) (λβ=>sF jV) (λβ=>AH (i:=0) (v:=(vN a)) O O Bm.a O)) (vC (PF (v:=(pP b3 0)) (G:=[(4,(pP b3 0))]) (λ_=>by kernel_rfl) (λ_=>AA O underlying157 O sizeOf49 O)) (vC (PF (v:=(pP b3 1)) (G:=[(29,(pP b3 0))]) (λ_=>by kernel_rfl) (λ_=>AA O underlying49 O sizeOf3 O)) (vC (GB (v:=λβ=>(vN b)) (ks:=[]) (G:=λβ=>[(30,(pP b3 1))]) (λβ=>sF jV) (λβ=>AH (i:=0) (v:=(vN b)) O O Bm.a O)) (vC (dZ (args:=[(aG (Ac (ts.getD p ((0,0,0):Tq3)))),(vN a),(vN b)]) (v:=(vN c)) [25,28,31] call140 (λw hw=>(by have h9:=UX (ts.getD p ((0,0,0):Tq3)) a b (by have:=h1.far.2.2;omega) (by have:=DQ (Cb hnb hpl);omega) w;rw [show IR (ts.getD p ((0,0,0):Tq3)) a b=c from h1.far.1] at h9;exact h9)) O O (λ_=>by kernel_rfl)) (vC (PF (v:=(pP b1 1)) (G:=[(2,(pP b1 0))]) (λ_=>by kernel_rfl) (λ_=>AA O underlying30 O sizeOf23 O)) (vC (cG (G:=[(33,(pP b1 1))]) (λ_=>by kernel_rfl) (AH (i:=1) (v:=(qz x.b.p ts.length x.b.c)) O O C2.a O)) (vC (PF (v:=(pP b3 0)) (G:=[(4,(pP b3 0))]) (λ_=>by kernel_rfl) (λ_=>AA O underlying157 O sizeOf49 O)) (vC (PF (v:=(pP b3 3)) (G:=[(35,(pP b3 0))]) (λ_=>by kernel_rfl) (λ_=>AA O underlying49 O sizeOf3 O)) (vC (GB (v:=λβ=>(vN q)) (ks:=[]) (G:=λβ=>[(36,(pP b3 3))]) (λβ=>sF jV) (λβ=>AH (i:=0) (v:=(vN q)) O O Bm.a O)) (vC (PF (v:=(pP (pB x.b.p) (pO x.b.p+q*3))) (G:=[(34,(qz x.b.p ts.length x.b.c)),(37,(vN q))]) (λ_=>by kernel_rfl) (λ_=>AM (j:=q) O O x.b.ok underlying23 sizeOf105 O Z)) (vC (cG (G:=[(38,(pP (pB x.b.p) (pO x.b.p+q*3)))]) (λ_=>by kernel_rfl) (AO (vs:=Ac (ts.getD q ((0,0,0):Tq3))) (i:=3) O O (Ay.ne x.b.ok Z) C8 (Af Aq _ _ _ Z) (Aq _))) (vC (PF (v:=(pP b3 0)) (G:=[(4,(pP b3 0))]) (λ_=>by kernel_rfl) (λ_=>AA O underlying157 O sizeOf49 O)) (vC (PF (v:=(pP b3 0)) (G:=[(40,(pP b3 0))]) (λ_=>by kernel_rfl) (λ_=>AA O underlying49 O sizeOf3 O)) (vC (GB (v:=λβ=>(vN a)) (ks:=[]) (G:=λβ=>[(41,(pP b3 0))]) (λβ=>sF jV) (λβ=>AH (i:=0) (v:=(vN a)) O O Bm.a O)) (vC (PF (v:=(pP b3 0)) (G:=[(4,(pP b3 0))]) (λ_=>by kernel_rfl) (λ_=>AA O underlying157 O sizeOf49 O)) (vC (PF (v:=(pP b3 1)) (G:=[(43,(pP b3 0))]) (λ_=>by kernel_rfl) (λ_=>AA O underlying49 O sizeOf3 O)) (vC (GB (v:=λβ=>(vN b)) (ks:=[]) (G:=λβ=>[(44,(pP b3 1))]) (λβ=>sF jV) (λβ=>AH (i:=0) (v:=(vN b)) O O Bm.a O)) (vC (dZ (args:=[(aG (Ac (ts.getD q ((0,0,0):Tq3)))),(vN a),(vN b)]) (v:=(vN d)) [39,42,45] call140 (λw hw=>(by have h9:=UX (ts.getD q ((0,0,0):Tq3)) a b (by have:=h2.far.2.2;omega) (by have:=DQ (Cb hnb hql);omega) w;rw [show IR (ts.getD q ((0,0,0):Tq3)) a b=d from h2.far.2.1] at h9;exact h9)) O O (λ_=>by kernel_rfl)) (vC (PF (v:=(pP b3 4)) (G:=[(4,(pP b3 0))]) (λ_=>by kernel_rfl) (λ_=>AA O underlying157 O sizeOf3 O)) (JU.nil)))))))))))))))))))))))))))))) jV jV (λ_ _ d _ _ h=>by cases d<;>exact h) (λβ _=>?_)
  exact d7 (F':=[(4,(pP b3 0)),(5,(qa false)),(32,(vN c)),(46,(vN d)),(47,(pP b3 4))]) O O (yo (i:=0) (off:=4) (vs:=[(vN c)]) (cs':=[(vN a),(vN b),(vN p),(vN q),(vN c),(vI 0)]) (L':=[AX b3 157 ([(vN a),(vN b),(vN p),(vN q),(vN c),(vI 0)]),AX b2 49 ([(vN a),(vN b),(vN p),(vN q)]),AX b1 30 (CR x),AF x.a.p (rowsL AZ ps),AF x.b.p (rowsL Ac ts),AF x.c.p (rowsL BP ss)]) (sl sr) (AI O) O O O O O sizeOf3 O O O O (Ea.step (v:=(pP b3 5)) (sl sr) (AI O) (AA O underlying157 O sizeOf3 O) O (BA O) (yo (i:=0) (off:=5) (vs:=[(vN d)]) (cs':=[(vN a),(vN b),(vN p),(vN q),(vN c),(vN d)]) (L':=[AX b3 157 ([(vN a),(vN b),(vN p),(vN q),(vN c),(vN d)]),AX b2 49 ([(vN a),(vN b),(vN p),(vN q)]),AX b1 30 (CR x),AF x.a.p (rowsL AZ ps),AF x.b.p (rowsL Ac ts),AF x.c.p (rowsL BP ss)]) (sl sr) (AI O) O O O O O sizeOf3 O O O O (q5 (sL [4,5] O) (Al 0 G9 O (Ag O sizeOf157 O (asg' O (oNl' (zB (sL [4,5] O) (zA (zF (Bu O (Ao (i:=0) (cs:=[(vN a),(vN b),(vN p),(vN q),(vN c),(vN d)]) O O isAgg157 sizeOf157 O) (rd_tmp (v:=(qa true)) O) (λw hw=>⟨rfl,hw.out⟩)))))))))))))
theorem Sd {ps:List Pt} {ts:List T3} {ss:List Z3} (x:MN ps ts ss) (a b p q c d:Nat) (ha:a<ps.length) (hb:b<ps.length) (hcl:c<ps.length) (hdl:d<ps.length) (hz:∀i,Bc (cor ps i)<=200000) (w:World) {S:Nat->Prop} (hx:Ro S w x):Calls prog 81 #[(aG ([(vN a),(vN b),(vN p),(vN q),(vN c),(vN d)])),(aG (CR x))] w (Ad w (qa (decide (Gt (cor ps a) (cor ps b) (cor ps c) (cor ps d)≠1)))):=by
 have za:Bc (ps.getD a (⟨0,0⟩:Pt))<=200000:=hz a
 have zb:Bc (ps.getD b (⟨0,0⟩:Pt))<=200000:=hz b
 have zc:Bc (ps.getD c (⟨0,0⟩:Pt))<=200000:=hz c
 have zd:Bc (ps.getD d (⟨0,0⟩:Pt))<=200000:=hz d
 have lx:=Da (W:=w) hx
 refine Ah (args:=[(aG ([(vN a),(vN b),(vN p),(vN q),(vN c),(vN d)])),(aG (CR x))]) (L:=[AF x.a.p (rowsL AZ ps),AF x.b.p (rowsL Ac ts),AF x.c.p (rowsL BP ss)]) func81 O O (BA O) (Db hx A7) (zM (sL [0,1] O) (q4 (BV (cs:=[(vN a),(vN b),(vN p),(vN q),(vN c),(vN d)]) O λb1=>BV (cs:=CR x) O λb2=>asg' O (q6 (sL [2,3,4] O) (DC (Er 26++[(26,false),(27,true),(28,true)]) sr (Am (v:=(pP b2 0)) O (AA O underlying30 O sizeOf28 O) (BU 0 (qz x.a.p ps.length x.a.c) C0 O (Am (v:=(pP b1 0)) O (AA O underlying157 O sizeOf49 O) (Am (v:=(pP b1 0)) O (AA O underlying49 O sizeOf3 O) ?_)))))))))
 refine BU 1 (vN a) Bm O (Am (v:=(pP (pB x.a.p) (pO x.a.p+a*10))) O (AM (j:=a) O O x.a.ok underlying28 sizeOf99 O Z) (Am (v:=(aG (AZ (ps.getD a (⟨0,0⟩:Pt))))) O (AO (vs:=AZ (ps.getD a (⟨0,0⟩:Pt))) (i:=2) O O (Ay.ne x.a.ok Z) A_ (Af An _ _ _ Z) (An _)) (Am (v:=(pP b2 0)) O (AA O underlying30 O sizeOf28 O) (BU 0 (qz x.a.p ps.length x.a.c) C0 O (Am (v:=(pP b1 0)) O (AA O underlying157 O sizeOf49 O) (Am (v:=(pP b1 1)) O (AA O underlying49 O sizeOf3 O) (BU 1 (vN b) Bm O (Am (v:=(pP (pB x.a.p) (pO x.a.p+b*10))) O (AM (j:=b) O O x.a.ok underlying28 sizeOf99 O Z) (Am (v:=(aG (AZ (ps.getD b (⟨0,0⟩:Pt))))) O (AO (vs:=AZ (ps.getD b (⟨0,0⟩:Pt))) (i:=2) O O (Ay.ne x.a.ok Z) A_ (Af An _ _ _ Z) (An _)) (Am (v:=(pP b2 0)) O (AA O underlying30 O sizeOf28 O) (BU 0 (qz x.a.p ps.length x.a.c) C0 O ?_)))))))))))
 refine Am (v:=(pP b1 4)) O (AA O underlying157 O sizeOf3 O) (BU 1 (vN c) Bm O (Am (v:=(pP (pB x.a.p) (pO x.a.p+c*10))) O (AM (j:=c) O O x.a.ok underlying28 sizeOf99 O Z) (Am (v:=(aG (AZ (ps.getD c (⟨0,0⟩:Pt))))) O (AO (vs:=AZ (ps.getD c (⟨0,0⟩:Pt))) (i:=2) O O (Ay.ne x.a.ok Z) A_ (Af An _ _ _ Z) (An _)) (Am (v:=(pP b2 0)) O (AA O underlying30 O sizeOf28 O) (BU 0 (qz x.a.p ps.length x.a.c) C0 O (Am (v:=(pP b1 5)) O (AA O underlying157 O sizeOf3 O) (BU 1 (vN d) Bm O (Am (v:=(pP (pB x.a.p) (pO x.a.p+d*10))) O (AM (j:=d) O O x.a.ok underlying28 sizeOf99 O Z) (Am (v:=(aG (AZ (ps.getD d (⟨0,0⟩:Pt))))) O (AO (vs:=AZ (ps.getD d (⟨0,0⟩:Pt))) (i:=2) O O (Ay.ne x.a.ok Z) A_ (Af An _ _ _ Z) (An _)) (zN O (ck' call141 (Rf (ps.getD a (⟨0,0⟩:Pt)) (ps.getD b (⟨0,0⟩:Pt)) (ps.getD c (⟨0,0⟩:Pt)) (ps.getD d (⟨0,0⟩:Pt)) Z) O ?_)))))))))))
 exact zD sr (Am O (CT (c:=(decide ((Gt (ps.getD a (⟨0,0⟩:Pt)) (ps.getD b (⟨0,0⟩:Pt)) (ps.getD c (⟨0,0⟩:Pt)) (ps.getD d (⟨0,0⟩:Pt)))≠(1:Int)))) O O O) (pS' O (zQ (zB (sL [4] O) (zA (zF (ret_one O (rd_tmp (v:=(qa (decide ((Gt (ps.getD a (⟨0,0⟩:Pt)) (ps.getD b (⟨0,0⟩:Pt)) (ps.getD c (⟨0,0⟩:Pt)) (ps.getD d (⟨0,0⟩:Pt)))≠(1:Int))))) O) (λw hw=>⟨rfl,hw.out⟩))))))))
theorem Kx  :Instr.fill ([(0,1),(1,1),(2,1),(3,1)].toArray[·]?) (Bg jA).toArray []=some (Bg jA).toArray:=by kernel_rfl
set_option maxHeartbeats 1000000 in
theorem IN {ps:List Pt} {ts:List T3} {ss:List Z3} (x:MN ps ts ss) (u v:Int) (hnb:Be ps.length ts=true) (htl:ts.length<=1000000) (hN:ps.length<=1000000) (w:World) {S:Nat->Prop} (hx:Ro S w x):Calls prog 79 #[(aG (CR x)),(vI u),(vI v)] w (Ad w (Value.tuple #[(aG (Bg (Dl ts u v))),(qa (decide (0<=Gp ts u v)))])):=by
 have lx:=Da (W:=w) hx
 refine Ah (args:=[(aG (CR x)),(vI u),(vI v)]) (L:=[AF x.a.p (rowsL AZ ps),AF x.b.p (rowsL Ac ts),AF x.c.p (rowsL BP ss)]) func79 O O (BA O) (Db hx A7) (zM (sL [0,1,2] O) (q4 (BV (cs:=CR x) O λb1=>al Io O λb2=>asg' O (q6 (sL [1,2,3,6,7] O) (q4 (Al 1 Bz O (cX (S:=S) (cs:=rowsL Bg (BR ts)) (k:=(BR ts).length) (args:=[(aG (CR x))]) call34 (λw hw=>(by obtain ⟨y2,hy2,hro⟩:=Y2 x;have h9:=Hr y2 Z Z hnb w (hro (Co hw 2 O lx));rw [hy2] at h9;exact h9)) O O O λo lo=>?_)))))))
 have hel:=Pk ts
 refine AD (v:=(vN ((BR ts).length))) (AE O underlying46) O (AL O (oNl' (zB (sL [1,2,6,7,11,12,13] O) (zA (zJ ?_)))))
 refine zw (tg λ(i:Nat)=>i<=(BR ts).length/\Gp ts u v=inG ((BR ts).drop i) (min u v) (max u v) i) (tg λ(i:Nat)=>[(1,(vI u)),(2,(vI v)),(6,(pP b2 0)),(11,(qz o.p ((BR ts).length) o.c)),(12,(vN ((BR ts).length))),(13,(vN i))]) (tg λ(i:Nat)=>[AF o.p (rowsL Bg (BR ts)),AX b2 49 (Bg jA),AX b1 30 (CR x),AF x.a.p (rowsL AZ ps),AF x.b.p (rowsL Ac ts),AF x.c.p (rowsL BP ss)]) (tg λ(i:Nat)=>(BR ts).length-i) 0 (⟨xJ _,rfl⟩) (sF O) sr (λi hJ=>?_)
 obtain ⟨hi,he⟩:=hJ
 refine q4 (AD (Aa (c:=(decide (i<((BR ts).length)))) O O (DB (a:=i) (b:=(BR ts).length))) O (oNl' (q1 ?_)))
 refine zL O (λhc0=>?_) (λhc0=>?_)
 ·replace hc0:=xT hc0
  refine zC (q1 (zJ (q4 (AD (v:=(pP (pB o.p) (pO o.p+i*4))) (AM (j:=i) O O o.ok underlying46 sizeOf49 O Z) O (AD (v:=(aG (Bg ((BR ts).getD i jA)))) (AO (vs:=Bg ((BR ts).getD i jA)) (i:=0) O O (Ay.ne o.ok Z) Hg (Af DD _ _ _ Z) (DD _)) O (al Io O λb3=>Ag O sizeOf49 O (q3 (sL [1,2,6,11,12,13,9] O) (AD (v:=(pP b3 0)) (AA O underlying49 O sizeOf3 O) O (BF 0 (vN (((BR ts).getD i jA).a)) Bm O (AL O ?_))))))))))
  refine AL O (AD (Gx (c:=(min u v)) O O (by split<;>omega)) O (AD (BL (c:=(decide (((((BR ts).getD i jA).a:Nat):Int)=(min u v)))) O O O) O (AL O ?_)))
  refine ze (FM:=[(1,(vI u)),(2,(vI v)),(6,(pP b2 0)),(11,(qz o.p ((BR ts).length) o.c)),(12,(vN ((BR ts).length))),(13,(vN i)),(9,(pP b3 0)),(17,(pP b3 0)),(18,(vN (((BR ts).getD i jA).a))),(19,(vI u)),(20,(vI v)),(21,(vI (min u v))),(22,(qa (decide (((((BR ts).getD i jA).a:Nat):Int)=(min u v))))),(23,(qa (decide (((((BR ts).getD i jA).a:Nat):Int)=(min u v))))),(30,(qa ((decide (((((BR ts).getD i jA).a:Nat):Int)=(min u v)))&&(decide (((((BR ts).getD i jA).b:Nat):Int)=(max u v))))))]) (LM:=[AX b3 49 (Bg ((BR ts).getD i jA)),AF o.p (rowsL Bg (BR ts)),AX b2 49 (Bg jA),AX b1 30 (CR x),AF x.a.p (rowsL AZ ps),AF x.b.p (rowsL Ac ts),AF x.c.p (rowsL BP ss)]) 7 ?_ ?_
  ·rcases xQ (decide (((((BR ts).getD i jA).a:Nat):Int)=(min u v))) with hg1|hg1
   ·refine zI (k:=23) (u:=qa true) O (by rw [hg1]) ?_
    have hg1':=xT hg1
    exact BM (v:=(pP b3 1)) O (AA O underlying49 O sizeOf3 O) (BM (v:=(vN (((BR ts).getD i jA).b))) O (AH (i:=0) (v:=(vN (((BR ts).getD i jA).b))) O O Bm.a O) (Hk O (Hk O (BM (v:=(vI (max u v))) O (GJ (c:=(max u v)) O O (by split<;>omega)) (BM (v:=(qa (decide (((((BR ts).getD i jA).b:Nat):Int)=(max u v))))) O (BL (c:=(decide (((((BR ts).getD i jA).b:Nat):Int)=(max u v)))) O O O) (AD (v:=(qa (decide (((((BR ts).getD i jA).b:Nat):Int)=(max u v))))) (AW O O) O (oNl' (zR Cc (xR _)))))))))
   ·refine zI (k:=23) (u:=qa false) O (by rw [hg1]) ?_
    have hg1':=xS hg1
    exact BO O (BO O (BO O (BO O (BO O (BO O (AD (v:=(qa false)) (AQ O O) O (oNl' (zR Cc (xR _)))))))))
  refine oNl' (zB (sL [1,2,6,11,12,13,9,30] O) (zA ?_))
  refine zL O (λhc1=>?_) (λhc1=>?_)
  ·simp only [jK] at hc1
   have hye:(((BR ts).getD i jA).a:Int)=min u v/\(((BR ts).getD i jA).b:Int)=max u v:=by grind
   have hfin:=he.trans (Xm Z hye)
   refine q4 (Al 0 Hg O (My O sizeOf49 O (asg' O (oNl' (zB (sL [1,2,6,11,12,13,9,7] O) (zA (zF (zS (zK (z6 (zS ?_)))))))))))
   exact zK (Bu O (Ao (i:=2) (cs:=Bg ((BR ts).getD i jA)) O O isAgg49 sizeOf49 O) (rd_tmp (v:=(qa true)) O) (λw hw=>⟨by rw [(Ko hfin).1,(Ko hfin).2];try rfl,hw.out⟩))
  ·simp only [jK] at hc1
   have hno:¬((((BR ts).getD i jA).a:Int)=min u v/\(((BR ts).getD i jA).b:Int)=max u v):=by grind
   exact zC (zG (zA (zH (AD (AT (c:=((i+1:Nat):Int)) O O (AV (a:=i) (b:=1) Z)) O (AL O (oNl' (zB (sL [1,2,6,11,12,13,9] O) (zl (i+1) (⟨Z,he.trans (Up Z hno)⟩) Z (sF O) (sl sr)))))))))
 ·replace hc0:=xS hc0
  have hfin:=he.trans (Xl hc0)
  exact zU (zO (zW (zP (q2 (AD (v:=(aG (Bg jA))) (AP (zs:=Bg jA) (vs:=Bg jA) (pv:=[]) (places:=[(0,1),(1,1),(2,1),(3,1)]) zeroValue49 underlying49 (λw=>by simp [sizeOf3]) O (Kx )) O (Cd O sizeOf49 O (asg' O (oNl' (zB (sL [1,2,6,11,12,13,7] O) (zA (zF (Bu O (Ao (i:=1) (cs:=Bg jA) O O isAgg49 sizeOf49 O) (rd_tmp (v:=(qa false)) O) (λw hw=>⟨by rw [(UL hfin).1,(UL hfin).2];try rfl,hw.out⟩)))))))))))))
theorem LU {ps:List Pt} {ts:List T3} {ss:List Z3} (x:MN ps ts ss) (e:E4) (he:e∈BR ts) (hnb:Be ps.length ts=true) (hN:ps.length<=1000000) (w:World) {S:Nat->Prop} (hx:Ro S w x):Calls prog 80 #[(aG (CR x)),(aG (Bg e))] w (Ad w (.tuple #[(aG (Jg (CF ts e))),(qa (Ci e))])):=by
 by_cases h:0<=e.l/\0<=e.r
 ·obtain ⟨p,q,c,d,h2⟩:=IA hnb Z he h.1 h.2
  rw [(Cz h2).1,(Cz h2).2,h2.mk4]
  exact Zo x e.a e.b p q c d hnb h2.pl h2.ql h2.sc h2.sd hN w hx
 ·rw [(Ou (ts:=ts) h).1,(Ou (ts:=ts) h).2]
  exact Zn x e h w hx
theorem Ol {ps:List Pt} {ts:List T3} {ss:List Z3} (x:MN ps ts ss) (e:E4) (he:e∈BR ts) (hb:Ci e=true) (hnb:Be ps.length ts=true) (hN:ps.length<=1000000) (hz:∀i,Bc (cor ps i)<=200000) (w:World) {S:Nat->Prop} (hx:Ro S w x):Calls prog 81 #[(aG (Jg (CF ts e))),(aG (CR x))] w (Ad w (qa (FK ps ts e))):=by
 obtain ⟨h3,h4⟩:=E2.1 hb
 obtain ⟨p,q,c,d,h2⟩:=IA hnb Z he h3 h4
 rw [(Cz h2).1,G1 h2]
 have e9:=h2.mk4
 have k:=Sd x e.a e.b p q c d h2.sc.a h2.sc.b h2.sc.c h2.sd.c hz w hx
 rw [e9]
 exact k
set_option maxHeartbeats 1000000 in
theorem TV {ps:List Pt} {ts:List T3} {ss:List Z3} (x:MN ps ts ss) (u v:Int) (hnb:Be ps.length ts=true) (htl:ts.length<=1000000) (hN:ps.length<=1000000) (hz:∀i,Bc (cor ps i)<=200000) (w:World) {S:Nat->Prop} (hx:Ro S w x):Calls prog 26 #[(aG (CR x)),(vI u),(vI v)] w (Ad w (Value.tuple #[(qa (Mn ps ts u v)),(vN (Wl ts u v))])):=by
 have lx:=Da (W:=w) hx
 refine Ah (args:=[(aG (CR x)),(vI u),(vI v)]) (L:=[AF x.a.p (rowsL AZ ps),AF x.b.p (rowsL Ac ts),AF x.c.p (rowsL BP ss)]) func26 O O (BA O) (Db hx A7) (zM (sL [0,1,2] O) (q4 (BV (cs:=CR x) O λb1=>asg' O (asg' O (q3 (sL [1,2,3,6,7] O) (Al 0 Bz O (AL O (AL O (DH call79 (λw hw=>IN x u v hnb htl hN w (Co hw 1 O lx)) O (AL O ?_))))))))))
 refine AD (AK (v:=(aG (Bg (Dl ts u v)))) O O) O (AD (AK (v:=(qa (decide (0<=Gp ts u v)))) O O) O (al Io O λb2=>Ag O sizeOf49 O (asg' O (q6 (sL [3,6,7,8,9] O) (q4 (AL O (AD (BK (c:=(!(decide (0<=Gp ts u v)))) O O) O (oNl' (zB (sL [3,6,7,8,20] O) (zA ?_))))))))))
 refine zL O (λhc0=>?_) (λhc0=>?_)
 ·simp only [jK] at hc0
  exact q4 (asg' O (asg' O (oNl' (zA (zF (zK (Bu O (rd_tmp (v:=(qa false)) O) (rd_tmp (v:=(vI 1)) O) (λw hw=>⟨by rw [(RB (ps:=ps) Z).1,(RB (ps:=ps) Z).2];try rfl,hw.out⟩))))))))
 ·simp only [jK] at hc0
  refine zC (q2 (Al 1 Bz O (Al 0 Hg O (DH call80 (λw hw=>LU x (Dl ts u v) (HK hc0) hnb hN w (Co hw 2 O lx)) O (AL O (AD (AK (v:=(aG (Jg (CF ts (Dl ts u v))))) O O) O (AD (AK (v:=(qa (Ci (Dl ts u v)))) O O) O (al Lh O λb3=>Ag O sizeOf157 O (asg' O (q3 (sL [3,6,7,8,10,11] O) ?_))))))))))
  refine AL O (AD (BK (c:=(!(Ci (Dl ts u v)))) O O) O (AL O ?_))
  refine ze (FM:=[(3,(pP b1 0)),(6,(qa false)),(7,(vI 0)),(8,(pP b2 0)),(10,(pP b3 0)),(11,(qa (Ci (Dl ts u v)))),(27,(qa (Ci (Dl ts u v)))),(28,(qa (!(Ci (Dl ts u v))))),(29,(qa (!(Ci (Dl ts u v))))),(33,(qa ((!(Ci (Dl ts u v)))||(FK ps ts (Dl ts u v)))))]) (LM:=[AX b3 157 (Jg (CF ts (Dl ts u v))),AX b2 49 (Bg (Dl ts u v)),AX b1 30 (CR x),AF x.a.p (rowsL AZ ps),AF x.b.p (rowsL Ac ts),AF x.c.p (rowsL BP ss)]) 4 ?_ ?_
  ·rcases xQ (!(Ci (Dl ts u v))) with hg1|hg1
   ·refine zI (k:=29) (u:=qa true) O (by rw [hg1]) ?_
    have hg1':=hg1
    simp only [jK] at hg1'
    exact BO O (BO O (BO O (AD (v:=(qa true)) (AW O O) O (oNl' (zR Cc (xR _))))))
   ·refine zI (k:=29) (u:=qa false) O (by rw [hg1]) ?_
    have hg1':=hg1
    simp only [jK] at hg1'
    exact BM (v:=(aG (Jg (CF ts (Dl ts u v))))) O (Aj (i:=0) (vs:=Jg (CF ts (Dl ts u v))) O O G9.a G9.s O O) (BM (v:=(aG (CR x))) O (Aj (i:=2) (vs:=CR x) O O Bz.a Bz.s O O) (zh (v:=(qa (FK ps ts (Dl ts u v)))) (Ab O) (Ar (args:=[(aG (Jg (CF ts (Dl ts u v)))),(aG (CR x))]) O O call81) (λw hw=>Ol x (Dl ts u v) (HK hc0) (by simpa using hg1') hnb hN hz w (Co hw 3 O lx)) O (BA O) (AD (v:=(qa (FK ps ts (Dl ts u v)))) (AQ O O) O (oNl' (zR Cc (xR _))))))
  exact asg' O (asg' O (oNl' (zB (sL [3,6,7,8,10] O) (zA (zF (Bu O (rd_tmp (v:=(qa ((!(Ci (Dl ts u v)))||(FK ps ts (Dl ts u v))))) O) (rd_tmp (v:=(vI 0)) O) (λw hw=>⟨by rw [Q_,(Nj (ps:=ps) hc0).1,(Nj (ps:=ps) hc0).2];try rfl,hw.out⟩)))))))
end
section
set_option maxRecDepth 100000
theorem Gh (x0 x1 x2:Nat):Instr.fill (λi=>some (i*1,1)) (Ac jJ).toArray [(0,vN x0),(1,vN x1),(2,vN x2)]=some (Ac (x0,x1,x2)).toArray:=by kernel_rfl
theorem J2 (x0 x1:Tq3):Instr.fill (λi=>some (i*3,3)) ((Array.range (2*3)).map ((Value.agg (Ac jJ).toArray).cells[·%(Value.agg (Ac jJ).toArray).cells.size]!)) [(0,.agg (Ac x0).toArray),(1,.agg (Ac x1).toArray)]=some (Ac x0++Ac x1).toArray:=by kernel_rfl
set_option maxHeartbeats 2000000 in
theorem NT (ps:List Pt) (ts:List T3) (a b p q c d:Nat) (ha:a<ps.length) (hb:b<ps.length) (hcl:c<ps.length) (hdl:d<ps.length) (hpl:p<ts.length) (hql:q<ts.length) (hN:ps.length<=1000000) (htl:ts.length<=1000000) (hz:∀i,Bc (cor ps i)<=200000) (pp tp sp:Option Addr) (pk tc tk sn sc:Nat) (ho1:OwnOk tp ts.length tc) (hk1:Ay tp ts.length tk) (hk2:Ay pp ps.length pk) (w:World) {w0:BC} {LR:List As} (hW:BD w0 w (rowW tp 105 3 ts.length tc (rowsL Ac ts)::AF pp (rowsL AZ ps)::LR)):Calls prog 84 #[(aG ([(vN a),(vN b),(vN p),(vN q),(vN c),(vN d)])),(aG ([(qz pp ps.length pk),(qz tp ts.length tk),(qz sp sn sc)]))] w (λe w'=>e=.returned (qa (GK ps a b c d))/\∃u:Unit,True/\BD w0 w' (rowW tp 105 3 ts.length tc (rowsL Ac (MA ps ts a b p q c d))::AF pp (rowsL AZ ps)::LR)):=by
 have za:Bc (ps.getD a (⟨0,0⟩:Pt))<=200000:=hz a
 have zb:Bc (ps.getD b (⟨0,0⟩:Pt))<=200000:=hz b
 have zc:Bc (ps.getD c (⟨0,0⟩:Pt))<=200000:=hz c
 have zd:Bc (ps.getD d (⟨0,0⟩:Pt))<=200000:=hz d
 refine MR (args:=[(aG ([(vN a),(vN b),(vN p),(vN q),(vN c),(vN d)])),(aG ([(qz pp ps.length pk),(qz tp ts.length tk),(qz sp sn sc)]))]) func84 O O (BA O) hW (zM (sL [0,1] O) (q4 (BV (cs:=[(vN a),(vN b),(vN p),(vN q),(vN c),(vN d)]) O λb1=>BV (cs:=[(qz pp ps.length pk),(qz tp ts.length tk),(qz sp sn sc)]) O λb2=>asg' O (q6 (sL [2,3,4] O) (rN [(0,true),(1,true),(2,true),(3,true),(4,true),(5,true),(6,true),(7,true),(8,true),(9,true),(10,true),(11,true),(12,true),(13,true),(14,true),(15,true)] [⟨16,5,105,Ac jJ⟩,⟨17,6,105,Ac jJ⟩] [(18,false),(19,false)] sr jV (λ_ _ d _ _ h=>by cases d<;>exact h) (FN O O HA O (FN O O HA O (Hf))) O (GA (v:=(pP b1 0)) O (AA O underlying157 O sizeOf49 O) O (GA (v:=(pP b1 0)) O (AA O underlying49 O sizeOf3 O) O (S3 1 (vN a) Bm O (GA (v:=(pP b1 5)) O (AA O underlying157 O sizeOf3 O) O ?_)))))))))
 refine S3 1 (vN d) Bm O (GA (v:=(pP b1 4)) O (AA O underlying157 O sizeOf3 O) O (S3 1 (vN c) Bm O (GA (v:=(aG (Ac (a,d,c)))) O (Ap (zs:=Ac jJ) (vs:=Ac (a,d,c)) (pv:=[(0,(vN a)),(1,(vN d)),(2,(vN c))]) zeroValue105 underlying105 sizeOf3 O (Gh a d c)) O (GA (v:=(pP b1 5)) O (AA O underlying157 O sizeOf3 O) O (S3 1 (vN d) Bm O (GA (v:=(pP b1 0)) O (AA O underlying157 O sizeOf49 O) O (GA (v:=(pP b1 1)) O (AA O underlying49 O sizeOf3 O) O (S3 1 (vN b) Bm O (GA (v:=(pP b1 4)) O (AA O underlying157 O sizeOf3 O) O (S3 1 (vN c) Bm O (GA (v:=(aG (Ac (d,b,c)))) O (Ap (zs:=Ac jJ) (vs:=Ac (d,b,c)) (pv:=[(0,(vN d)),(1,(vN b)),(2,(vN c))]) zeroValue105 underlying105 sizeOf3 O (Gh d b c)) O ?_)))))))))))
 refine yY λb3 b4=>zN O (Ag O sizeOf105 O (zD (sl (sl sr)) (zN O (Cd O sizeOf105 O (zD (sl (sl sr)) (zQ (zB (sL [2,3,4,6,5] O) (q1 (q4 (Al 0 C8 O ?_))))))))))
 refine Al 1 C8 O (zZ (V:=λb5=>(qz (jk b5) 2 2)) (T:=105) (cs:=Ac (a,d,c)++Ac (d,b,c)) (AI O) (Az (z:=.agg (Ac jJ).toArray) (cs:=Ac (a,d,c)++Ac (d,b,c)) (pv:=[(0,(aG (Ac (a,d,c)))),(1,(aG (Ac (d,b,c))))]) underlying23 sizeOf105 zeroValue105 jY jY O (J2 (a,d,c) (d,b,c))) O (BA O) λb5=>AD (v:=(vI 2)) (AE O underlying23) O (AL O (oNl' (zB (sL [2,3,4,6,5,27,28,29] O) (zA (zJ (yC 3 (zf (q4 (AD (Aa (c:=true) O O jY) O ?_))))))))))
 refine oNl' (q1 (zV O (zC (q1 (zJ (q4 (AD (v:=(pP b5 0)) (AG (j:=0) O O underlying23 sizeOf105 O Z O) O (Dy 0 (Ac (a,d,c)) C8 O (al HA O λb6=>Ag O sizeOf105 O (q6 (sL [2,3,4,6,5,27,28,29,8] O) ?_))))))))))
 refine DC (Er 18++[(18,false),(19,true)]) sr (Am (v:=(pP b2 0)) O (AA O underlying30 O sizeOf28 O) (BU 4 (qz pp ps.length pk) C0 O (Am (v:=(pP b6 0)) O (AB (j:=0) O O underlying105 sizeOf3 O jY O) (BU 0 (vN a) Bm O (Am (v:=(pP (pB pp) (pO pp+a*10))) O (AM (j:=a) O O hk2 underlying28 sizeOf99 O Z) (Am (v:=(aG (AZ (ps.getD a (⟨0,0⟩:Pt))))) O (AO (vs:=AZ (ps.getD a (⟨0,0⟩:Pt))) (i:=7) O O (Ay.ne hk2 Z) A_ (Af An _ _ _ Z) (An _)) (Am (v:=(pP b2 0)) O (AA O underlying30 O sizeOf28 O) (BU 4 (qz pp ps.length pk) C0 O (Am (v:=(pP b6 1)) O (AB (j:=1) O O underlying105 sizeOf3 O jY O) (BU 0 (vN d) Bm O (Am (v:=(pP (pB pp) (pO pp+d*10))) O (AM (j:=d) O O hk2 underlying28 sizeOf99 O Z) ?_)))))))))))
 refine Am (v:=(aG (AZ (ps.getD d (⟨0,0⟩:Pt))))) O (AO (vs:=AZ (ps.getD d (⟨0,0⟩:Pt))) (i:=7) O O (Ay.ne hk2 Z) A_ (Af An _ _ _ Z) (An _)) (Am (v:=(pP b2 0)) O (AA O underlying30 O sizeOf28 O) (BU 4 (qz pp ps.length pk) C0 O (Am (v:=(pP b6 2)) O (AB (j:=2) O O underlying105 sizeOf3 O jY O) (BU 0 (vN c) Bm O (Am (v:=(pP (pB pp) (pO pp+c*10))) O (AM (j:=c) O O hk2 underlying28 sizeOf99 O Z) (Am (v:=(aG (AZ (ps.getD c (⟨0,0⟩:Pt))))) O (AO (vs:=AZ (ps.getD c (⟨0,0⟩:Pt))) (i:=7) O O (Ay.ne hk2 Z) A_ (Af An _ _ _ Z) (An _)) (zN O (ck' call143 (G2 (ps.getD a (⟨0,0⟩:Pt)) (ps.getD d (⟨0,0⟩:Pt)) (ps.getD c (⟨0,0⟩:Pt)) Z) O (zD sr (Am O (CT (c:=(decide (((AN (ps.getD a (⟨0,0⟩:Pt)) (ps.getD d (⟨0,0⟩:Pt)) (ps.getD c (⟨0,0⟩:Pt))).num.sign)≠(1:Int)))) O O O) (zQ ?_)))))))))))
 refine zB (sL [2,3,4,6,5,27,28,29,8,52] O) (zA ?_)
 refine zL O (λhc1=>?_) (λhc1=>?_)
 ·replace hc1:=xT hc1
  have hB:=Ua (b:=b) hc1
  exact q4 (asg' O (oNl' (zA (zF (zS (zK (zK (zS (zK (ret_one O (rd_tmp (v:=(qa false)) O) (λw hw=>⟨by rw [hB],(),trivial,by rw [KD hB];exact hw.weak (sl (sl (sl (sl (sl (sl sr))))))⟩)))))))))))
 ·replace hc1:=xS hc1
  have hT1:=Decidable.of_not_not hc1
  refine zC (zG (zA (zH (AD (AT (c:=(1:Int)) O O jY) O (AL O (oNl' (zB (sL [2,3,4,6,5,27,28,29,8] O) (zk (zf (q4 (AD (Aa (c:=true) O O jY) O ?_)))))))))))
  refine oNl' (q1 (zV O (zC (q1 (zJ (q4 (AD (v:=(pP b5 3)) (AG (j:=1) O O underlying23 sizeOf105 O Z O) O (Dy 1 (Ac (d,b,c)) C8 O (al HA O λb7=>Ag O sizeOf105 O (q6 (sL [2,3,4,6,5,27,28,29,8] O) ?_))))))))))
  refine DC (Er 18++[(18,false),(19,true)]) sr (Am (v:=(pP b2 0)) O (AA O underlying30 O sizeOf28 O) (BU 5 (qz pp ps.length pk) C0 O (Am (v:=(pP b7 0)) O (AB (j:=0) O O underlying105 sizeOf3 O jY O) (BU 0 (vN d) Bm O (Am (v:=(pP (pB pp) (pO pp+d*10))) O (AM (j:=d) O O hk2 underlying28 sizeOf99 O Z) (Am (v:=(aG (AZ (ps.getD d (⟨0,0⟩:Pt))))) O (AO (vs:=AZ (ps.getD d (⟨0,0⟩:Pt))) (i:=8) O O (Ay.ne hk2 Z) A_ (Af An _ _ _ Z) (An _)) (Am (v:=(pP b2 0)) O (AA O underlying30 O sizeOf28 O) (BU 5 (qz pp ps.length pk) C0 O (Am (v:=(pP b7 1)) O (AB (j:=1) O O underlying105 sizeOf3 O jY O) (BU 0 (vN b) Bm O (Am (v:=(pP (pB pp) (pO pp+b*10))) O (AM (j:=b) O O hk2 underlying28 sizeOf99 O Z) ?_)))))))))))
  refine Am (v:=(aG (AZ (ps.getD b (⟨0,0⟩:Pt))))) O (AO (vs:=AZ (ps.getD b (⟨0,0⟩:Pt))) (i:=8) O O (Ay.ne hk2 Z) A_ (Af An _ _ _ Z) (An _)) (Am (v:=(pP b2 0)) O (AA O underlying30 O sizeOf28 O) (BU 5 (qz pp ps.length pk) C0 O (Am (v:=(pP b7 2)) O (AB (j:=2) O O underlying105 sizeOf3 O jY O) (BU 0 (vN c) Bm O (Am (v:=(pP (pB pp) (pO pp+c*10))) O (AM (j:=c) O O hk2 underlying28 sizeOf99 O Z) (Am (v:=(aG (AZ (ps.getD c (⟨0,0⟩:Pt))))) O (AO (vs:=AZ (ps.getD c (⟨0,0⟩:Pt))) (i:=8) O O (Ay.ne hk2 Z) A_ (Af An _ _ _ Z) (An _)) (zN O (ck' call143 (G2 (ps.getD d (⟨0,0⟩:Pt)) (ps.getD b (⟨0,0⟩:Pt)) (ps.getD c (⟨0,0⟩:Pt)) Z) O (zD sr (Am O (CT (c:=(decide (((AN (ps.getD d (⟨0,0⟩:Pt)) (ps.getD b (⟨0,0⟩:Pt)) (ps.getD c (⟨0,0⟩:Pt))).num.sign)≠(1:Int)))) O O O) (zQ ?_)))))))))))
  refine zB (sL [2,3,4,6,5,27,28,29,8,52] O) (zA ?_)
  refine zL O (λhc1=>?_) (λhc1=>?_)
  ·replace hc1:=xT hc1
   have hB:=Ub (a:=a) hc1
   exact q4 (asg' O (oNl' (zA (zF (zS (zK (zK (zS (zK (ret_one O (rd_tmp (v:=(qa false)) O) (λw hw=>⟨by rw [hB],(),trivial,by rw [KD hB];exact hw.weak (sl (sl (sl (sl (sl (sl (sl sr)))))))⟩)))))))))))
  ·replace hc1:=xS hc1
   have hB:=Uc hT1 (Decidable.of_not_not hc1)
   refine zC (zG (zA (zH (AD (AT (c:=(2:Int)) O O jY) O (AL O (oNl' (zB (sL [2,3,4,6,5,27,28,29,8] O) (zk (zf (q4 (AD (Aa (c:=false) O O jY) O ?_)))))))))))
   refine oNl' (q1 (zT O (zU (zO (zO (zP (q1 (DC (Er 13++[(13,false),(14,true),(15,false)]) (sk (sk (sk (sk (sk (sk (sk (sl sr)))))))) (Am (v:=(pP b2 1)) O (AA O underlying30 O sizeOf23 O) (BU 5 (qz tp ts.length tk) C2 O (Am (v:=(pP b1 0)) O (AA O underlying157 O sizeOf49 O) ?_)))))))))))
   refine Am (v:=(pP b1 2)) O (AA O underlying49 O sizeOf3 O) (BU 6 (vN p) Bm O (Am (v:=(pP b2 1)) O (AA O underlying30 O sizeOf23 O) (BU 5 (qz tp ts.length tk) C2 O (Am (v:=(pP b1 0)) O (AA O underlying157 O sizeOf49 O) (Am (v:=(pP b1 3)) O (AA O underlying49 O sizeOf3 O) (BU 6 (vN q) Bm O (Ew 3 C8 O (Ew 4 C8 O (Am (v:=(pP (pB tp) (pO tp+p*3))) O (AM (j:=p) O O hk1 underlying23 sizeOf105 O Z) (zN O (yL 7 (enc:=Ac) (j:=p) (r:=0) (x':=(a,d,c)) (vs:=Ac (a,d,c)) jJ Aq ho1 (by first|rfl|omega|simp [*]) O O O (Ay.ne hk1 Z) Z O sizeOf105 O O ?_)))))))))))
   exact zD (sk (sk (sk (sk (sk (sk (sk (sl sr)))))))) (Am (v:=(pP (pB tp) (pO tp+q*3))) O (AM (j:=q) O O hk1 underlying23 sizeOf105 O Z) (zN O (yL 7 (enc:=Ac) (j:=q) (r:=0) (x':=(d,b,c)) (vs:=Ac (d,b,c)) jJ Aq ho1 (by first|rfl|omega|simp [*]) O O O (Ay.ne hk1 Z) Z O sizeOf105 O O (zD (sk (sk (sk (sk (sk (sk (sk (sl sr)))))))) (zQ (zB (sL [2,3,4,6,5,27,28,29,8] O) (q2 (asg' O (oNl' (zA (zF (ret_one O (rd_tmp (v:=(qa true)) O) (λw hw=>⟨by rw [hB],(),trivial,by rw [Og hB];unfold I4;exact hw.weak (sl (sl (sl (sl (sl (sl (sl sr)))))))⟩)))))))))))))
end
section
set_option maxRecDepth 100000
theorem OO (p:Option Addr) (n cp:Nat) (h:n<=cp) (w:World)  :Calls prog 55 #[(qz p n cp)] w (Ad w (qz p n n)):=by
 refine AY (args:=[(qz p n cp)]) func55 O O (BA O) (zM (sL [0] O) (q4 (asg' O (oNl' (q2 (AL O (AL O (AD (v:=(vN n)) (AE O underlying28) O (AL O (AD (v:=(vN n)) (AE O underlying28) O (AD (v:=(qz p n n)) (EY (m:=n) O O O underlying28 sizeOf99 Z) O ?_)))))))))))
 exact asg' O (oNl' (zB (sL [2] O) (zA (zF (ret_one O (rd_tmp (v:=(qz p n n)) O) (λw hw=>⟨rfl,hw.out⟩))))))
theorem Iz (ts:List Pt) (x:RX (rowsL AZ ts) ts.length) (hl:ts.length<=1000000000) (w:World) {S:Nat->Prop} (hx:Ro S w x):Calls prog 51 #[(qz x.p ts.length x.c)] w (D6 TD (RG (T:=99) (z:=10) (cs:=rowsL AZ ts) (n:=ts.length)) S w):=by
 have lx:=Da (W:=w) hx
 refine Ah (args:=[(qz x.p ts.length x.c)]) (L:=[AF x.p (rowsL AZ ts)]) func51 O O (BA O) (Db hx A7) (zM (sL [0] O) (q4 (asg' O (zo 99 10 (oNl' (q1 (q4 (AL O (AD (v:=(qa x.p.isNone)) (FD O O underlying28) O (oNl' (zB (sL [0,2,4] O) ?_)))))))))))
 refine zA ?_
 refine zL O (λhc0=>?_) (λhc0=>?_)
 ·have hts:ts=[]:=List.eq_nil_of_length_eq_zero (x.ok.nil (Option.isNone_iff_eq_none.1 hc0)).1
  exact q4 (asg' O (zo 99 10 (oNl' (zA (zF (zK (ret_one O (rd_tmp (v:=jj) O) (λw hw=>(by subst hts;exact JJ hw (OX.mk none 0 OwnOk.none) (by exact (sk (sl (sl sr)))) (Fq.own O Fq.nil) (by show qz none 0 0=_;rfl))))))))))
 ·exact zC (q2 (zZ (V:=λb1=>(qz (jk b1) 0 0)) (T:=99) (cs:=[]) (AI O) (F3 underlying28 sizeOf99) O (BA O) λb1=>yT (z:=10) 0 O Z λho_b1=>AL O (yO bU O ho_b1 O (V8 (k:=2) O x.ok) (AS An _) (E7 YK _) (LG Z) Z O λp_1 c_1 ho_1=>asg' O (oNl' (zB (sL [0,2] O) (zA (zF (ret_one O (rd_tmp (v:=(qz p_1 ts.length c_1)) O) (λw hw=>(JJ hw (OX.mk p_1 c_1 ho_1) (sk (sl (sl sr))) (Fq.own O Fq.nil) O))))))))))
theorem OP (p:Option Addr) (n cp:Nat) (h:n<=cp) (w:World)  :Calls prog 52 #[(qz p n cp)] w (Ad w (qz p n n)):=by
 refine AY (args:=[(qz p n cp)]) func52 O O (BA O) (zM (sL [0] O) (q4 (asg' O (oNl' (q2 (AL O (AL O (AD (v:=(vN n)) (AE O underlying23) O (AL O (AD (v:=(vN n)) (AE O underlying23) O (AD (v:=(qz p n n)) (EY (m:=n) O O O underlying23 sizeOf105 Z) O ?_)))))))))))
 exact asg' O (oNl' (zB (sL [2] O) (zA (zF (ret_one O (rd_tmp (v:=(qz p n n)) O) (λw hw=>⟨rfl,hw.out⟩))))))
theorem Ry (ts:List T3) (x:RX (rowsL Ac ts) ts.length) (hl:ts.length<=1000000000) (w:World) {S:Nat->Prop} (hx:Ro S w x):Calls prog 53 #[(qz x.p ts.length x.c)] w (D6 TD (RG (T:=105) (z:=3) (cs:=rowsL Ac ts) (n:=ts.length)) S w):=by
 have lx:=Da (W:=w) hx
 refine Ah (args:=[(qz x.p ts.length x.c)]) (L:=[AF x.p (rowsL Ac ts)]) func53 O O (BA O) (Db hx A7) (zM (sL [0] O) (q4 (asg' O (zo 105 3 (oNl' (q1 (q4 (AL O (AD (v:=(qa x.p.isNone)) (FD O O underlying23) O (oNl' (zB (sL [0,2,4] O) ?_)))))))))))
 refine zA ?_
 refine zL O (λhc0=>?_) (λhc0=>?_)
 ·have hts:ts=[]:=List.eq_nil_of_length_eq_zero (x.ok.nil (Option.isNone_iff_eq_none.1 hc0)).1
  exact q4 (asg' O (zo 105 3 (oNl' (zA (zF (zK (ret_one O (rd_tmp (v:=jj) O) (λw hw=>(by subst hts;exact JJ hw (OX.mk none 0 OwnOk.none) (by exact (sk (sl (sl sr)))) (Fq.own O Fq.nil) (by show qz none 0 0=_;rfl))))))))))
 ·exact zC (q2 (zZ (V:=λb1=>(qz (jk b1) 0 0)) (T:=105) (cs:=[]) (AI O) (F3 underlying23 sizeOf105) O (BA O) λb1=>yT (z:=3) 0 O Z λho_b1=>AL O (yO Yc O ho_b1 O (V8 (k:=2) O x.ok) (AS Aq _) (E7 RV _) (LG Z) Z O λp_1 c_1 ho_1=>asg' O (oNl' (zB (sL [0,2] O) (zA (zF (ret_one O (rd_tmp (v:=(qz p_1 ts.length c_1)) O) (λw hw=>(JJ hw (OX.mk p_1 c_1 ho_1) (sk (sl (sl sr))) (Fq.own O Fq.nil) O))))))))))
theorem Ki (p:Option Addr) (n cp:Nat) (h:n<=cp) (w:World)  :Calls prog 102 #[(qz p n cp)] w (Ad w (qz p n n)):=by
 refine AY (args:=[(qz p n cp)]) func102 O O (BA O) (zM (sL [0] O) (q4 (asg' O (oNl' (q2 (AL O (AL O (AD (v:=(vN n)) (AE O underlying24) O (AL O (AD (v:=(vN n)) (AE O underlying24) O (AD (v:=(qz p n n)) (EY (m:=n) O O O underlying24 sizeOf110 Z) O ?_)))))))))))
 exact asg' O (oNl' (zB (sL [2] O) (zA (zF (ret_one O (rd_tmp (v:=(qz p n n)) O) (λw hw=>⟨rfl,hw.out⟩))))))
theorem Rx (ts:List T3) (x:RX (rowsL Ac ts) ts.length) (hl:ts.length<=1000000000) (w:World) {S:Nat->Prop} (hx:Ro S w x):Calls prog 103 #[(qz x.p ts.length x.c)] w (D6 TD (RG (T:=110) (z:=3) (cs:=rowsL Ac ts) (n:=ts.length)) S w):=by
 have lx:=Da (W:=w) hx
 refine Ah (args:=[(qz x.p ts.length x.c)]) (L:=[AF x.p (rowsL Ac ts)]) func103 O O (BA O) (Db hx A7) (zM (sL [0] O) (q4 (asg' O (zo 110 3 (oNl' (q1 (q4 (AL O (AD (v:=(qa x.p.isNone)) (FD O O underlying24) O (oNl' (zB (sL [0,2,4] O) ?_)))))))))))
 refine zA ?_
 refine zL O (λhc0=>?_) (λhc0=>?_)
 ·have hts:ts=[]:=List.eq_nil_of_length_eq_zero (x.ok.nil (Option.isNone_iff_eq_none.1 hc0)).1
  exact q4 (asg' O (zo 110 3 (oNl' (zA (zF (zK (ret_one O (rd_tmp (v:=jj) O) (λw hw=>(by subst hts;exact JJ hw (OX.mk none 0 OwnOk.none) (by exact (sk (sl (sl sr)))) (Fq.own O Fq.nil) (by show qz none 0 0=_;rfl))))))))))
 ·exact zC (q2 (zZ (V:=λb1=>(qz (jk b1) 0 0)) (T:=110) (cs:=[]) (AI O) (F3 underlying24 sizeOf110) O (BA O) λb1=>yT (z:=3) 0 O Z λho_b1=>AL O (yO Yd O ho_b1 O (V8 (k:=2) O x.ok) (AS Aq _) (E7 RV _) (LG Z) Z O λp_1 c_1 ho_1=>asg' O (oNl' (zB (sL [0,2] O) (zA (zF (ret_one O (rd_tmp (v:=(qz p_1 ts.length c_1)) O) (λw hw=>(JJ hw (OX.mk p_1 c_1 ho_1) (sk (sl (sl sr))) (Fq.own O Fq.nil) O))))))))))
theorem Ws {ps:List Pt} {ts ss:List T3} (x:MX ps ts ss) (hp:ps.length<=1000000000) (ht:ts.length<=1000000000) (hs:ss.length<=1000000000) (w:World) {S:Nat->Prop} (hx:Ro S w x):Calls prog 35 #[(aG (Dj x))] w (D6 (λa:aU ps ts ss=>aG (dQ a)) dR S w):=by
 have lx:=Da (W:=w) hx
 refine Ah (args:=[(aG (Dj x))]) (L:=[AF x.a.p (rowsL AZ ps),AF x.b.p (rowsL Ac ts),AF x.c.p (rowsL Ac ss)]) func35 O O (BA O) (Db hx A7) (zM (sL [0] O) (q4 (BV (cs:=Dj x) O λb1=>al Hh O λb2=>q6 (sL [1,2] O) (DC [(0,true),(1,true),(4,true),(5,true),(8,true),(9,true),(2,false),(3,false),(6,false),(7,false),(10,false),(11,false),(12,true),(13,false)] (sl sr) (Am (v:=(pP b1 0)) O (AA O underlying30 O sizeOf28 O) (BU 0 (qz x.a.p ps.length x.a.c) C0 O (Am (v:=(pP b1 1)) O (AA O underlying30 O sizeOf23 O) (BU 0 (qz x.b.p ts.length x.b.c) C2 O (Am (v:=(pP b1 2)) O (AA O underlying30 O sizeOf24 O) ?_)))))))))
 refine BU 0 (qz x.c.p ss.length x.c.c) O7 O (zN O (yD (S:=S) (V:=TD) (LW:=RG (T:=99) (z:=10) (cs:=rowsL AZ ps) (n:=ps.length)) (args:=[(qz x.a.p ps.length x.a.c)]) call51 (λw hw=>Iz ps x.a Z w (bG (Co hw 2 O lx))) O λcl1 hcl1=>zD (sl (sl sr)) (zN O (ck' call55 (OO cl1.p ps.length cl1.c cl1.ok.row.le) O (zD (sl (sl sr)) (zN O (yD (S:=S) (V:=TD) (LW:=RG (T:=105) (z:=3) (cs:=rowsL Ac ts) (n:=ts.length)) (args:=[(qz x.b.p ts.length x.b.c)]) call53 (λw hw=>Ry ts x.b Z w (Zu (Co hw 3 O lx))) O λcl2 hcl2=>zD (sl (sl (sl sr))) (zN O (ck' call52 (OP cl2.p ts.length cl2.c cl2.ok.row.le) O ?_)))))))))
 refine zD (sl (sl (sl sr))) (zN O (yD (S:=S) (V:=TD) (LW:=RG (T:=110) (z:=3) (cs:=rowsL Ac ss) (n:=ss.length)) (args:=[(qz x.c.p ss.length x.c.c)]) call103 (λw hw=>Rx ss x.c Z w (bH (Co hw 4 O lx))) O λcl3 hcl3=>zD (sl (sl (sl (sl sr)))) (zN O (ck' call102 (Ki cl3.p ss.length cl3.c cl3.ok.row.le) O (zD (sl (sl (sl (sl sr)))) (Am (v:=(aG ([(qz cl1.p ps.length ps.length),(qz cl2.p ts.length ts.length),(qz cl3.p ss.length ss.length)]))) O (AP (zs:=[jj,jj,jj]) (vs:=[(qz cl1.p ps.length ps.length),(qz cl2.p ts.length ts.length),(qz cl3.p ss.length ss.length)]) (pv:=[(0,(qz cl1.p ps.length ps.length)),(1,(qz cl2.p ts.length ts.length)),(2,(qz cl3.p ss.length ss.length))]) (places:=[(0,1),(1,1),(2,1)]) zeroValue30 underlying30 (λw=>by simp [sizeOf23,sizeOf24,sizeOf28]) O O) (zN O (Ge O sizeOf30 O (zD (sl (sl (sl (sl sr)))) (zQ ?_))))))))))
 exact zB (sL [2] O) (zA (zF (ret_one O (Ao (i:=3) (cs:=[(qz cl1.p ps.length ps.length),(qz cl2.p ts.length ts.length),(qz cl3.p ss.length ss.length)]) O O isAgg30 sizeOf30 O) (λw hw=>(JJ hw (aU.mk (OX.mk cl1.p cl1.c cl1.ok) (OX.mk cl2.p cl2.c cl2.ok) (OX.mk cl3.p cl3.c cl3.ok)) (sk (sk (sk (sl (sl (sl (sl (sl sr)))))))) (Fq.own O (Fq.own O (Fq.own O Fq.nil))) O)))))
end
section
set_option maxRecDepth 100000
end
end Go.Proofs.YtpolhpjiahbidaaGreatDoor
