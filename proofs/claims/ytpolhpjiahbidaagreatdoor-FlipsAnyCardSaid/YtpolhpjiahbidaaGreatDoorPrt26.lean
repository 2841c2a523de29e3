import Derived.Test.YtpolhpjiahbidaaGreatDoorPrt25
namespace Go.Proofs.YtpolhpjiahbidaaGreatDoor
open Go Go.RowKit Go.Proofs.Tryz
open Go.Value renaming slice→qz,bool→qa
set_option linter.unusedVariables false
set_option linter.unusedSimpArgs false
section
set_option maxRecDepth 100000
theorem Po {x y z v:Pt} (a:PX x) (b:PX y) (d:PX z) (e:PX v) (h1:BV x<=1000) (h2:BV y<=1000) (h3:BV z<=1000) (h4:BV v<=1000) (w:World) {S:Nat->Prop} (ha:Ro S w a) (hb:Ro S w b) (hd:Ro S w d) (he:Ro S w e)  :Calls prog 142 #[(aG (BU a)),(aG (BU b)),(aG (BU d)),(aG (BU e))] w (AX w (vI (Kn x y z v))):=by
 have la:=Bq (W:=w) ha
 have lb:=Bq (W:=w) hb
 have ld:=Bq (W:=w) hd
 have le:=Bq (W:=w) he
 refine AR (args:=[(aG (BU a)),(aG (BU b)),(aG (BU d)),(aG (BU e))]) (L:=[BM a.x.z.n,BM a.x.m,BM a.y.z.n,BM a.y.m,BM b.x.z.n,BM b.x.m,BM b.y.z.n,BM b.y.m,BM d.x.z.n,BM d.x.m,BM d.y.z.n,BM d.y.m,BM e.x.z.n,BM e.x.m,BM e.y.z.n,BM e.y.m]) func142 O O (leB O) (Kb ha (Kb hb (Kb hd (Kb he Ae)))) (zM (sL [0,1,2,3] O) (q4 (BG (cs:=BU a) O λb1=>BG (cs:=BU b) O λb2=>BG (cs:=BU d) O λb3=>BG (cs:=BU e) O λb4=>asg' O (q6 (sL [4,5,6,7,8] O) (q4 (An 3 BK O (An 2 BK O ?_)))))))
 refine An 1 BK O (Bx call86 (λw hw=>Hn a b d Z w (inS hw 4 O la) (inS hw 8 O lb) (inS hw 12 O ld)) O (st' (A9 (c:=(decide (((Aa x y z).num.sign)=(0:Int)))) O O O) O (oNl' (zF (sL [4,5,6,7,8,14] O) (zC ?_)))))
 refine zO O (λhc0=>?_) (λhc0=>?_)
 ·replace hc0:=xR hc0
  have hfin:=Qb (d:=v) hc0
  exact q4 (asg' O (oNl' (zC (zH (zI (ret_one O (rd_tmp (v:=(vI 0)) O) (λw hw=>⟨by rw [hfin];try rfl,hw.out⟩)))))))
 ·replace hc0:=xQ hc0
  have hfin:=TI (d:=v) hc0
  refine zJ (q2 (An 3 BK O (An 2 BK O (An 1 BK O ?_))))
  have hzm:=VB h1 h2 h3
  refine cP (S:=S) (x:=(J1 x y z)) (args:=[(aG (BU a)),(aG (BU b)),(aG (BU d))]) call197 (λw hw=>Pp a b d Z w (inS hw 4 O la) (inS hw 8 O lb) (inS hw 12 O ld)) O O O λg1 lg1=>al FA O λb5=>Aj O sizeOf121 O (q6 (sL [4,5,6,7,8,9] O) (CE [(0,true),(1,true),(3,true),(4,true),(2,false),(5,false),(6,false),(7,true)] sr (C3 0 BK O (C3 8 BK O (C3 0 BK O (C3 5 BK O (zL O ?_)))))))
  have hz1:=B0 (J1 x y z) x
  have hz2:=D6 (J1 x y z-x) (J1 x y z-x)
  refine cF (S:=S) (x:=(Av (J1 x y z-x) (J1 x y z-x))) (args:=[(aG (BU g1)),(aG (BU a))]) call74 (λw hw=>DB g1 a Z w (inS hw 1 O lg1) (inS hw 9 O la)) O O O λg2 lg2=>zG (sl (sl sr)) (zL O ?_)
  have hz3:=B0 (J1 x y z) v
  have hz4:=D6 (J1 x y z-v) (J1 x y z-v)
  exact cF (S:=S) (x:=(Av (J1 x y z-v) (J1 x y z-v))) (args:=[(aG (BU g1)),(aG (BU e))]) call74 (λw hw=>DB g1 e Z w (inS hw 3 O lg1) (inS hw 23 O le)) O O O λg3 lg3=>zG (sl (sl (sl (sl sr)))) (zL O (Bx call75 (λw hw=>ZW g2 g3 Z w (inS hw 2 O lg2) (inS hw 0 O lg3)) O (zG (sl (sl (sl (sl sr)))) (pS' O (zT (zF (sL [4,5,6,8,9] O) (zC (zH (ret_one O (rd_tmp (v:=(vI (E5 (Av (J1 x y z-x) (J1 x y z-x)) (Av (J1 x y z-v) (J1 x y z-v))))) O) (λw hw=>⟨by rw [hfin];try rfl,hw.out⟩))))))))))
theorem Ka (T:T3) (a b:Nat) (w:World)  :Calls prog 85 #[(aG (Am T)),(vN a),(vN b)] w (AX w (vI (farR T a b))):=by
 refine AS (args:=[(aG (Am T)),(vN a),(vN b)]) func85 O O (leB O) (zM (sL [0,1,2] O) (q4 (BG (cs:=Am T) O λb1=>asg' O (q6 (sL [1,2,3,6] O) (q4 (asg' O (oNl' (zC (zN (yG 4 ?_))))))))))
 refine zk (zf (q4 (AJ O (st' (AW (c:=true) O O jY) O (oNl' (zF (sL [1,2,3,6,7,9] O) (zC (zZ O (zJ (q1 (zN ?_)))))))))))
 refine q4 (AJ O (st' (v:=(pP b1 0)) (AB (j:=0) O O underlying105 sizeOf3 O jY O) O (A_ 0 (vN T.1) BN O (AJ O (st' (Bf (c:=(decide (T.1≠a))) O O (Q8 (a:=T.1) (b:=a))) O (AJ O ?_))))))
 refine zg (FM:=[(1,(vN a)),(2,(vN b)),(3,(pP b1 0)),(6,(vI 0)),(7,(vI 0)),(9,(qa true)),(12,(vI 0)),(13,(pP b1 0)),(14,(vN T.1)),(15,(vN a)),(16,(qa (decide (T.1≠a)))),(17,(qa (decide (T.1≠a)))),(23,(qa ((decide (T.1≠a))&&(decide (T.1≠b)))))]) (LM:=[AU b1 105 (Am T)]) 6 ?_ ?_
 ·rcases xO (decide (T.1≠a)) with hg1|hg1
  ·refine zK (k:=17) (u:=qa true) O (by rw [hg1]) ?_
   have hg1':=xR hg1
   exact EV O (Au (v:=(pP b1 0)) O (AB (j:=0) O O underlying105 sizeOf3 O jY O) (Au (v:=(vN T.1)) O (AE (i:=0) (v:=(vN T.1)) O O BN.a O) (EV O (Au (v:=(qa (decide (T.1≠b)))) O (Bf (c:=(decide (T.1≠b))) O O (Q8 (a:=T.1) (b:=b))) (st' (v:=(qa (decide (T.1≠b)))) (ex_pick_true O O) O (oNl' (zS Bi (xP _))))))))
  ·refine zK (k:=17) (u:=qa false) O (by rw [hg1]) ?_
   have hg1':=xQ hg1
   exact Aw O (Aw O (Aw O (Aw O (Aw O (st' (v:=(qa false)) (AI O O) O (oNl' (zS Bi (xP _))))))))
 refine oNl' (zF (sL [1,2,3,6,7,23] O) (zC ?_))
 refine zO O (λhc1=>?_) (λhc1=>?_)
 ·simp only [jK] at hc1
  refine q4 (AJ O (st' (v:=(pP b1 0)) (AB (j:=0) O O underlying105 sizeOf3 O jY O) O (A_ 0 (vN T.1) BN O (asg' O (oNl' (zF (sL [1,2,3,6,7] O) (zC (zH (zU (zI (zI ?_)))))))))))
  exact zU (zI (ret_one O (rd_tmp (v:=(vN T.1)) O) (λw hw=>⟨by rw [show farR T a b=((T.1:Nat):Int) from by unfold farR;(repeat' split)<;>omega];try rfl,hw.out⟩)))
 ·simp only [jK] at hc1
  refine zJ (zP (zC (zQ (AJ O (st' (AV (c:=(1:Int)) O O jY) O (asg' O (oNl' (zF (sL [1,2,3,6,7] O) (zu (zk (zf ?_)))))))))))
  refine q4 (AJ O (st' (AW (c:=true) O O jY) O (oNl' (zF (sL [1,2,3,6,7,9] O) (zC (zZ O (zJ (q1 (zN (q4 (AJ O ?_)))))))))))
  refine st' (v:=(pP b1 1)) (AB (j:=1) O O underlying105 sizeOf3 O jY O) O (A_ 0 (vN T.2.1) BN O (AJ O (st' (Bf (c:=(decide (T.2.1≠a))) O O (Q8 (a:=T.2.1) (b:=a))) O (AJ O ?_))))
  refine zg (FM:=[(1,(vN a)),(2,(vN b)),(3,(pP b1 0)),(6,(vI 0)),(7,(vI 1)),(9,(qa true)),(12,(vI 1)),(13,(pP b1 1)),(14,(vN T.2.1)),(15,(vN a)),(16,(qa (decide (T.2.1≠a)))),(17,(qa (decide (T.2.1≠a)))),(23,(qa ((decide (T.2.1≠a))&&(decide (T.2.1≠b)))))]) (LM:=[AU b1 105 (Am T)]) 6 ?_ ?_
  ·rcases xO (decide (T.2.1≠a)) with hg2|hg2
   ·refine zK (k:=17) (u:=qa true) O (by rw [hg2]) ?_
    have hg2':=xR hg2
    exact EV O (Au (v:=(pP b1 1)) O (AB (j:=1) O O underlying105 sizeOf3 O jY O) (Au (v:=(vN T.2.1)) O (AE (i:=0) (v:=(vN T.2.1)) O O BN.a O) (EV O (Au (v:=(qa (decide (T.2.1≠b)))) O (Bf (c:=(decide (T.2.1≠b))) O O (Q8 (a:=T.2.1) (b:=b))) (st' (v:=(qa (decide (T.2.1≠b)))) (ex_pick_true O O) O (oNl' (zS EW (xP _))))))))
   ·refine zK (k:=17) (u:=qa false) O (by rw [hg2]) ?_
    have hg2':=xQ hg2
    exact Aw O (Aw O (Aw O (Aw O (Aw O (st' (v:=(qa false)) (AI O O) O (oNl' (zS EW (xP _))))))))
  refine oNl' (zF (sL [1,2,3,6,7,23] O) (zC ?_))
  refine zO O (λhc1=>?_) (λhc1=>?_)
  ·simp only [jK] at hc1
   refine q4 (AJ O (st' (v:=(pP b1 1)) (AB (j:=1) O O underlying105 sizeOf3 O jY O) O (A_ 0 (vN T.2.1) BN O (asg' O (oNl' (zF (sL [1,2,3,6,7] O) (zC (zH (zU (zI (zI ?_)))))))))))
   exact zU (zI (ret_one O (rd_tmp (v:=(vN T.2.1)) O) (λw hw=>⟨by rw [show farR T a b=((T.2.1:Nat):Int) from by unfold farR;(repeat' split)<;>omega];try rfl,hw.out⟩)))
  ·simp only [jK] at hc1
   refine zJ (zP (zC (zQ (AJ O (st' (AV (c:=(2:Int)) O O jY) O (asg' O (oNl' (zF (sL [1,2,3,6,7] O) (zu (zk (zf ?_)))))))))))
   refine q4 (AJ O (st' (AW (c:=true) O O jY) O (oNl' (zF (sL [1,2,3,6,7,9] O) (zC (zZ O (zJ (q1 (zN (q4 (AJ O ?_)))))))))))
   refine st' (v:=(pP b1 2)) (AB (j:=2) O O underlying105 sizeOf3 O jY O) O (A_ 0 (vN T.2.2) BN O (AJ O (st' (Bf (c:=(decide (T.2.2≠a))) O O (Q8 (a:=T.2.2) (b:=a))) O (AJ O ?_))))
   refine zg (FM:=[(1,(vN a)),(2,(vN b)),(3,(pP b1 0)),(6,(vI 0)),(7,(vI 2)),(9,(qa true)),(12,(vI 2)),(13,(pP b1 2)),(14,(vN T.2.2)),(15,(vN a)),(16,(qa (decide (T.2.2≠a)))),(17,(qa (decide (T.2.2≠a)))),(23,(qa ((decide (T.2.2≠a))&&(decide (T.2.2≠b)))))]) (LM:=[AU b1 105 (Am T)]) 6 ?_ ?_
   ·rcases xO (decide (T.2.2≠a)) with hg3|hg3
    ·refine zK (k:=17) (u:=qa true) O (by rw [hg3]) ?_
     have hg3':=xR hg3
     exact EV O (Au (v:=(pP b1 2)) O (AB (j:=2) O O underlying105 sizeOf3 O jY O) (Au (v:=(vN T.2.2)) O (AE (i:=0) (v:=(vN T.2.2)) O O BN.a O) (EV O (Au (v:=(qa (decide (T.2.2≠b)))) O (Bf (c:=(decide (T.2.2≠b))) O O (Q8 (a:=T.2.2) (b:=b))) (st' (v:=(qa (decide (T.2.2≠b)))) (ex_pick_true O O) O (oNl' (zS I4 (xP _))))))))
    ·refine zK (k:=17) (u:=qa false) O (by rw [hg3]) ?_
     have hg3':=xQ hg3
     exact Aw O (Aw O (Aw O (Aw O (Aw O (st' (v:=(qa false)) (AI O O) O (oNl' (zS I4 (xP _))))))))
   refine oNl' (zF (sL [1,2,3,6,7,23] O) (zC ?_))
   refine zO O (λhc1=>?_) (λhc1=>?_)
   ·simp only [jK] at hc1
    refine q4 (AJ O (st' (v:=(pP b1 2)) (AB (j:=2) O O underlying105 sizeOf3 O jY O) O (A_ 0 (vN T.2.2) BN O (asg' O (oNl' (zF (sL [1,2,3,6,7] O) (zC (zH (zU (zI (zI ?_)))))))))))
    exact zU (zI (ret_one O (rd_tmp (v:=(vN T.2.2)) O) (λw hw=>⟨by rw [show farR T a b=((T.2.2:Nat):Int) from by unfold farR;(repeat' split)<;>omega];try rfl,hw.out⟩)))
   ·simp only [jK] at hc1
    refine zJ (zP (zC (zQ (AJ O (st' (AV (c:=(3:Int)) O O jY) O (asg' O (oNl' (zF (sL [1,2,3,6,7] O) (zu (zk (zf ?_)))))))))))
    refine q4 (AJ O (st' (AW (c:=false) O O jY) O (oNl' (zF (sL [1,2,3,6,7,9] O) (zC (zX O (zY (zR (zR (zV (q2 ?_)))))))))))
    exact asg' O (oNl' (zF (sL [1,2,3,6,7] O) (zC (zH (ret_one O (rd_tmp (v:=(vI (-1:Int))) O) (λw hw=>⟨by rw [show farR T a b=(-1:Int) from by unfold farR;(repeat' split)<;>omega];try rfl,hw.out⟩))))))
set_option maxHeartbeats 1000000 in
theorem XE {N:Nat} {ts ss:List T3} (x:RM N ts ss) (u v:Int) (hnb:Bn N ts=true) (htl:ts.length<=100000) (hN:N<=4096) (w:World) {S:Nat->Prop} (hx:Ro S w x):Calls prog 82 #[(aG (GC x)),(vI u),(vI v)] w (AX w (vI (FC ts u v))):=by
 have hel:=JB ts
 have lx:=Bq (W:=w) hx
 refine AR (args:=[(aG (GC x)),(vI u),(vI v)]) (L:=[AC x.a.p (x.cs),AC x.b.p (rowsL Am ts),AC x.c.p (x.ds)]) func82 O O (leB O) (C7 hx Ae) (zM (sL [0,1,2] O) (q4 (BG (cs:=GC x) O λb1=>asg' O (q3 (sL [1,2,3,6] O) (An 0 C1 O (cX (S:=S) (cs:=rowsL Ba (BI ts)) (k:=(BI ts).length) (args:=[(aG (GC x))]) call46 (λw hw=>Hm x hnb Z hN w (inS hw 1 O lx)) O O O λo lo=>asg' O (q6 (sL [1,2,6,7] O) (q4 (asg' O ?_)))))))))
 refine oNl' (zC (zN ?_))
 refine zw (tg λ(i:Nat)=>i<=(BI ts).length/\FC ts u v=inG ((BI ts).drop i) (min u v) (max u v) i) (tg λ(i:Nat)=>[(1,(vI u)),(2,(vI v)),(7,(qz o.p ((BI ts).length) o.c)),(8,(vN i))]) (tg λ(i:Nat)=>[AC o.p (rowsL Ba (BI ts)),AU b1 39 (GC x),AC x.a.p (x.cs),AC x.b.p (rowsL Am ts),AC x.c.p (x.ds)]) (tg λ(i:Nat)=>(BI ts).length-i) 0 (⟨xu _,rfl⟩) (sF O) sr (λi hJ=>?_)
 obtain ⟨hi,he⟩:=hJ
 refine zf (q4 (AJ O (AJ O (st' (v:=(vN ((BI ts).length))) (AD O underlying47) O (st' (AW (c:=(decide (i<((BI ts).length)))) O O (B_ (a:=i) (b:=(BI ts).length))) O (oNl' (zF (sL [1,2,7,8,14] O) (zC ?_))))))))
 refine zO O (λhc0=>?_) (λhc0=>?_)
 ·replace hc0:=xR hc0
  refine zJ (q1 (zN (q4 (AJ O (AJ O (st' (v:=(pP (pB o.p) (pO o.p+i*4))) (AF (j:=i) O O o.ok underlying47 sizeOf50 O Z) O (st' (v:=(pP (pB o.p) (pO o.p+(i*4+0)))) (AA O underlying50 O sizeOf3 (Nat.add_assoc _ _ _)) O (st' (Ab (v:=(vN (((BI ts).getD i jA).a))) (i:=0) O O (Ao.ne o.ok Z) BN (By B6 jA _ _ 0 Z jY O)) O (AJ O (AJ O (st' (F7 (c:=(min u v)) O O (by split<;>omega)) O ?_)))))))))))
  refine st' (A9 (c:=(decide (((((BI ts).getD i jA).a:Nat):Int)=(min u v)))) O O O) O (AJ O ?_)
  refine zg (FM:=[(1,(vI u)),(2,(vI v)),(7,(qz o.p ((BI ts).length) o.c)),(8,(vN i)),(17,(qz o.p ((BI ts).length) o.c)),(18,(vN i)),(19,(pP (pB o.p) (pO o.p+i*4))),(20,(pP (pB o.p) (pO o.p+(i*4+0)))),(21,(vN (((BI ts).getD i jA).a))),(22,(vI u)),(23,(vI v)),(24,(vI (min u v))),(25,(qa (decide (((((BI ts).getD i jA).a:Nat):Int)=(min u v))))),(26,(qa (decide (((((BI ts).getD i jA).a:Nat):Int)=(min u v))))),(36,(qa ((decide (((((BI ts).getD i jA).a:Nat):Int)=(min u v)))&&(decide (((((BI ts).getD i jA).b:Nat):Int)=(max u v))))))]) (LM:=[AC o.p (rowsL Ba (BI ts)),AU b1 39 (GC x),AC x.a.p (x.cs),AC x.b.p (rowsL Am ts),AC x.c.p (x.ds)]) 10 ?_ ?_
  ·rcases xO (decide (((((BI ts).getD i jA).a:Nat):Int)=(min u v))) with hg1|hg1
   ·refine zK (k:=26) (u:=qa true) O (by rw [hg1]) ?_
    have hg1':=xR hg1
    exact EV O (EV O (Au (v:=(pP (pB o.p) (pO o.p+i*4))) O (AF (j:=i) O O o.ok underlying47 sizeOf50 O Z) (Au (v:=(pP (pB o.p) (pO o.p+(i*4+1)))) O (AA O underlying50 O sizeOf3 (Nat.add_assoc _ _ _)) (Au (v:=(vN (((BI ts).getD i jA).b))) O (Ab (v:=(vN (((BI ts).getD i jA).b))) (i:=0) O O (Ao.ne o.ok Z) BN (By B6 jA _ _ 1 Z jY O)) (EV O (EV O (Au (v:=(vI (max u v))) O (E6 (c:=(max u v)) O O (by split<;>omega)) (Au (v:=(qa (decide (((((BI ts).getD i jA).b:Nat):Int)=(max u v))))) O (A9 (c:=(decide (((((BI ts).getD i jA).b:Nat):Int)=(max u v)))) O O O) (st' (v:=(qa (decide (((((BI ts).getD i jA).b:Nat):Int)=(max u v))))) (ex_pick_true O O) O (oNl' (zS Bi (xP _))))))))))))
   ·refine zK (k:=26) (u:=qa false) O (by rw [hg1]) ?_
    have hg1':=xQ hg1
    exact Aw O (Aw O (Aw O (Aw O (Aw O (Aw O (Aw O (Aw O (Aw O (st' (v:=(qa false)) (AI O O) O (oNl' (zS Bi (xP _))))))))))))
  refine oNl' (zF (sL [1,2,7,8,36] O) (zC ?_))
  refine zO O (λhc1=>?_) (λhc1=>?_)
  ·simp only [jK] at hc1
   have hye:(((BI ts).getD i jA).a:Int)=min u v/\(((BI ts).getD i jA).b:Int)=max u v:=by grind
   have hfin:=he.trans (ST Z hye)
   exact q4 (AJ O (asg' O (oNl' (zF (sL [1,2,7,8,6] O) (zC (zH (zU (zI (zr (zU (zI (ret_one O (rd_tmp (v:=(vN i)) O) (λw hw=>⟨by rw [hfin];try rfl,hw.out⟩)))))))))))))
  ·simp only [jK] at hc1
   have hno:¬((((BI ts).getD i jA).a:Int)=min u v/\(((BI ts).getD i jA).b:Int)=max u v):=by grind
   exact zJ (zP (zC (zQ (AJ O (st' (AV (c:=((i+1:Nat):Int)) O O (AY (a:=i) (b:=1) Z)) O (asg' O (oNl' (zF (sL [1,2,7,8] O) (zm (i+1) (⟨Z,he.trans (PO Z hno)⟩) Z (sF O) sr)))))))))
 ·replace hc0:=xQ hc0
  have hfin:=he.trans (SS hc0)
  exact zY (zR (zh (zV (q2 (asg' O (oNl' (zC (zH (ret_one O (rd_tmp (v:=(vI (-1:Int))) O) (λw hw=>⟨by rw [hfin];try rfl,hw.out⟩))))))))))
theorem XJ {ps:List Pt} {ts:List T3} {ss:List Z3} (x:I5 ps ts ss) (e:E4) (hno:¬(0<=e.l/\0<=e.r)) (w:World) {S:Nat->Prop} (hx:Ro S w x):Calls prog 83 #[(aG (Dj x)),(aG (Ba e))] w (AX w (qa true)):=by
 have lx:=Bq (W:=w) hx
 refine AR (args:=[(aG (Dj x)),(aG (Ba e))]) (L:=(AC x.a.p (rowsL CW x.rs)::AC x.b.p (rowsL Am ts)::AC x.c.p (rowsL Af ss)::B5 x.rs)) func83 O O (leB O) (Xk hx) (zM (sL [0,1] O) (q4 (BG (cs:=Dj x) O λb1=>BG (cs:=Ba e) O λb2=>asg' O (q6 (sL [2,3,4] O) (q4 (st' (v:=(pP b2 2)) (AA O underlying50 O sizeOf3 O) O (A_ 0 (vI e.l) BN O (st' (AW (c:=(decide (e.l<(0:Int)))) O O O) O (AJ O ?_)))))))))
 refine zg (FM:=[(2,(pP b1 0)),(3,(pP b2 0)),(4,(qa false)),(7,(pP b2 2)),(8,(vI e.l)),(9,(qa (decide (e.l<(0:Int))))),(10,(qa (decide (e.l<(0:Int))))),(14,(qa ((decide (e.l<(0:Int)))||(decide (e.r<(0:Int))))))]) (LM:=(AU b2 50 (Ba e)::AU b1 39 (Dj x)::AC x.a.p (rowsL CW x.rs)::AC x.b.p (rowsL Am ts)::AC x.c.p (rowsL Af ss)::B5 x.rs)) 4 ?_ ?_
 ·rcases xO (decide (e.l<(0:Int))) with hg1|hg1
  ·refine zK (k:=10) (u:=qa true) O (by rw [hg1]) ?_
   have hg1':=xR hg1
   exact Aw O (Aw O (Aw O (st' (v:=(qa true)) (ex_pick_true O O) O (oNl' (zS Bi (xP _))))))
  ·refine zK (k:=10) (u:=qa false) O (by rw [hg1]) ?_
   have hg1':=xQ hg1
   exact Au (v:=(pP b2 3)) O (AA O underlying50 O sizeOf3 O) (Au (v:=(vI e.r)) O (AE (i:=0) (v:=(vI e.r)) O O BN.a O) (Au (v:=(qa (decide (e.r<(0:Int))))) O (AW (c:=(decide (e.r<(0:Int)))) O O O) (st' (v:=(qa (decide (e.r<(0:Int))))) (AI O O) O (oNl' (zS Bi (xP _))))))
 refine oNl' (zF (sL [2,3,4,14] O) (zC ?_))
 refine zO O (λhc0=>?_) (λhc0=>?_)
 ·simp only [jK] at hc0
  exact q4 (asg' O (oNl' (zC (zH (zI (ret_one O (rd_tmp (v:=(qa true)) O) (λw hw=>⟨rfl,hw.out⟩)))))))
 ·simp only [jK] at hc0
  exfalso;omega
theorem XK {ps:List Pt} {ts:List T3} {ss:List Z3} (x:I5 ps ts ss) (a b p q c d:Nat) (hpl:p<ts.length) (hql:q<ts.length) (h1:VA ps.length (ts.getD p (0,0,0)) a b c) (h2:VA ps.length (ts.getD q (0,0,0)) b a d) (hN:ps.length<=1000000) (hz:∀k,BV (BQ ps k)<=1000) (w:World) {S:Nat->Prop} (hx:Ro S w x):Calls prog 83 #[(aG (Dj x)),(aG ([(vN a),(vN b),(vN p),(vN q)]))] w (AX w (qa (decide (Es (BQ ps a) (BQ ps b) (BQ ps c) (BQ ps d)<=0)))):=by
 have hxl:=x.len
 have hzp:∀i,i<ps.length->BV (x.rs.getD i Cn).p<=1000:=λi hi=>by rw [x.at Z];exact hz i
 have ga:=h1.a
 have gb:=h1.b
 have gc:=h1.c
 have gd:=h2.c
 have lx:=Bq (W:=w) hx
 refine AR (args:=[(aG (Dj x)),(aG ([(vN a),(vN b),(vN p),(vN q)]))]) (L:=(AC x.a.p (rowsL CW x.rs)::AC x.b.p (rowsL Am ts)::AC x.c.p (rowsL Af ss)::B5 x.rs)) func83 O O (leB O) (Xk hx) (zM (sL [0,1] O) (q4 (BG (cs:=Dj x) O λb1=>BG (cs:=[(vN a),(vN b),(vN p),(vN q)]) O λb2=>asg' O (q6 (sL [2,3,4] O) (q4 (st' (v:=(pP b2 2)) (AA O underlying50 O sizeOf3 O) O (A_ 0 (vN p) BN O (st' (AW (c:=(decide (p<0))) O O (B_ (a:=p) (b:=0))) O (AJ O ?_)))))))))
 refine zg (FM:=[(2,(pP b1 0)),(3,(pP b2 0)),(4,(qa false)),(7,(pP b2 2)),(8,(vN p)),(9,(qa (decide (p<0)))),(10,(qa (decide (p<0)))),(14,(qa ((decide (p<0))||(decide (q<0)))))]) (LM:=(AU b2 50 ([(vN a),(vN b),(vN p),(vN q)])::AU b1 39 (Dj x)::AC x.a.p (rowsL CW x.rs)::AC x.b.p (rowsL Am ts)::AC x.c.p (rowsL Af ss)::B5 x.rs)) 4 ?_ ?_
 ·rcases xO (decide (p<0)) with hg1|hg1
  ·refine zK (k:=10) (u:=qa true) O (by rw [hg1]) ?_
   have hg1':=xR hg1
   exact Aw O (Aw O (Aw O (st' (v:=(qa true)) (ex_pick_true O O) O (oNl' (zS Bi (xP _))))))
  ·refine zK (k:=10) (u:=qa false) O (by rw [hg1]) ?_
   have hg1':=xQ hg1
   exact Au (v:=(pP b2 3)) O (AA O underlying50 O sizeOf3 O) (Au (v:=(vN q)) O (AE (i:=0) (v:=(vN q)) O O BN.a O) (Au (v:=(qa (decide (q<0)))) O (AW (c:=(decide (q<0))) O O (B_ (a:=q) (b:=0))) (st' (v:=(qa (decide (q<0)))) (AI O O) O (oNl' (zS Bi (xP _))))))
 refine oNl' (zF (sL [2,3,4,14] O) (zC ?_))
 refine zO O (λhc0=>?_) (λhc0=>?_)
 ·simp only [jK] at hc0
  exfalso;omega
 ·simp only [jK] at hc0
  refine zJ (q1 (CE (Dm 10++[(10,false),(11,true)]) sr (Ag (v:=(pP b1 1)) O (AA O underlying39 O sizeOf23 O) (BC 1 (qz x.b.p ts.length x.b.c) CQ O (Ag (v:=(pP b2 2)) O (AA O underlying50 O sizeOf3 O) (BC 0 (vN p) BN O (Ag (v:=(pP (pB x.b.p) (pO x.b.p+p*3))) O (AF (j:=p) O O x.b.ok underlying23 sizeOf105 O Z) (Ag (v:=(aG (Am (ts.getD p jJ)))) O (AH (vs:=Am (ts.getD p jJ)) (i:=3) O O (Ao.ne x.b.ok Z) CY (AZ A8 _ _ _ Z) (A8 _)) (Ag (v:=(pP b2 0)) O (AA O underlying50 O sizeOf3 O) (BC 0 (vN a) BN O (Ag (v:=(pP b2 1)) O (AA O underlying50 O sizeOf3 O) ?_)))))))))))
  refine BC 0 (vN b) BN O (zL O (Bx (args:=[(aG (Am (ts.getD p jJ))),(vN a),(vN b)]) (v:=(vN c)) call85 (λw hw=>(by have h9:=Ka (ts.getD p jJ) a b w;rw [show farR (ts.getD p jJ) a b=(c:Int) from h1.farR.1] at h9;exact h9)) O (zG sr (pS' O (zT (zF (sL [2,3,4,5] O) (q1 (CE (Dm 10++[(10,false),(11,true)]) sr (Ag (v:=(pP b1 1)) O (AA O underlying39 O sizeOf23 O) (BC 1 (qz x.b.p ts.length x.b.c) CQ O (Ag (v:=(pP b2 3)) O (AA O underlying50 O sizeOf3 O) ?_)))))))))))
  refine BC 0 (vN q) BN O (Ag (v:=(pP (pB x.b.p) (pO x.b.p+q*3))) O (AF (j:=q) O O x.b.ok underlying23 sizeOf105 O Z) (Ag (v:=(aG (Am (ts.getD q jJ)))) O (AH (vs:=Am (ts.getD q jJ)) (i:=3) O O (Ao.ne x.b.ok Z) CY (AZ A8 _ _ _ Z) (A8 _)) (Ag (v:=(pP b2 0)) O (AA O underlying50 O sizeOf3 O) (BC 0 (vN a) BN O (Ag (v:=(pP b2 1)) O (AA O underlying50 O sizeOf3 O) (BC 0 (vN b) BN O (zL O (Bx (args:=[(aG (Am (ts.getD q jJ))),(vN a),(vN b)]) (v:=(vN d)) call85 (λw hw=>(by have h9:=Ka (ts.getD q jJ) a b w;rw [show farR (ts.getD q jJ) a b=(d:Int) from h2.farR.2] at h9;exact h9)) O (zG sr (pS' O (zT ?_)))))))))))
  refine zF (sL [2,3,4,5,6] O) (q1 (CE (Dm 22++[(22,false),(23,true),(24,true)]) sr (Ag (v:=(pP b1 0)) O (AA O underlying39 O sizeOf36 O) (BC 1 (qz x.a.p x.rs.length x.a.c) Fm O (Ag (v:=(pP b2 0)) O (AA O underlying50 O sizeOf3 O) (BC 0 (vN a) BN O (Ag (v:=(pP (pB x.a.p) (pO x.a.p+a*6))) O (AF (j:=a) O O x.a.ok underlying36 sizeOf121 O Z) (Ag (v:=(aG (BU ((x.rs.getD a Cn).x)))) O (AH (vs:=BU ((x.rs.getD a Cn).x)) (i:=2) O O (Ao.ne x.a.ok Z) BK (AZ Bd Cn _ _ Z) (Bd _)) (Ag (v:=(pP b1 0)) O (AA O underlying39 O sizeOf36 O) (BC 1 (qz x.a.p x.rs.length x.a.c) Fm O (Ag (v:=(pP b2 1)) O (AA O underlying50 O sizeOf3 O) ?_)))))))))))
  refine BC 0 (vN b) BN O (Ag (v:=(pP (pB x.a.p) (pO x.a.p+b*6))) O (AF (j:=b) O O x.a.ok underlying36 sizeOf121 O Z) (Ag (v:=(aG (BU ((x.rs.getD b Cn).x)))) O (AH (vs:=BU ((x.rs.getD b Cn).x)) (i:=2) O O (Ao.ne x.a.ok Z) BK (AZ Bd Cn _ _ Z) (Bd _)) (Ag (v:=(pP b1 0)) O (AA O underlying39 O sizeOf36 O) (BC 1 (qz x.a.p x.rs.length x.a.c) Fm O (Bl O (Ag (v:=(pP (pB x.a.p) (pO x.a.p+c*6))) O (AF (j:=c) O O x.a.ok underlying36 sizeOf121 O Z) (Ag (v:=(aG (BU ((x.rs.getD c Cn).x)))) O (AH (vs:=BU ((x.rs.getD c Cn).x)) (i:=2) O O (Ao.ne x.a.ok Z) BK (AZ Bd Cn _ _ Z) (Bd _)) (Ag (v:=(pP b1 0)) O (AA O underlying39 O sizeOf36 O) (BC 1 (qz x.a.p x.rs.length x.a.c) Fm O (Bl O (Ag (v:=(pP (pB x.a.p) (pO x.a.p+d*6))) O (AF (j:=d) O O x.a.ok underlying36 sizeOf121 O Z) ?_)))))))))))
  exact Ag (v:=(aG (BU ((x.rs.getD d Cn).x)))) O (AH (vs:=BU ((x.rs.getD d Cn).x)) (i:=2) O O (Ao.ne x.a.ok Z) BK (AZ Bd Cn _ _ Z) (Bd _)) (zL O (Bx (args:=[(aG (BU ((x.rs.getD a Cn).x))),(aG (BU ((x.rs.getD b Cn).x))),(aG (BU ((x.rs.getD c Cn).x))),(aG (BU ((x.rs.getD d Cn).x)))]) (v:=(vI (Es (BQ ps a) (BQ ps b) (BQ ps c) (BQ ps d)))) call142 (λw hw=>(by have h9:=Po ((x.rs.getD a Cn).x) ((x.rs.getD b Cn).x) ((x.rs.getD c Cn).x) ((x.rs.getD d Cn).x) (hzp a Z) (hzp b Z) (hzp c Z) (hzp d Z) w (GL hw 5 O Z (At.rnt lx)) (GL hw 5 O Z (At.rnt lx)) (GL hw 5 O Z (At.rnt lx)) (GL hw 5 O Z (At.rnt lx));rw [YX Z Z Z Z] at h9;exact h9)) O (zG sr (Ag O (Ee (c:=(decide ((Es (BQ ps a) (BQ ps b) (BQ ps c) (BQ ps d))<=(0:Int)))) O O O) (pS' O (zT (zF (sL [2,3,4] O) (zC (zH (ret_one O (rd_tmp (v:=(qa (decide ((Es (BQ ps a) (BQ ps b) (BQ ps c) (BQ ps d))<=(0:Int))))) O) (λw hw=>⟨rfl,hw.out⟩)))))))))))
theorem GQ {ps:List Pt} {ts:List T3} {ss:List Z3} (x:I5 ps ts ss) (u v:Int) (hnb:Bn ps.length ts=true) (htl:ts.length<=100000) (hN:ps.length<=4096) (w:World) {S:Nat->Prop} (hx:Ro S w x):Calls prog 82 #[(aG (Dj x)),(vI u),(vI v)] w (AX w (vI (FC ts u v))):=by
 obtain ⟨y,hy,hro⟩:=So x
 have hxl:=x.len
 have k:=XE y u v (by rw [hxl];exact hnb) htl Z w (hro hx)
 rw [hy] at k
 exact k
theorem UJ {ps:List Pt} {ts:List T3} {ss:List Z3} (x:I5 ps ts ss) (e:E4) (he:e∈BI ts) (hnb:Bn ps.length ts=true) (htl:ts.length<=100000) (hN:ps.length<=4096) (hz:∀k,BV (BQ ps k)<=1000) (w:World) {S:Nat->Prop} (hx:Ro S w x):Calls prog 83 #[(aG (Dj x)),(aG (Ba e))] w (AX w (qa (Ew ps ts e))):=by
 by_cases h:0<=e.l/\0<=e.r
 ·obtain ⟨p,q,c,d,h2⟩:=JZ hnb Z he h.1 h.2
  have k:=XK x e.a e.b p q c d h2.pl h2.ql h2.sc h2.sd Z hz w hx
  rw [VZ] at k
  rw [PS h2,h2.mk4]
  exact k
 ·rw [SU h]
  exact XJ x e h w hx
theorem RH {ps:List Pt} {ts:List T3} {ss:List Z3} (x:I5 ps ts ss) (u v:Int) (hnb:Bn ps.length ts=true) (htl:ts.length<=100000) (hN:ps.length<=4096) (hno:FC ts u v<0) (w:World) {S:Nat->Prop} (hx:Ro S w x):Calls prog 27 #[(aG (Dj x)),(vI u),(vI v)] w (AX w (Value.tuple #[(qa false),(vI 1)])):=by
 have lx:=Bq (W:=w) hx
 refine AR (args:=[(aG (Dj x)),(vI u),(vI v)]) (L:=(AC x.a.p (rowsL CW x.rs)::AC x.b.p (rowsL Am ts)::AC x.c.p (rowsL Af ss)::B5 x.rs)) func27 O O (leB O) (Xk hx) (zM (sL [0,1,2] O) (q4 (BG (cs:=Dj x) O λb1=>asg' O (asg' O (q3 (sL [1,2,3,6,7] O) (An 0 C1 O (AJ O (AJ O (Bx call82 (λw hw=>GQ x u v hnb htl hN w (EY hw 1 O 4 O lx)) O (asg' O ?_))))))))))
 refine q6 (sL [3,6,7,8] O) (q4 (AJ O (st' (AW (c:=(decide ((FC ts u v)<(0:Int)))) O O O) O (oNl' (zF (sL [3,6,7,8,14] O) (zC ?_))))))
 refine zO O (λhc0=>?_) (λhc0=>?_)
 ·replace hc0:=xR hc0
  exact q4 (asg' O (asg' O (oNl' (zC (zH (zI (BR O (rd_tmp (v:=(qa false)) O) (rd_tmp (v:=(vI 1)) O) (λw hw=>⟨rfl,hw.out⟩))))))))
 ·replace hc0:=xQ hc0
  exfalso;omega
theorem V5 {es:List E4} {j:Nat} (h:j<es.length):es.getD j E0∈es:=by rw [List.getD,xN h];exact List.getElem_mem h
theorem RI {ps:List Pt} {ts:List T3} {ss:List Z3} (x:I5 ps ts ss) (u v:Int) (hnb:Bn ps.length ts=true) (htl:ts.length<=100000) (hN:ps.length<=4096) (hz:∀k,BV (BQ ps k)<=1000) (j:Nat) (hj:FC ts u v=(j:Int)) (hjl:j<(BI ts).length) (w:World) {S:Nat->Prop} (hx:Ro S w x):Calls prog 27 #[(aG (Dj x)),(vI u),(vI v)] w (AX w (Value.tuple #[(qa (Ew ps ts ((BI ts).getD j jA))),(vI 0)])):=by
 have hxl:=x.len
 have hel:=JB ts
 have lx:=Bq (W:=w) hx
 refine AR (args:=[(aG (Dj x)),(vI u),(vI v)]) (L:=(AC x.a.p (rowsL CW x.rs)::AC x.b.p (rowsL Am ts)::AC x.c.p (rowsL Af ss)::B5 x.rs)) func27 O O (leB O) (Xk hx) (zM (sL [0,1,2] O) (q4 (BG (cs:=Dj x) O λb1=>asg' O (asg' O (q3 (sL [1,2,3,6,7] O) (An 0 C1 O (AJ O (AJ O (Bx (args:=[(aG (Dj x)),(vI u),(vI v)]) (v:=(vN j)) call82 (λw hw=>(by rw [show vN j=vI (FC ts u v) by rw [hj]];exact GQ x u v hnb htl hN w (EY hw 1 O 4 O lx))) O (asg' O ?_))))))))))
 refine q6 (sL [3,6,7,8] O) (q4 (AJ O (st' (AW (c:=(decide (j<0))) O O (B_ (a:=j) (b:=0))) O (oNl' (zF (sL [3,6,7,8,14] O) (zC ?_))))))
 refine zO O (λhc0=>?_) (λhc0=>?_)
 ·replace hc0:=xR hc0
  exfalso;omega
 ·replace hc0:=xQ hc0
  refine zJ (q1 (CE [(0,true),(1,true),(3,true),(2,false),(4,true),(5,false),(6,false),(7,true),(8,true)] sr (C3 0 C1 O (C3 0 C1 O (Bl O (zL O (cX (S:=S) (cs:=rowsL Ba (BI ts)) (k:=(BI ts).length) (args:=[(aG (Dj x))]) call46 (λw hw=>(by obtain ⟨y,hy,hro⟩:=So x;have h9:=Hm y (by rw [hxl];exact hnb) Z Z w (hro (EY hw 1 O 4 O lx));rw [hy] at h9;exact h9)) O O O λo lo=>zG (sl sr) (Ag (v:=(pP (pB o.p) (pO o.p+j*4))) O (AF (j:=j) O O o.ok underlying47 sizeOf50 O Z) (zL O (st' (v:=(aG (Ba ((BI ts).getD j jA)))) (AH (vs:=Ba ((BI ts).getD j jA)) (i:=0) O O (Ao.ne o.ok Z) Zr (AZ B6 _ _ _ Z) (B6 _)) O ?_))))))))))
  exact zG (sl sr) (zL O (Bx call83 (λw hw=>UJ x ((BI ts).getD j jA) (V5 hjl) hnb htl hN hz w (EY hw 2 O 5 O lx)) O (zG (sl sr) (pS' O (pS' O (zT (zF (sL [3,6,7,8] O) (zC (zH (BR O (rd_tmp (v:=(qa (Ew ps ts ((BI ts).getD j jA)))) O) (rd_tmp (v:=(vI 0)) O) (λw hw=>⟨rfl,hw.out⟩)))))))))))
theorem UD {ps:List Pt} {ts:List T3} {ss:List Z3} (x:I5 ps ts ss) (u v:Int) (hnb:Bn ps.length ts=true) (htl:ts.length<=100000) (hN:ps.length<=4096) (hz:∀k,BV (BQ ps k)<=1000) (w:World) {S:Nat->Prop} (hx:Ro S w x):Calls prog 27 #[(aG (Dj x)),(vI u),(vI v)] w (AX w (.tuple #[(qa (Y9 ps ts u v)),(vN (Y_ ts u v))])):=by
 rcases HZ ts u v with h|⟨j,h1,h2⟩
 ·have h9:FC ts u v<0:=by omega
  rw [(KS (ps:=ps) h9).1,(KS (ps:=ps) h9).2]
  exact RH x u v hnb htl hN h9 w hx
 ·rw [(N4 (ps:=ps) h2).1,(N4 (ps:=ps) h2).2]
  exact RI x u v hnb htl hN hz j h2 h1 w hx
theorem DY  :Instr.fill ([(0,1),(1,1),(2,1)].toArray[·]?) ([jj,jj,jj]).toArray []=some ([jj,jj,jj]).toArray:=by kernel_rfl
theorem T_ {ps:List Pt} {ts:List T3} {ss:List Z3} (x:I5 ps ts ss) (u v:Int) (hnb:Bn ps.length ts=true) (htl:ts.length<=100000) (hN:ps.length<=4096) (hno:FC ts u v<0) (w:World) {S:Nat->Prop} (hx:Ro S w x):Calls prog 29 #[(aG (Dj x)),(vI u),(vI v)] w (Ai (X_ [] [] [] 1) S w):=by
 have lx:=Bq (W:=w) hx
 refine AR (args:=[(aG (Dj x)),(vI u),(vI v)]) (L:=(AC x.a.p (rowsL CW x.rs)::AC x.b.p (rowsL Am ts)::AC x.c.p (rowsL Af ss)::B5 x.rs)) func29 O O (leB O) (Xk hx) (zM (sL [0,1,2] O) (q4 (BG (cs:=Dj x) O λb1=>al OJ O λb2=>asg' O (q3 (sL [1,2,3,6,7] O) (An 1 C1 O (AJ O (AJ O (Bx call82 (λw hw=>GQ x u v hnb htl hN w (EY hw 2 O 5 O lx)) O (asg' O ?_)))))))))
 refine q6 (sL [3,6,7,8] O) (q4 (AJ O (st' (AW (c:=(decide ((FC ts u v)<(0:Int)))) O O O) O (oNl' (zF (sL [3,6,7,8,18] O) (zC ?_))))))
 refine zO O (λhc0=>?_) (λhc0=>?_)
 ·replace hc0:=xR hc0
  exact q4 (st' (v:=(aG ([jj,jj,jj]))) (AO (zs:=[jj,jj,jj]) (vs:=[jj,jj,jj]) (pv:=[]) (places:=[(0,1),(1,1),(2,1)]) zeroValue39 underlying39 (λw=>by simp [sizeOf23,sizeOf36,sizeOf37]) O (DY )) O (Aj O sizeOf39 O (asg' O (oNl' (zF (sL [3,6,7,8] O) (zC (zH (zI (BR O (Ah (i:=0) (cs:=[jj,jj,jj]) O O isAgg39 sizeOf39 O) (rd_tmp (v:=(vI 1)) O) (λw hw=>(It hw 1 O)))))))))))
 ·replace hc0:=xQ hc0
  exfalso;omega
theorem UA {ps:List Pt} {ts:List T3} {ss:List Z3} (x:I5 ps ts ss) (u v:Int) (hnb:Bn ps.length ts=true) (htl:ts.length<=100000) (hN:ps.length<=4096) (j:Nat) (hj:FC ts u v=(j:Int)) (hjl:j<(BI ts).length) (hno:¬(0<=((BI ts).getD j jA).l/\0<=((BI ts).getD j jA).r)) (w:World) {S:Nat->Prop} (hx:Ro S w x):Calls prog 29 #[(aG (Dj x)),(vI u),(vI v)] w (Ai (X_ [] [] [] 7) S w):=by
 have hxl:=x.len
 have hel:=JB ts
 have lx:=Bq (W:=w) hx
 refine AR (args:=[(aG (Dj x)),(vI u),(vI v)]) (L:=(AC x.a.p (rowsL CW x.rs)::AC x.b.p (rowsL Am ts)::AC x.c.p (rowsL Af ss)::B5 x.rs)) func29 O O (leB O) (Xk hx) (zM (sL [0,1,2] O) (q4 (BG (cs:=Dj x) O λb1=>al OJ O λb2=>asg' O (q3 (sL [1,2,3,6,7] O) (An 1 C1 O (AJ O (AJ O (Bx (args:=[(aG (Dj x)),(vI u),(vI v)]) (v:=(vN j)) call82 (λw hw=>(by rw [show vN j=vI (FC ts u v) by rw [hj]];exact GQ x u v hnb htl hN w (EY hw 2 O 5 O lx))) O (asg' O ?_)))))))))
 refine q6 (sL [3,6,7,8] O) (q4 (AJ O (st' (AW (c:=(decide (j<0))) O O (B_ (a:=j) (b:=0))) O (oNl' (zF (sL [3,6,7,8,18] O) (zC ?_))))))
 refine zO O (λhc0=>?_) (λhc0=>?_)
 ·replace hc0:=xR hc0
  exfalso;omega
 ·replace hc0:=xQ hc0
  refine zJ (q2 (An 1 C1 O (cX (S:=S) (cs:=rowsL Ba (BI ts)) (k:=(BI ts).length) (args:=[(aG (Dj x))]) call46 (λw hw=>(by obtain ⟨y,hy,hro⟩:=So x;have h9:=Hm y (by rw [hxl];exact hnb) Z Z w (hro (EY hw 2 O 5 O lx));rw [hy] at h9;exact h9)) O O O λo lo=>AJ O (st' (v:=(pP (pB o.p) (pO o.p+j*4))) (AF (j:=j) O O o.ok underlying47 sizeOf50 O Z) O (st' (v:=(aG (Ba ((BI ts).getD j jA)))) (AH (vs:=Ba ((BI ts).getD j jA)) (i:=0) O O (Ao.ne o.ok Z) Zr (AZ B6 _ _ _ Z) (B6 _)) O (al cj O λb3=>Aj O sizeOf50 O (q6 (sL [3,6,7,8,9] O) (q4 (st' (v:=(pP b3 2)) (AA O underlying50 O sizeOf3 O) O ?_)))))))))
  refine A_ 0 (vI (((BI ts).getD j jA).l)) BN O (st' (AW (c:=(decide ((((BI ts).getD j jA).l)<(0:Int)))) O O O) O (AJ O ?_))
  refine zg (FM:=[(3,(pP b1 0)),(6,(pP b2 0)),(7,(vI 0)),(8,(vN j)),(9,(pP b3 0)),(25,(pP b3 2)),(26,(vI (((BI ts).getD j jA).l))),(27,(qa (decide ((((BI ts).getD j jA).l)<(0:Int))))),(28,(qa (decide ((((BI ts).getD j jA).l)<(0:Int))))),(32,(qa ((decide ((((BI ts).getD j jA).l)<(0:Int)))||(decide ((((BI ts).getD j jA).r)<(0:Int))))))]) (LM:=(AU b3 50 (Ba ((BI ts).getD j jA))::AC o.p (rowsL Ba (BI ts))::AU b2 39 ([jj,jj,jj])::AU b1 39 (Dj x)::AC x.a.p (rowsL CW x.rs)::AC x.b.p (rowsL Am ts)::AC x.c.p (rowsL Af ss)::B5 x.rs)) 4 ?_ ?_
  ·rcases xO (decide ((((BI ts).getD j jA).l)<(0:Int))) with hg1|hg1
   ·refine zK (k:=28) (u:=qa true) O (by rw [hg1]) ?_
    have hg1':=xR hg1
    exact Aw O (Aw O (Aw O (st' (v:=(qa true)) (ex_pick_true O O) O (oNl' (zS Bi (xP _))))))
   ·refine zK (k:=28) (u:=qa false) O (by rw [hg1]) ?_
    have hg1':=xQ hg1
    exact Au (v:=(pP b3 3)) O (AA O underlying50 O sizeOf3 O) (Au (v:=(vI (((BI ts).getD j jA).r))) O (AE (i:=0) (v:=(vI (((BI ts).getD j jA).r))) O O BN.a O) (Au (v:=(qa (decide ((((BI ts).getD j jA).r)<(0:Int))))) O (AW (c:=(decide ((((BI ts).getD j jA).r)<(0:Int)))) O O O) (st' (v:=(qa (decide ((((BI ts).getD j jA).r)<(0:Int))))) (AI O O) O (oNl' (zS Bi (xP _))))))
  refine oNl' (zF (sL [3,6,7,8,9,32] O) (zC ?_))
  refine zO O (λhc1=>?_) (λhc1=>?_)
  ·simp only [jK] at hc1
   exact q4 (st' (v:=(aG ([jj,jj,jj]))) (AO (zs:=[jj,jj,jj]) (vs:=[jj,jj,jj]) (pv:=[]) (places:=[(0,1),(1,1),(2,1)]) zeroValue39 underlying39 (λw=>by simp [sizeOf23,sizeOf36,sizeOf37]) O (DY )) O (E_ O sizeOf39 O (asg' O (oNl' (zF (sL [3,6,7,8,9] O) (zC (zH (zI (BR O (Ah (i:=2) (cs:=[jj,jj,jj]) O O isAgg39 sizeOf39 O) (rd_tmp (v:=(vI 7)) O) (λw hw=>(It hw 7 O)))))))))))
  ·simp only [jK] at hc1
   exfalso;omega
theorem Gw (x0 x1 x2:Nat):Instr.fill (λi=>some (i*1,1)) (Am jJ).toArray [(0,vN x0),(1,vN x1),(2,vN x2)]=some (Am (x0,x1,x2)).toArray:=by kernel_rfl
theorem UB {ps:List Pt} {ts:List T3} {ss:List Z3} (x:I5 ps ts ss) (u v:Int) (hnb:Bn ps.length ts=true) (htl:ts.length<=100000) (hN:ps.length<=4096) (hsl:ss.length<=1000000) (hz:∀k,BV (BQ ps k)<=1000) (j:Nat) (hj:FC ts u v=(j:Int)) (hjl:j<(BI ts).length) (a b p q c d:Nat) (h2:Uf ps.length ts ((BI ts).getD j jA) p q c d) (hE:((BI ts).getD j jA)=⟨a,b,(p:Int),(q:Int)⟩) {P0:List Pt} {T0 S0:List Z3} {E0:Nat} (hY0:F_ ps a b c d=true->ps=P0/\T0=(Ia ts a b p q c d).map CH/\ss=S0/\E0=0) (hN0:F_ ps a b c d=false->P0=[]/\T0=[]/\S0=[]/\E0=7) (w:World) {S:Nat->Prop} (hx:Ro S w x):Calls prog 29 #[(aG (Dj x)),(vI u),(vI v)] w (Ai (X_ P0 T0 S0 E0) S w):=by
 have hxl:=x.len
 have hzp:∀i,i<ps.length->BV (x.rs.getD i Cn).p<=1000:=λi hi=>by rw [x.at Z];exact hz i
 have hel:=JB ts
 have hsc:=h2.sc
 have hsd:=h2.sd
 rw [hE] at hsc hsd
 dsimp only at hsc hsd
 have ga:a<ps.length:=hsc.a
 have gb:b<ps.length:=hsc.b
 have gc:=hsc.c
 have gd:=hsd.c
 have gp:=h2.pl
 have gq:=h2.ql
 have lx:=Bq (W:=w) hx
 refine AR (args:=[(aG (Dj x)),(vI u),(vI v)]) (L:=(AC x.a.p (rowsL CW x.rs)::AC x.b.p (rowsL Am ts)::AC x.c.p (rowsL Af ss)::B5 x.rs)) func29 O O (leB O) (Xk hx) (zM (sL [0,1,2] O) (q4 (BG (cs:=Dj x) O λb1=>al OJ O λb2=>asg' O (q3 (sL [1,2,3,6,7] O) (An 1 C1 O (AJ O (AJ O (Bx (args:=[(aG (Dj x)),(vI u),(vI v)]) (v:=(vN j)) call82 (λw hw=>(by rw [show vN j=vI (FC ts u v) by rw [hj]];exact GQ x u v hnb htl hN w (EY hw 2 O 5 O lx))) O (asg' O ?_)))))))))
 refine q6 (sL [3,6,7,8] O) (q4 (AJ O (st' (AW (c:=(decide (j<0))) O O (B_ (a:=j) (b:=0))) O (oNl' (zF (sL [3,6,7,8,18] O) (zC ?_))))))
 refine zO O (λhc0=>?_) (λhc0=>?_)
 ·replace hc0:=xR hc0
  exfalso;omega
 ·replace hc0:=xQ hc0
  refine zJ (q2 (An 1 C1 O (cX (S:=S) (cs:=rowsL Ba (BI ts)) (k:=(BI ts).length) (args:=[(aG (Dj x))]) call46 (λw hw=>(by obtain ⟨y,hy,hro⟩:=So x;have h9:=Hm y (by rw [hxl];exact hnb) Z Z w (hro (EY hw 2 O 5 O lx));rw [hy] at h9;exact h9)) O O O λo lo=>AJ O (st' (v:=(pP (pB o.p) (pO o.p+j*4))) (AF (j:=j) O O o.ok underlying47 sizeOf50 O Z) O (st' (v:=(aG (Ba ((BI ts).getD j jA)))) (AH (vs:=Ba ((BI ts).getD j jA)) (i:=0) O O (Ao.ne o.ok Z) Zr (AZ B6 _ _ _ Z) (B6 _)) O (zK (k:=24) (u:=(aG ([(vN a),(vN b),(vN p),(vN q)]))) O (by rw [hE];rfl) (al cj O λb3=>Aj O sizeOf50 O (q6 (sL [3,6,7,8,9] O) (q4 ?_)))))))))
  refine st' (v:=(pP b3 2)) (AA O underlying50 O sizeOf3 O) O (A_ 0 (vN p) BN O (st' (AW (c:=(decide (p<0))) O O (B_ (a:=p) (b:=0))) O (AJ O ?_)))
  refine zg (FM:=[(3,(pP b1 0)),(6,(pP b2 0)),(7,(vI 0)),(8,(vN j)),(9,(pP b3 0)),(25,(pP b3 2)),(26,(vN p)),(27,(qa (decide (p<0)))),(28,(qa (decide (p<0)))),(32,(qa ((decide (p<0))||(decide (q<0)))))]) (LM:=(AU b3 50 ([(vN a),(vN b),(vN p),(vN q)])::AC o.p (rowsL Ba (BI ts))::AU b2 39 ([jj,jj,jj])::AU b1 39 (Dj x)::AC x.a.p (rowsL CW x.rs)::AC x.b.p (rowsL Am ts)::AC x.c.p (rowsL Af ss)::B5 x.rs)) 4 ?_ ?_
  ·rcases xO (decide (p<0)) with hg1|hg1
   ·refine zK (k:=28) (u:=qa true) O (by rw [hg1]) ?_
    have hg1':=xR hg1
    exact Aw O (Aw O (Aw O (st' (v:=(qa true)) (ex_pick_true O O) O (oNl' (zS Bi (xP _))))))
   ·refine zK (k:=28) (u:=qa false) O (by rw [hg1]) ?_
    have hg1':=xQ hg1
    exact Au (v:=(pP b3 3)) O (AA O underlying50 O sizeOf3 O) (Au (v:=(vN q)) O (AE (i:=0) (v:=(vN q)) O O BN.a O) (Au (v:=(qa (decide (q<0)))) O (AW (c:=(decide (q<0))) O O (B_ (a:=q) (b:=0))) (st' (v:=(qa (decide (q<0)))) (AI O O) O (oNl' (zS Bi (xP _))))))
  refine oNl' (zF (sL [3,6,7,8,9,32] O) (zC ?_))
  refine zO O (λhc1=>?_) (λhc1=>?_)
  ·simp only [jK] at hc1
   exfalso;omega
  ·simp only [jK] at hc1
   refine zJ (q1 (CE (Dm 10++[(10,false),(11,true)]) sr (Ag (v:=(pP b1 1)) O (AA O underlying39 O sizeOf23 O) (BC 3 (qz x.b.p ts.length x.b.c) CQ O (Ag (v:=(pP b3 2)) O (AA O underlying50 O sizeOf3 O) (BC 0 (vN p) BN O (Ag (v:=(pP (pB x.b.p) (pO x.b.p+p*3))) O (AF (j:=p) O O x.b.ok underlying23 sizeOf105 O Z) (Ag (v:=(aG (Am (ts.getD p jJ)))) O (AH (vs:=Am (ts.getD p jJ)) (i:=5) O O (Ao.ne x.b.ok Z) CY (AZ A8 _ _ _ Z) (A8 _)) (Ag (v:=(pP b3 0)) O (AA O underlying50 O sizeOf3 O) (BC 0 (vN a) BN O (Ag (v:=(pP b3 1)) O (AA O underlying50 O sizeOf3 O) ?_)))))))))))
   refine BC 0 (vN b) BN O (zL O (Bx (args:=[(aG (Am (ts.getD p jJ))),(vN a),(vN b)]) (v:=(vN c)) call85 (λw hw=>(by have h9:=Ka (ts.getD p jJ) a b w;rw [show farR (ts.getD p jJ) a b=(c:Int) from hsc.farR.1] at h9;exact h9)) O (zG sr (pS' O (zT (zF (sL [3,6,7,8,9,10] O) (q1 (CE (Dm 10++[(10,false),(11,true)]) sr (Ag (v:=(pP b1 1)) O (AA O underlying39 O sizeOf23 O) (BC 3 (qz x.b.p ts.length x.b.c) CQ O (Ag (v:=(pP b3 3)) O (AA O underlying50 O sizeOf3 O) ?_)))))))))))
   refine BC 0 (vN q) BN O (Ag (v:=(pP (pB x.b.p) (pO x.b.p+q*3))) O (AF (j:=q) O O x.b.ok underlying23 sizeOf105 O Z) (Ag (v:=(aG (Am (ts.getD q jJ)))) O (AH (vs:=Am (ts.getD q jJ)) (i:=5) O O (Ao.ne x.b.ok Z) CY (AZ A8 _ _ _ Z) (A8 _)) (Ag (v:=(pP b3 0)) O (AA O underlying50 O sizeOf3 O) (BC 0 (vN a) BN O (Ag (v:=(pP b3 1)) O (AA O underlying50 O sizeOf3 O) (BC 0 (vN b) BN O (zL O (Bx (args:=[(aG (Am (ts.getD q jJ))),(vN a),(vN b)]) (v:=(vN d)) call85 (λw hw=>(by have h9:=Ka (ts.getD q jJ) a b w;rw [show farR (ts.getD q jJ) a b=(d:Int) from hsd.farR.2] at h9;exact h9)) O (zG sr (pS' O (zT ?_)))))))))))
   refine zF (sL [3,6,7,8,9,10,11] O) (q2 (An 3 C1 O (yR (S:=S) (V:=λa:dD x.rs ts ss=>aG (fR a)) (LW:=fS) (args:=[(aG (Dj x))]) call73 (λw hw=>T9 x Z Z Z w (EY hw 4 O 7 O lx)) O λcp hcp=>al OJ O λb4=>Aj O sizeOf39 O (q3 (sL [3,6,7,8,9,10,11,12] O) (st' (v:=(pP b4 1)) (AA O underlying39 O sizeOf23 O) O (A_ 0 (qz cp.b.p ts.length cp.b.c) CQ O (st' (v:=(pP b3 2)) (AA O underlying50 O sizeOf3 O) O (A_ 4 (vN p) BN O (st' (v:=(pP b3 0)) (AA O underlying50 O sizeOf3 O) O ?_)))))))))
   refine A_ 4 (vN a) BN O (AJ O (AJ O (st' (v:=(aG (Am (a,d,c)))) (Bk (zs:=Am jJ) (vs:=Am (a,d,c)) (pv:=[(0,(vN a)),(1,(vN d)),(2,(vN c))]) zeroValue105 underlying105 sizeOf3 O (Gw a d c)) O (st' (v:=(pP (pB cp.b.p) (pO cp.b.p+p*3))) (AF (j:=p) O O cp.b.ok.row underlying23 sizeOf105 O Z) O (yh 2 (enc:=Am) (j:=p) (r:=0) (x':=(a,d,c)) (vs:=Am (a,d,c)) jJ A8 cp.b.ok (by first|rfl|omega|simp [*]) O O O (Ao.ne cp.b.ok.row Z) Z O sizeOf105 O O (q3 (sL [3,6,7,8,9,10,11,12] O) (st' (v:=(pP b4 1)) (AA O underlying39 O sizeOf23 O) O (A_ 0 (qz cp.b.p ts.length cp.b.c) CQ O (st' (v:=(pP b3 3)) (AA O underlying50 O sizeOf3 O) O (A_ 4 (vN q) BN O (AJ O ?_)))))))))))
   refine st' (v:=(pP b3 1)) (AA O underlying50 O sizeOf3 O) O (A_ 4 (vN b) BN O (AJ O (st' (v:=(aG (Am (d,b,c)))) (Bk (zs:=Am jJ) (vs:=Am (d,b,c)) (pv:=[(0,(vN d)),(1,(vN b)),(2,(vN c))]) zeroValue105 underlying105 sizeOf3 O (Gw d b c)) O (st' (v:=(pP (pB cp.b.p) (pO cp.b.p+q*3))) (AF (j:=q) O O cp.b.ok.row underlying23 sizeOf105 O Z) O (yh 2 (enc:=Am) (j:=q) (r:=0) (x':=(d,b,c)) (vs:=Am (d,b,c)) jJ A8 cp.b.ok (by first|rfl|omega|simp [*]) O O O (Ao.ne cp.b.ok.row Z) Z O sizeOf105 O O (q6 (sL [3,6,7,8,9,10,11,12] O) (zf ?_)))))))
   by_cases hq1:(Aa (BQ ps a) (BQ ps d) (BQ ps c)).num.sign=1
   ·refine CE (Dm 16++[(16,false),(17,true),(18,true),(19,true),(20,true),(21,true),(22,true),(23,true),(24,true),(25,true),(26,true),(27,true),(28,true),(29,true),(30,true),(31,true),(32,true),(33,true),(34,true),(35,false),(36,true),(37,true)]) sr (Ag (v:=(pP b1 0)) O (AA O underlying39 O sizeOf36 O) (BC 7 (qz x.a.p x.rs.length x.a.c) Fm O (Ag (v:=(pP b3 0)) O (AA O underlying50 O sizeOf3 O) (BC 4 (vN a) BN O (Ag (v:=(pP (pB x.a.p) (pO x.a.p+a*6))) O (AF (j:=a) O O x.a.ok underlying36 sizeOf121 O Z) (Ag (v:=(aG (BU ((x.rs.getD a Cn).x)))) O (AH (vs:=BU ((x.rs.getD a Cn).x)) (i:=8) O O (Ao.ne x.a.ok Z) BK (AZ Bd Cn _ _ Z) (Bd _)) (Ag (v:=(pP b1 0)) O (AA O underlying39 O sizeOf36 O) (BC 7 (qz x.a.p x.rs.length x.a.c) Fm O (Bl O (Ag (v:=(pP (pB x.a.p) (pO x.a.p+d*6))) O (AF (j:=d) O O x.a.ok underlying36 sizeOf121 O Z) (Ag (v:=(aG (BU ((x.rs.getD d Cn).x)))) O (AH (vs:=BU ((x.rs.getD d Cn).x)) (i:=8) O O (Ao.ne x.a.ok Z) BK (AZ Bd Cn _ _ Z) (Bd _)) ?_)))))))))))
    refine Ag (v:=(pP b1 0)) O (AA O underlying39 O sizeOf36 O) (BC 7 (qz x.a.p x.rs.length x.a.c) Fm O (Bl O (Ag (v:=(pP (pB x.a.p) (pO x.a.p+c*6))) O (AF (j:=c) O O x.a.ok underlying36 sizeOf121 O Z) (Ag (v:=(aG (BU ((x.rs.getD c Cn).x)))) O (AH (vs:=BU ((x.rs.getD c Cn).x)) (i:=8) O O (Ao.ne x.a.ok Z) BK (AZ Bd Cn _ _ Z) (Bd _)) (zL O (Bx (args:=[(aG (BU ((x.rs.getD a Cn).x))),(aG (BU ((x.rs.getD d Cn).x))),(aG (BU ((x.rs.getD c Cn).x)))]) (v:=(vI ((Aa (BQ ps a) (BQ ps d) (BQ ps c)).num.sign))) call86 (λw hw=>(by have h9:=Hn ((x.rs.getD a Cn).x) ((x.rs.getD d Cn).x) ((x.rs.getD c Cn).x) (by have:=hzp a Z;have:=hzp d Z;have:=hzp c Z;omega) w (GL hw 11 O Z (At.rnt lx)) (GL hw 11 O Z (At.rnt lx)) (GL hw 11 O Z (At.rnt lx));rw [OM Z Z Z] at h9;exact h9)) O (zG sr (Ag O (Bf (c:=false) O O (xq λh=>h hq1)) (Bl O (zW (v:=(pP b1 0)) O (AN O) (AA O underlying39 O sizeOf36 O) O O (zW (v:=(qz x.a.p x.rs.length x.a.c)) O (AN O) (AE (i:=7) (v:=(qz x.a.p x.rs.length x.a.c)) O O Fm.a O) O O ?_)))))))))))
    refine zW (v:=(vN d)) O (AN O) (Bv O) O O (zW (v:=(pP (pB x.a.p) (pO x.a.p+d*6))) O (AN O) (AF (j:=d) O O x.a.ok underlying36 sizeOf121 O Z) O O (zW (v:=(aG (BU ((x.rs.getD d Cn).x)))) O (AN O) (AH (vs:=BU ((x.rs.getD d Cn).x)) (i:=8) O O (Ao.ne x.a.ok Z) BK (AZ Bd Cn _ _ Z) (Bd _)) O O (zW (v:=(pP b1 0)) O (AN O) (AA O underlying39 O sizeOf36 O) O O (zW (v:=(qz x.a.p x.rs.length x.a.c)) O (AN O) (AE (i:=7) (v:=(qz x.a.p x.rs.length x.a.c)) O O Fm.a O) O O (zW (v:=(pP b3 1)) O (AN O) (AA O underlying50 O sizeOf3 O) O O (zW (v:=(vN b)) O (AN O) (AE (i:=4) (v:=(vN b)) O O BN.a O) O O (zW (v:=(pP (pB x.a.p) (pO x.a.p+b*6))) O (AN O) (AF (j:=b) O O x.a.ok underlying36 sizeOf121 O Z) O O (zW (v:=(aG (BU ((x.rs.getD b Cn).x)))) O (AN O) (AH (vs:=BU ((x.rs.getD b Cn).x)) (i:=8) O O (Ao.ne x.a.ok Z) BK (AZ Bd Cn _ _ Z) (Bd _)) O O (zW (v:=(pP b1 0)) O (AN O) (AA O underlying39 O sizeOf36 O) O O (zW (v:=(qz x.a.p x.rs.length x.a.c)) O (AN O) (AE (i:=7) (v:=(qz x.a.p x.rs.length x.a.c)) O O Fm.a O) O O (zW (v:=(vN c)) O (AN O) (Bv O) O O ?_)))))))))))
    refine zW (v:=(pP (pB x.a.p) (pO x.a.p+c*6))) O (AN O) (AF (j:=c) O O x.a.ok underlying36 sizeOf121 O Z) O O (zW (v:=(aG (BU ((x.rs.getD c Cn).x)))) O (AN O) (AH (vs:=BU ((x.rs.getD c Cn).x)) (i:=8) O O (Ao.ne x.a.ok Z) BK (AZ Bd Cn _ _ Z) (Bd _)) O O (zL O (zj (v:=(vI ((Aa (BQ ps d) (BQ ps b) (BQ ps c)).num.sign))) (AN O) (Ak (args:=[(aG (BU ((x.rs.getD d Cn).x))),(aG (BU ((x.rs.getD b Cn).x))),(aG (BU ((x.rs.getD c Cn).x)))]) O O call86) (λw hw=>(by have h9:=Hn ((x.rs.getD d Cn).x) ((x.rs.getD b Cn).x) ((x.rs.getD c Cn).x) (by have:=hzp d Z;have:=hzp b Z;have:=hzp c Z;omega) w (GL hw 11 O Z (At.rnt lx)) (GL hw 11 O Z (At.rnt lx)) (GL hw 11 O Z (At.rnt lx));rw [OM Z Z Z] at h9;exact h9)) O (leB O) (zG sr (zW (v:=(qa (decide (((Aa (BQ ps d) (BQ ps b) (BQ ps c)).num.sign)≠(1:Int))))) O (AN O) (Bf (c:=(decide (((Aa (BQ ps d) (BQ ps b) (BQ ps c)).num.sign)≠(1:Int)))) O O O) O O (Ag (v:=(qa (decide (((Aa (BQ ps d) (BQ ps b) (BQ ps c)).num.sign)≠(1:Int))))) O (AI O O) (zT (zF (sL [3,6,7,8,9,10,11,12,115] O) (zC ?_)))))))))
    refine zO O (λhc2=>?_) (λhc2=>?_)
    ·replace hc2:=xR hc2
     obtain ⟨rfl,rfl,rfl,rfl⟩:=hN0 (PG hc2)
     exact q4 (st' (v:=(aG ([jj,jj,jj]))) (AO (zs:=[jj,jj,jj]) (vs:=[jj,jj,jj]) (pv:=[]) (places:=[(0,1),(1,1),(2,1)]) zeroValue39 underlying39 (λw=>by simp [sizeOf23,sizeOf36,sizeOf37]) O (DY )) O (Ei 6 (off:=0) (vs:=[jj,jj,jj]) (cs':=[jj,jj,jj]) (AM O) O sizeOf39 O (asg' O (oNl' (zF (sL [3,6,7,8,9,10,11,12] O) (zC (zH (zI (BR O (Ah (i:=6) (cs:=[jj,jj,jj]) O O isAgg39 sizeOf39 O) (rd_tmp (v:=(vI 7)) O) (λw hw=>(It hw 7 O)))))))))))
    ·replace hc2:=xQ hc2
     obtain ⟨rfl,rfl,rfl,rfl⟩:=hY0 (PH hq1 (Decidable.not_not.1 hc2))
     exact zJ (q2 (An 0 C1 O (Ei 6 (off:=0) (vs:=[(qz cp.a.p x.rs.length cp.a.c),(qz cp.b.p ts.length cp.b.c),(qz cp.c.p ss.length cp.c.c)]) (cs':=[(qz cp.a.p x.rs.length cp.a.c),(qz cp.b.p ts.length cp.b.c),(qz cp.c.p ss.length cp.c.c)]) (AM O) O sizeOf39 O (asg' O (oNl' (zF (sL [3,6,7,8,9,10,11,12] O) (zC (zH (BR O (Ah (i:=6) (cs:=[(qz cp.a.p x.rs.length cp.a.c),(qz cp.b.p ts.length cp.b.c),(qz cp.c.p ss.length cp.c.c)]) O O isAgg39 sizeOf39 O) (rd_tmp (v:=(vI 0)) O) (λw hw=>(bK 0 O (XG (A:=[AU b4 39 ([(qz cp.a.p x.rs.length cp.a.c),(qz cp.b.p ts.length cp.b.c),(qz cp.c.p ss.length cp.c.c)]),rowW cp.c.p 119 3 ss.length cp.c.c (rowsL Af ss),rowW cp.b.p 105 3 ts.length cp.b.c (rowsL Am ((ts.set p (a,d,c)).set q (d,b,c))),rowW cp.a.p 121 6 x.rs.length cp.a.c (rowsL CW x.rs),AU b3 50 ([(vN a),(vN b),(vN p),(vN q)]),AC o.p (rowsL Ba (BI ts)),AU b2 39 ([(qz cp.a.p x.rs.length cp.a.c),(qz cp.b.p ts.length cp.b.c),(qz cp.c.p ss.length cp.c.c)]),AU b1 39 (Dj x),AC x.a.p (rowsL CW x.rs),AC x.b.p (rowsL Am ts),AC x.c.p (rowsL Af ss)]) hw 3 2 1 O (by rw [<-C6];rfl) O cp.a.ok cp.b.ok cp.c.ok O (by rw [xv,G6]) O x.e (At.rnt lx) O))))))))))))
   ·obtain ⟨rfl,rfl,rfl,rfl⟩:=hN0 (PF hq1)
    refine CE (Dm 16++[(16,false),(17,true),(18,true),(19,true),(20,true),(21,true),(22,true),(23,true),(24,true),(25,true),(26,true),(27,true),(28,true),(29,true),(30,true),(31,true),(32,true),(33,true),(34,true),(35,false),(36,true),(37,true)]) sr (Ag (v:=(pP b1 0)) O (AA O underlying39 O sizeOf36 O) (BC 7 (qz x.a.p x.rs.length x.a.c) Fm O (Ag (v:=(pP b3 0)) O (AA O underlying50 O sizeOf3 O) (BC 4 (vN a) BN O (Ag (v:=(pP (pB x.a.p) (pO x.a.p+a*6))) O (AF (j:=a) O O x.a.ok underlying36 sizeOf121 O Z) (Ag (v:=(aG (BU ((x.rs.getD a Cn).x)))) O (AH (vs:=BU ((x.rs.getD a Cn).x)) (i:=8) O O (Ao.ne x.a.ok Z) BK (AZ Bd Cn _ _ Z) (Bd _)) (Ag (v:=(pP b1 0)) O (AA O underlying39 O sizeOf36 O) (BC 7 (qz x.a.p x.rs.length x.a.c) Fm O (Bl O (Ag (v:=(pP (pB x.a.p) (pO x.a.p+d*6))) O (AF (j:=d) O O x.a.ok underlying36 sizeOf121 O Z) (Ag (v:=(aG (BU ((x.rs.getD d Cn).x)))) O (AH (vs:=BU ((x.rs.getD d Cn).x)) (i:=8) O O (Ao.ne x.a.ok Z) BK (AZ Bd Cn _ _ Z) (Bd _)) ?_)))))))))))
    refine Ag (v:=(pP b1 0)) O (AA O underlying39 O sizeOf36 O) (BC 7 (qz x.a.p x.rs.length x.a.c) Fm O (Bl O (Ag (v:=(pP (pB x.a.p) (pO x.a.p+c*6))) O (AF (j:=c) O O x.a.ok underlying36 sizeOf121 O Z) (Ag (v:=(aG (BU ((x.rs.getD c Cn).x)))) O (AH (vs:=BU ((x.rs.getD c Cn).x)) (i:=8) O O (Ao.ne x.a.ok Z) BK (AZ Bd Cn _ _ Z) (Bd _)) (zL O (Bx (args:=[(aG (BU ((x.rs.getD a Cn).x))),(aG (BU ((x.rs.getD d Cn).x))),(aG (BU ((x.rs.getD c Cn).x)))]) (v:=(vI ((Aa (BQ ps a) (BQ ps d) (BQ ps c)).num.sign))) call86 (λw hw=>(by have h9:=Hn ((x.rs.getD a Cn).x) ((x.rs.getD d Cn).x) ((x.rs.getD c Cn).x) (by have:=hzp a Z;have:=hzp d Z;have:=hzp c Z;omega) w (GL hw 11 O Z (At.rnt lx)) (GL hw 11 O Z (At.rnt lx)) (GL hw 11 O Z (At.rnt lx));rw [OM Z Z Z] at h9;exact h9)) O (zG sr (Ag O (Bf (c:=true) O O (xr hq1)) (Bl O (ze O (Ap O) O O (ze O (Ap O) O O ?_)))))))))))
    refine ze O (Ap O) O O (ze O (Ap O) O O (ze O (Ap O) O O (ze O (Ap O) O O (ze O (Ap O) O O (ze O (Ap O) O O (ze O (Ap O) O O (ze O (Ap O) O O (ze O (Ap O) O O (ze O (Ap O) O O (ze O (Ap O) O O (ze O (Ap O) O O ?_)))))))))))
    refine ze O (Ap O) O O (ze O (Ap O) O O (zL O (Aw O (zG sr (ze O (Ap O) O O (Ag (v:=(qa true)) O (ex_pick_true O O) (zT (zF (sL [3,6,7,8,9,10,11,12,115] O) (zC (zZ O (q4 ?_)))))))))))
    exact st' (v:=(aG ([jj,jj,jj]))) (AO (zs:=[jj,jj,jj]) (vs:=[jj,jj,jj]) (pv:=[]) (places:=[(0,1),(1,1),(2,1)]) zeroValue39 underlying39 (λw=>by simp [sizeOf23,sizeOf36,sizeOf37]) O (DY )) O (Ei 6 (off:=0) (vs:=[jj,jj,jj]) (cs':=[jj,jj,jj]) (AM O) O sizeOf39 O (asg' O (oNl' (zF (sL [3,6,7,8,9,10,11,12] O) (zC (zH (zI (BR O (Ah (i:=6) (cs:=[jj,jj,jj]) O O isAgg39 sizeOf39 O) (rd_tmp (v:=(vI 7)) O) (λw hw=>(It hw 7 O))))))))))
theorem W9 {ps:List Pt} {ts:List T3} {ss:List Z3} (x:I5 ps ts ss) (u v:Int) (hnb:Bn ps.length ts=true) (htl:ts.length<=100000) (hN:ps.length<=4096) (hsl:ss.length<=1000000) (hz:∀k,BV (BQ ps k)<=1000) (w:World) {S:Nat->Prop} (hx:Ro S w x):Calls prog 29 #[(aG (Dj x)),(vI u),(vI v)] w (Ai (X_ (Uh ps ts u v) ((Uj ps ts u v).map CH) (Ui ps ts ss u v) (Ug ps ts u v)) S w):=by
 rcases HZ ts u v with h|⟨j,h1,h2⟩
 ·have h9:FC ts u v<0:=by omega
  have k:=PC (ps:=ps) h9
  rw [(EX (ss:=ss) k.1).1,(EX (ss:=ss) k.1).2.1,(EX (ss:=ss) k.1).2.2,k.2]
  exact T_ x u v hnb htl hN h9 w hx
 ·have hd:0<=FC ts u v:=by omega
  have hE:=(Kv h2).1
  by_cases hb:Cm (Dr ts u v)=true
  ·obtain ⟨g1,g2⟩:=EA.1 hb
   obtain ⟨p,q,c,d,h3⟩:=JZ hnb Z (Ga hd) g1 g2
   have e1:=SO hd h3
   have h4:=h3
   have h5:=h3.mk4
   rw [hE] at h4 h5
   rw [hE] at e1
   refine UB x u v hnb htl hN hsl hz j h2 h1 _ _ p q c d h4 h5 (λhB=>?_) (λhB=>?_) w hx
   ·rw [hB] at e1
    rw [(JF (ss:=ss) e1.1).1,(JF (ss:=ss) e1.1).2.1,(JF (ss:=ss) e1.1).2.2,Nu hd,e1.1,e1.2]
    exact ⟨rfl,rfl,rfl,rfl⟩
   ·rw [hB] at e1
    rw [(EX (ss:=ss) e1.1).1,(EX (ss:=ss) e1.1).2.1,(EX (ss:=ss) e1.1).2.2,Nu hd,e1.1]
    exact ⟨rfl,rfl,rfl,rfl⟩
  ·rw [Bool.not_eq_true] at hb
   have k:=SN (ps:=ps) hd hb
   rw [(EX (ss:=ss) k.1).1,(EX (ss:=ss) k.1).2.1,(EX (ss:=ss) k.1).2.2,k.2]
   exact UA x u v hnb htl hN j h2 h1 (λh9=>by rw [<-hE] at h9;rw [EA.2 h9] at hb;cases hb) w hx
theorem RF {N M K:Nat} (x:RU N M K) (hu:∀(S:Nat->Prop) (w:World),Ro S w x->Calls prog 45 #[(aG (Jq x))] w (AX w (qa false))) (w:World) {S:Nat->Prop} (hx:Ro S w x):Calls prog 46 #[(aG (Jq x))] w (AX w jj):=by
 have lx:=Bq (W:=w) hx
 refine AR (args:=[(aG (Jq x))]) (L:=[AC x.a.p (x.cs),AC x.b.p (x.es),AC x.c.p (x.ds)]) func46 O O (leB O) (C7 hx Ae) (zM (sL [0] O) (q4 (BG (cs:=Jq x) O λb1=>asg' O (q3 (sL [1,2] O) (asg' O (oNl' (q1 (q4 (An 0 C1 O (Bx call45 (λw hw=>hu _ w (inS hw 1 O lx)) O ?_))))))))))
 refine st' (BB (c:=true) O O) O (oNl' (zF (sL [1,2,3,10] O) (zC (zZ O (q4 (AJ O (asg' O (oNl' (zF (sL [1,2,3] O) (zC (zH ?_)))))))))))
 exact zI (ret_one O (rd_tmp (v:=jj) O) (λw hw=>⟨rfl,hw.out⟩))
theorem NF {N M K:Nat} (x:RU N M K) (u v:Int) (hu:∀(S:Nat->Prop) (w:World),Ro S w x->Calls prog 45 #[(aG (Jq x))] w (AX w (qa false))) (w:World) {S:Nat->Prop} (hx:Ro S w x):Calls prog 82 #[(aG (Jq x)),(vI u),(vI v)] w (AX w (vI (-1:Int))):=by
 have lx:=Bq (W:=w) hx
 refine AR (args:=[(aG (Jq x)),(vI u),(vI v)]) (L:=[AC x.a.p (x.cs),AC x.b.p (x.es),AC x.c.p (x.ds)]) func82 O O (leB O) (C7 hx Ae) (zM (sL [0,1,2] O) (q4 (BG (cs:=Jq x) O λb1=>asg' O (q3 (sL [1,2,3,6] O) (An 0 C1 O (Bx call46 (λw hw=>RF x hu w (inS hw 1 O lx)) O (asg' O (q6 (sL [1,2,6,7] O) (q4 (asg' O ?_))))))))))
 refine oNl' (zC (zN (yG 1 (zk (zf (q4 (AJ O (AJ O (st' (v:=(vI 0)) (AD O underlying47) O (st' (AW (c:=false) O O jY) O (oNl' ?_)))))))))))
 refine zF (sL [1,2,6,7,8,14] O) (zC (zX O (zY (zR (zR (zV (q2 (asg' O (oNl' (zF (sL [1,2,6,7,8] O) (zC ?_)))))))))))
 exact zH (ret_one O (rd_tmp (v:=(vI (-1:Int))) O) (λw hw=>⟨rfl,hw.out⟩))
theorem RJ {N M K:Nat} (x:RU N M K) (u v:Int) (hu:∀(S:Nat->Prop) (w:World),Ro S w x->Calls prog 45 #[(aG (Jq x))] w (AX w (qa false))) (w:World) {S:Nat->Prop} (hx:Ro S w x):Calls prog 27 #[(aG (Jq x)),(vI u),(vI v)] w (AX w (Value.tuple #[(qa false),(vI 1)])):=by
 have lx:=Bq (W:=w) hx
 refine AR (args:=[(aG (Jq x)),(vI u),(vI v)]) (L:=[AC x.a.p (x.cs),AC x.b.p (x.es),AC x.c.p (x.ds)]) func27 O O (leB O) (C7 hx Ae) (zM (sL [0,1,2] O) (q4 (BG (cs:=Jq x) O λb1=>asg' O (asg' O (q3 (sL [1,2,3,6,7] O) (An 0 C1 O (AJ O (AJ O (Bx call82 (λw hw=>NF x u v hu w (inS hw 1 O lx)) O (asg' O ?_))))))))))
 refine q6 (sL [3,6,7,8] O) (q4 (AJ O (st' (AW (c:=(decide ((-1:Int)<(0:Int)))) O O O) O (oNl' (zF (sL [3,6,7,8,14] O) (zC ?_))))))
 refine zO O (λhc0=>?_) (λhc0=>?_)
 ·replace hc0:=xR hc0
  exact q4 (asg' O (asg' O (oNl' (zC (zH (zI (BR O (rd_tmp (v:=(qa false)) O) (rd_tmp (v:=(vI 1)) O) (λw hw=>⟨rfl,hw.out⟩))))))))
 ·replace hc0:=xQ hc0
  exfalso;omega
theorem UC {N M K:Nat} (x:RU N M K) (u v:Int) (hu:∀(S:Nat->Prop) (w:World),Ro S w x->Calls prog 45 #[(aG (Jq x))] w (AX w (qa false))) (w:World) {S:Nat->Prop} (hx:Ro S w x):Calls prog 29 #[(aG (Jq x)),(vI u),(vI v)] w (Ai (X_ [] [] [] 1) S w):=by
 have lx:=Bq (W:=w) hx
 refine AR (args:=[(aG (Jq x)),(vI u),(vI v)]) (L:=[AC x.a.p (x.cs),AC x.b.p (x.es),AC x.c.p (x.ds)]) func29 O O (leB O) (C7 hx Ae) (zM (sL [0,1,2] O) (q4 (BG (cs:=Jq x) O λb1=>al OJ O λb2=>asg' O (q3 (sL [1,2,3,6,7] O) (An 1 C1 O (AJ O (AJ O (Bx call82 (λw hw=>NF x u v hu w (inS hw 2 O lx)) O (asg' O ?_)))))))))
 refine q6 (sL [3,6,7,8] O) (q4 (AJ O (st' (AW (c:=(decide ((-1:Int)<(0:Int)))) O O O) O (oNl' (zF (sL [3,6,7,8,18] O) (zC ?_))))))
 refine zO O (λhc0=>?_) (λhc0=>?_)
 ·replace hc0:=xR hc0
  exact q4 (st' (v:=(aG ([jj,jj,jj]))) (AO (zs:=[jj,jj,jj]) (vs:=[jj,jj,jj]) (pv:=[]) (places:=[(0,1),(1,1),(2,1)]) zeroValue39 underlying39 (λw=>by simp [sizeOf23,sizeOf36,sizeOf37]) O (DY )) O (Aj O sizeOf39 O (asg' O (oNl' (zF (sL [3,6,7,8] O) (zC (zH (zI (BR O (Ah (i:=0) (cs:=[jj,jj,jj]) O O isAgg39 sizeOf39 O) (rd_tmp (v:=(vI 1)) O) (λw hw=>(It hw 1 O)))))))))))
 ·replace hc0:=xQ hc0
  exfalso;omega
theorem XP {ps:List Pt} {zt ss:List Z3} (x:Hy ps zt ss) (h:DA ps.length zt=false) (hl:zt.length<=100000):∀(S:Nat->Prop) (w:World),Ro S w x.rq.ru->Calls prog 45 #[(aG (Jq x.rq.ru))] w (AX w (qa false)):=λS w hh=>by
 have h9:=Lj x.rq Z w (S:=S) (λy hy=>hh y hy)
 rw [show DA x.rs.length zt=false from (by rw [x.len];exact h)] at h9;exact h9
theorem XA {ps:List Pt} {zt ss:List Z3} (x:Hy ps zt ss) (u v:Int) (hz:∀i,BV (BQ ps i)<=1000) (hp:ps.length<=4096) (hl:zt.length<=100000) (w:World) {S:Nat->Prop} (hx:Ro S w x):Calls prog 27 #[(aG (HN x)),(vI u),(vI v)] w (AX w (.tuple #[(qa (dB ps zt u v)),(vN (aN ps.length zt u v))])):=by
 unfold dB aN
 by_cases h:DA ps.length zt=true
 ·rw [if_pos h,if_pos h]
  obtain ⟨ts,rfl,hnb⟩:=GO h
  obtain ⟨y,hy,_,hro⟩:=XQ x
  rw [xv] at hl
  rw [GM]
  have k:=UD y u v hnb hl hp hz w (hro hx)
  rw [hy] at k
  exact k
 ·rw [if_neg h,if_neg h]
  rw [Bool.not_eq_true] at h
  exact RJ x.rq.ru u v (XP x h hl) w (cQ (XS hx))
theorem W_ {ps:List Pt} {zt ss:List Z3} (x:Hy ps zt ss) (u v:Int) (hz:∀i,BV (BQ ps i)<=1000) (hp:ps.length<=4096) (hl:zt.length<=100000) (hs:ss.length<=1000000) (w:World) {S:Nat->Prop} (hx:Ro S w x):Calls prog 29 #[(aG (HN x)),(vI u),(vI v)] w (Ai (X_ (Jx ps zt u v) (IZ ps zt u v) (IY ps zt ss u v) (YB ps zt u v)) S w):=by
 unfold Jx IZ IY YB
 by_cases h:DA ps.length zt=true
 ·rw [if_pos h,if_pos h,if_pos h,if_pos h]
  obtain ⟨ts,rfl,hnb⟩:=GO h
  obtain ⟨y,hy,_,hro⟩:=XQ x
  rw [xv] at hl
  rw [GM]
  have k:=W9 y u v hnb hl hp hs hz w (hro hx)
  rw [hy] at k
  exact k
 ·rw [if_neg h,if_neg h,if_neg h,if_neg h]
  rw [Bool.not_eq_true] at h
  exact UC x.rq.ru u v (XP x h hl) w (cQ (XS hx))
end
end Go.Proofs.YtpolhpjiahbidaaGreatDoor
