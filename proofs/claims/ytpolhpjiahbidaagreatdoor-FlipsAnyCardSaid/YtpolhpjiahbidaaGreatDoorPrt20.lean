import Derived.Test.YtpolhpjiahbidaaGreatDoorPrt19
namespace Go.Proofs.YtpolhpjiahbidaaGreatDoor
open Go Go.RowKit Go.Proofs.Tryz
open Go.Value renaming slice→qz,bool→qa
set_option linter.unusedVariables false
set_option linter.unusedSimpArgs false
section
set_option maxRecDepth 100000
theorem RG {N:Nat} {ts ss:List T3} (x:RM N ts ss) (p:Nat) (w:World) {S:Nat->Prop} (hx:Ro S w x):Calls prog 57 #[(aG (GC x)),(vN p)] w (AX w (qa (decide (p<N)))):=by
 have lx:=Bq (W:=w) hx
 refine AR (args:=[(aG (GC x)),(vN p)]) (L:=[AC x.a.p (x.cs),AC x.b.p (rowsL Am ts),AC x.c.p (x.ds)]) func57 O O (leB O) (C7 hx Ae) (zM (sL [0,1] O) (q4 (BG (cs:=GC x) O λb1=>asg' O (q3 (sL [1,2,4] O) (AJ O (st' (CU (c:=(decide (0<=p))) O O (Qz (a:=0) (b:=p))) O (AJ O ?_)))))))
 refine zg (FM:=[(1,(vN p)),(2,(pP b1 0)),(4,(qa false)),(5,(vN p)),(6,(qa (decide (0<=p)))),(7,(qa (decide (0<=p)))),(13,(qa ((decide (0<=p))&&(decide (p<N)))))]) (LM:=[AU b1 39 (GC x),AC x.a.p (x.cs),AC x.b.p (rowsL Am ts),AC x.c.p (x.ds)]) 6 ?_ ?_
 ·rcases xO (decide (0<=p)) with hg1|hg1
  ·refine zK (k:=7) (u:=qa true) O (by rw [hg1]) ?_
   have hg1':=xR hg1
   exact EV O (Au (v:=(pP b1 0)) O (AA O underlying39 O sizeOf36 O) (Au (v:=(qz x.a.p N x.a.c)) O (AE (i:=0) (v:=(qz x.a.p N x.a.c)) O O Fm.a O) (Au (v:=(vN N)) O (AD O underlying36) (Au (v:=(qa (decide (p<N)))) O (AW (c:=(decide (p<N))) O O (B_ (a:=p) (b:=N))) (st' (v:=(qa (decide (p<N)))) (ex_pick_true O O) O (oNl' (zS Bi (xP _))))))))
  ·refine zK (k:=7) (u:=qa false) O (by rw [hg1]) ?_
   have hg1':=xQ hg1
   exact Aw O (Aw O (Aw O (Aw O (Aw O (st' (v:=(qa false)) (AI O O) O (oNl' (zS Bi (xP _))))))))
 exact asg' O (oNl' (zF (sL [4] O) (zC (zH (ret_one O (rd_tmp (v:=(qa ((decide (0<=p))&&(decide (p<N))))) O) (λw hw=>⟨by simp,hw.out⟩))))))
theorem Sn (t:T3) (a b:Nat) (w:World)  :Calls prog 111 #[(aG (Am t)),(vN a),(vN b)] w (AX w (qa (GU t a b))):=by
 refine AS (args:=[(aG (Am t)),(vN a),(vN b)]) func111 O O (leB O) (zM (sL [0,1,2] O) (q4 (BG (cs:=Am t) O λb1=>asg' O (q3 (sL [1,2,3,6] O) (st' (v:=(pP b1 0)) (AB (j:=0) O O underlying105 sizeOf3 O jY O) O (A_ 0 (vN t.1) BN O (AJ O (st' (A9 (c:=(decide (t.1=a))) O O (MA (a:=t.1) (b:=a))) O (AJ O ?_)))))))))
 refine zg (FM:=[(1,(vN a)),(2,(vN b)),(3,(pP b1 0)),(6,(qa false)),(7,(pP b1 0)),(8,(vN t.1)),(9,(vN a)),(10,(qa (decide (t.1=a)))),(11,(qa (decide (t.1=a)))),(16,(qa ((decide (t.1=a))&&(decide (t.2.1=b)))))]) (LM:=[AU b1 105 (Am t)]) 5 ?_ ?_
 ·rcases xO (decide (t.1=a)) with hg1|hg1
  ·refine zK (k:=11) (u:=qa true) O (by rw [hg1]) ?_
   have hg1':=xR hg1
   exact Au (v:=(pP b1 1)) O (AB (j:=1) O O underlying105 sizeOf3 O jY O) (Au (v:=(vN t.2.1)) O (AE (i:=0) (v:=(vN t.2.1)) O O BN.a O) (EV O (Au (v:=(qa (decide (t.2.1=b)))) O (A9 (c:=(decide (t.2.1=b))) O O (MA (a:=t.2.1) (b:=b))) (st' (v:=(qa (decide (t.2.1=b)))) (ex_pick_true O O) O (oNl' (zS Bi (xP _)))))))
  ·refine zK (k:=11) (u:=qa false) O (by rw [hg1]) ?_
   have hg1':=xQ hg1
   exact Aw O (Aw O (Aw O (Aw O (st' (v:=(qa false)) (AI O O) O (oNl' (zS Bi (xP _)))))))
 refine AJ O ?_
 refine zg (FM:=[(1,(vN a)),(2,(vN b)),(3,(pP b1 0)),(6,(qa false)),(7,(pP b1 0)),(8,(vN t.1)),(9,(vN a)),(10,(qa (decide (t.1=a)))),(11,(qa (decide (t.1=a)))),(16,(qa ((decide (t.1=a))&&(decide (t.2.1=b))))),(17,(qa ((decide (t.1=a))&&(decide (t.2.1=b))))),(28,(qa (((decide (t.1=a))&&(decide (t.2.1=b)))||((decide (t.2.1=a))&&(decide (t.2.2=b))))))]) (LM:=[AU b1 105 (Am t)]) 11 ?_ ?_
 ·rcases xO ((decide (t.1=a))&&(decide (t.2.1=b))) with hg2|hg2
  ·refine zK (k:=17) (u:=qa true) O (by rw [hg2]) ?_
   have hg2':=hg2
   simp only [jK] at hg2'
   exact Aw O (Aw O (Aw O (Aw O (Aw O (yS (Dx O O O) O (leB O) (yS (Dx O O O) O (leB O) (yS (Dx O O O) O (leB O) (yS (Dx O O O) O (leB O) (Aw O (st' (v:=(qa true)) (ex_pick_true O O) O (oNl' (zS EW (xP _)))))))))))))
  ·refine zK (k:=17) (u:=qa false) O (by rw [hg2]) ?_
   have hg2':=hg2
   simp only [jK] at hg2'
   refine Au (v:=(pP b1 1)) O (AB (j:=1) O O underlying105 sizeOf3 O jY O) (Au (v:=(vN t.2.1)) O (AE (i:=0) (v:=(vN t.2.1)) O O BN.a O) (EV O (Au (v:=(qa (decide (t.2.1=a)))) O (A9 (c:=(decide (t.2.1=a))) O O (MA (a:=t.2.1) (b:=a))) (EV O ?_))))
   refine zg (FM:=[(1,(vN a)),(2,(vN b)),(3,(pP b1 0)),(6,(qa false)),(7,(pP b1 0)),(8,(vN t.1)),(9,(vN a)),(10,(qa (decide (t.1=a)))),(11,(qa (decide (t.1=a)))),(16,(qa ((decide (t.1=a))&&(decide (t.2.1=b))))),(17,(qa false)),(18,(pP b1 1)),(19,(vN t.2.1)),(20,(vN a)),(21,(qa (decide (t.2.1=a)))),(22,(qa (decide (t.2.1=a)))),(27,(qa ((decide (t.2.1=a))&&(decide (t.2.2=b)))))]) (LM:=[AU b1 105 (Am t)]) 5 ?_ ?_
   ·rcases xO (decide (t.2.1=a)) with hg3|hg3
    ·refine zK (k:=22) (u:=qa true) O (by rw [hg3]) ?_
     have hg3':=xR hg3
     exact Au (v:=(pP b1 2)) O (AB (j:=2) O O underlying105 sizeOf3 O jY O) (Au (v:=(vN t.2.2)) O (AE (i:=0) (v:=(vN t.2.2)) O O BN.a O) (EV O (Au (v:=(qa (decide (t.2.2=b)))) O (A9 (c:=(decide (t.2.2=b))) O O (MA (a:=t.2.2) (b:=b))) (Au (v:=(qa (decide (t.2.2=b)))) O (ex_pick_true O O) (oNl' (zS I4 (xP _)))))))
    ·refine zK (k:=22) (u:=qa false) O (by rw [hg3]) ?_
     have hg3':=xQ hg3
     exact Aw O (Aw O (Aw O (Aw O (Au (v:=(qa false)) O (AI O O) (oNl' (zS I4 (xP _)))))))
   exact st' (v:=(qa ((decide (t.2.1=a))&&(decide (t.2.2=b))))) (AI O O) O (oNl' (zS EW (xP _)))
 refine AJ O ?_
 refine zg (FM:=[(1,(vN a)),(2,(vN b)),(3,(pP b1 0)),(6,(qa false)),(7,(pP b1 0)),(8,(vN t.1)),(9,(vN a)),(10,(qa (decide (t.1=a)))),(11,(qa (decide (t.1=a)))),(16,(qa ((decide (t.1=a))&&(decide (t.2.1=b))))),(17,(qa ((decide (t.1=a))&&(decide (t.2.1=b))))),(28,(qa (((decide (t.1=a))&&(decide (t.2.1=b)))||((decide (t.2.1=a))&&(decide (t.2.2=b)))))),(29,(qa (((decide (t.1=a))&&(decide (t.2.1=b)))||((decide (t.2.1=a))&&(decide (t.2.2=b)))))),(40,(qa ((((decide (t.1=a))&&(decide (t.2.1=b)))||((decide (t.2.1=a))&&(decide (t.2.2=b))))||((decide (t.2.2=a))&&(decide (t.1=b))))))]) (LM:=[AU b1 105 (Am t)]) 11 ?_ ?_
 ·rcases xO (((decide (t.1=a))&&(decide (t.2.1=b)))||((decide (t.2.1=a))&&(decide (t.2.2=b)))) with hg4|hg4
  ·refine zK (k:=29) (u:=qa true) O (by rw [hg4]) ?_
   have hg4':=hg4
   simp only [jK] at hg4'
   exact Aw O (Aw O (Aw O (Aw O (Aw O (yS (Dx O O O) O (leB O) (yS (Dx O O O) O (leB O) (yS (Dx O O O) O (leB O) (yS (Dx O O O) O (leB O) (Aw O (st' (v:=(qa true)) (ex_pick_true O O) O (oNl' (zS Me (xP _)))))))))))))
  ·refine zK (k:=29) (u:=qa false) O (by rw [hg4]) ?_
   have hg4':=hg4
   simp only [jK] at hg4'
   refine Au (v:=(pP b1 2)) O (AB (j:=2) O O underlying105 sizeOf3 O jY O) (Au (v:=(vN t.2.2)) O (AE (i:=0) (v:=(vN t.2.2)) O O BN.a O) (EV O (Au (v:=(qa (decide (t.2.2=a)))) O (A9 (c:=(decide (t.2.2=a))) O O (MA (a:=t.2.2) (b:=a))) (EV O ?_))))
   refine zg (FM:=[(1,(vN a)),(2,(vN b)),(3,(pP b1 0)),(6,(qa false)),(7,(pP b1 0)),(8,(vN t.1)),(9,(vN a)),(10,(qa (decide (t.1=a)))),(11,(qa (decide (t.1=a)))),(16,(qa ((decide (t.1=a))&&(decide (t.2.1=b))))),(17,(qa ((decide (t.1=a))&&(decide (t.2.1=b))))),(28,(qa (((decide (t.1=a))&&(decide (t.2.1=b)))||((decide (t.2.1=a))&&(decide (t.2.2=b)))))),(29,(qa false)),(30,(pP b1 2)),(31,(vN t.2.2)),(32,(vN a)),(33,(qa (decide (t.2.2=a)))),(34,(qa (decide (t.2.2=a)))),(39,(qa ((decide (t.2.2=a))&&(decide (t.1=b)))))]) (LM:=[AU b1 105 (Am t)]) 5 ?_ ?_
   ·rcases xO (decide (t.2.2=a)) with hg5|hg5
    ·refine zK (k:=34) (u:=qa true) O (by rw [hg5]) ?_
     have hg5':=xR hg5
     exact Au (v:=(pP b1 0)) O (AB (j:=0) O O underlying105 sizeOf3 O jY O) (Au (v:=(vN t.1)) O (AE (i:=0) (v:=(vN t.1)) O O BN.a O) (EV O (Au (v:=(qa (decide (t.1=b)))) O (A9 (c:=(decide (t.1=b))) O O (MA (a:=t.1) (b:=b))) (Au (v:=(qa (decide (t.1=b)))) O (ex_pick_true O O) (oNl' (zS Mf (xP _)))))))
    ·refine zK (k:=34) (u:=qa false) O (by rw [hg5]) ?_
     have hg5':=xQ hg5
     exact Aw O (Aw O (Aw O (Aw O (Au (v:=(qa false)) O (AI O O) (oNl' (zS Mf (xP _)))))))
   exact st' (v:=(qa ((decide (t.2.2=a))&&(decide (t.1=b))))) (AI O O) O (oNl' (zS Me (xP _)))
 exact asg' O (oNl' (zF (sL [6] O) (zC (zH (ret_one O (rd_tmp (v:=(qa ((((decide (t.1=a))&&(decide (t.2.1=b)))||((decide (t.2.1=a))&&(decide (t.2.2=b))))||((decide (t.2.2=a))&&(decide (t.1=b)))))) O) (λw hw=>⟨by first|rfl|simp [GU,Bool.or_assoc],hw.out⟩))))))
theorem Zb {N:Nat} {ts ss:List T3} (x:RM N ts ss) (hnb:Bn N ts=true) (hl:ts.length<=1000000) (hN:N<=1000000) (w:World) {S:Nat->Prop} (hx:Ro S w x):Calls prog 45 #[(aG (GC x))] w (AX w (qa true)):=by
 have lx:=Bq (W:=w) hx
 refine AR (args:=[(aG (GC x))]) (L:=[AC x.a.p (x.cs),AC x.b.p (rowsL Am ts),AC x.c.p (x.ds)]) func45 O O (leB O) (C7 hx Ae) (zM (sL [0] O) (q4 (BG (cs:=GC x) O λb1=>asg' O (q6 (sL [1,2] O) (q4 (asg' O (oNl' (zC (zN ?_)))))))))
 refine zw (tg λ(i:Nat)=>i<=ts.length) (tg λ(i:Nat)=>[(1,(pP b1 0)),(3,(vN i))]) (tg λ(i:Nat)=>[AU b1 39 (GC x),AC x.a.p (x.cs),AC x.b.p (rowsL Am ts),AC x.c.p (x.ds)]) (tg λ(i:Nat)=>ts.length-i) 0 (xu _) (sF O) sr (λi hJ=>?_)
 have hi:=hJ
 refine zf (q4 (AJ O (st' (v:=(pP b1 1)) (AA O underlying39 O sizeOf23 O) O (A_ 0 (qz x.b.p ts.length x.b.c) CQ O (st' (v:=(vN ts.length)) (AD O underlying23) O (st' (AW (c:=(decide (i<ts.length))) O O (B_ (a:=i) (b:=ts.length))) O (oNl' (zF (sL [1,3,9] O) (zC ?_)))))))))
 refine zO O (λhc0=>?_) (λhc0=>?_)
 ·replace hc0:=xR hc0
  obtain ⟨T,hT⟩:∃q,q=ts.getD i (0,0,0):=⟨_,rfl⟩
  obtain ⟨g1,g2,g3⟩:=DZ (Cs hnb hc0)
  obtain ⟨n1,n2,n3⟩:=Wv (Cs hnb hc0)
  rw [<-hT] at g1 g2 g3 n1 n2 n3
  refine zJ (q1 (zN (q4 (st' (v:=(pP b1 1)) (AA O underlying39 O sizeOf23 O) O (A_ 0 (qz x.b.p ts.length x.b.c) CQ O (AJ O (st' (v:=(pP (pB x.b.p) (pO x.b.p+i*3))) (AF (j:=i) O O x.b.ok underlying23 sizeOf105 O Z) O (st' (v:=(aG (Am (ts.getD i jJ)))) (AH (vs:=Am (ts.getD i jJ)) (i:=2) O O (Ao.ne x.b.ok Z) CY (AZ A8 _ _ _ Z) (A8 _)) O (zK (k:=16) (u:=(aG (Am T))) O (by rw [hT]) (al Gu O λb2=>Aj O sizeOf105 O ?_))))))))))
  refine q3 (sL [1,3,4] O) (An 1 C1 O (st' (v:=(pP b2 0)) (AB (j:=0) O O underlying105 sizeOf3 O jY O) O (A_ 0 (vN T.1) BN O (Bx (args:=[(aG (GC x)),(vN T.1)]) (v:=(qa true)) call57 (λw hw=>(by have h9:=RG x T.1 w (inS hw 2 O lx);rw [xr Z] at h9;exact h9)) O (st' (BB (c:=false) O O) O (AJ O (Au (v:=(aG (GC x))) O (Ac (i:=1) (vs:=GC x) O O C1.a C1.s O O) (Au (v:=(pP b2 1)) O (AB (j:=1) O O underlying105 sizeOf3 O jY O) (Au (v:=(vN T.2.1)) O (AE (i:=0) (v:=(vN T.2.1)) O O BN.a O) (zj (v:=(qa true)) (AN O) (Ak (args:=[(aG (GC x)),(vN T.2.1)]) O O call57) (λw hw=>(by have h9:=RG x T.2.1 w (inS hw 2 O lx);rw [xr Z] at h9;exact h9)) O (leB O) (Au (v:=(qa false)) O (BB (c:=false) O O) ?_)))))))))))
  refine st' (v:=(qa false)) (AI O O) O (AJ O (Au (v:=(aG (GC x))) O (Ac (i:=1) (vs:=GC x) O O C1.a C1.s O O) (Au (v:=(pP b2 2)) O (AB (j:=2) O O underlying105 sizeOf3 O jY O) (Au (v:=(vN T.2.2)) O (AE (i:=0) (v:=(vN T.2.2)) O O BN.a O) (zj (v:=(qa true)) (AN O) (Ak (args:=[(aG (GC x)),(vN T.2.2)]) O O call57) (λw hw=>(by have h9:=RG x T.2.2 w (inS hw 2 O lx);rw [xr Z] at h9;exact h9)) O (leB O) (Au (v:=(qa false)) O (BB (c:=false) O O) (st' (v:=(qa false)) (AI O O) O (AJ O (Au (v:=(pP b2 0)) O (AB (j:=0) O O underlying105 sizeOf3 O jY O) (Au (v:=(vN T.1)) O (AE (i:=0) (v:=(vN T.1)) O O BN.a O) (Au (v:=(pP b2 1)) O (AB (j:=1) O O underlying105 sizeOf3 O jY O) ?_)))))))))))
  refine Au (v:=(vN T.2.1)) O (AE (i:=0) (v:=(vN T.2.1)) O O BN.a O) (Au (v:=(qa false)) O (A9 (c:=false) O O (xq Z)) (st' (v:=(qa false)) (AI O O) O (AJ O (Au (v:=(pP b2 0)) O (AB (j:=0) O O underlying105 sizeOf3 O jY O) (Au (v:=(vN T.1)) O (AE (i:=0) (v:=(vN T.1)) O O BN.a O) (Au (v:=(pP b2 2)) O (AB (j:=2) O O underlying105 sizeOf3 O jY O) (Au (v:=(vN T.2.2)) O (AE (i:=0) (v:=(vN T.2.2)) O O BN.a O) (Au (v:=(qa false)) O (A9 (c:=false) O O (xq Z)) (st' (v:=(qa false)) (AI O O) O (AJ O (Au (v:=(pP b2 1)) O (AB (j:=1) O O underlying105 sizeOf3 O jY O) ?_)))))))))))
  refine Au (v:=(vN T.2.1)) O (AE (i:=0) (v:=(vN T.2.1)) O O BN.a O) (Au (v:=(pP b2 2)) O (AB (j:=2) O O underlying105 sizeOf3 O jY O) (Au (v:=(vN T.2.2)) O (AE (i:=0) (v:=(vN T.2.2)) O O BN.a O) (Au (v:=(qa false)) O (A9 (c:=false) O O (xq Z)) (st' (v:=(qa false)) (AI O O) O (oNl' (zF (sL [1,3,4,56] O) (zC (zX O (zJ (zP (zC ?_)))))))))))
  exact zQ (AJ O (st' (AV (c:=((i+1:Nat):Int)) O O (AY (a:=i) (b:=1) Z)) O (asg' O (oNl' (zF (sL [1,3,4] O) (zm (i+1) Z Z (sF O) (sl sr)))))))
 ·replace hc0:=xQ hc0
  exact zY (zR (zh (zV (q2 (asg' O (oNl' (zC (zH (ret_one O (rd_tmp (v:=(qa true)) O) (λw hw=>⟨rfl,hw.out⟩))))))))))
end
section
set_option maxRecDepth 100000
theorem JT (p:Int) (n:Nat) (w:World)  :Calls prog 148 #[(vI p),(vN n)] w (AX w (qa (BL n p))):=by
 refine AS (args:=[(vI p),(vN n)]) func148 O O (leB O) (zM (sL [0,1] O) (q4 (asg' O (oNl' (q2 (AJ O (st' (CU (c:=(decide ((0:Int)<=p))) O O O) O (AJ O ?_))))))))
 refine zg (FM:=[(0,(vI p)),(1,(vN n)),(4,(qa false)),(5,(vI p)),(6,(qa (decide ((0:Int)<=p)))),(7,(qa (decide ((0:Int)<=p)))),(11,(qa ((decide ((0:Int)<=p))&&(decide (p<((n:Nat):Int))))))]) (LM:=[]) 4 ?_ ?_
 ·rcases xO (decide ((0:Int)<=p)) with hg1|hg1
  ·refine zK (k:=7) (u:=qa true) O (by rw [hg1]) ?_
   have hg1':=xR hg1
   exact EV O (EV O (Au (v:=(qa (decide (p<((n:Nat):Int))))) O (AW (c:=(decide (p<((n:Nat):Int)))) O O O) (st' (v:=(qa (decide (p<((n:Nat):Int))))) (ex_pick_true O O) O (oNl' (zS Bi (xP _))))))
  ·refine zK (k:=7) (u:=qa false) O (by rw [hg1]) ?_
   have hg1':=xQ hg1
   exact Aw O (Aw O (Aw O (st' (v:=(qa false)) (AI O O) O (oNl' (zS Bi (xP _))))))
 exact asg' O (oNl' (zF (sL [4] O) (zC (zH (ret_one O (rd_tmp (v:=(qa ((decide ((0:Int)<=p))&&(decide (p<((n:Nat):Int)))))) O) (λw hw=>⟨by unfold BL;first|rfl|simp,hw.out⟩))))))
theorem Tv (t:Z3) (n:Nat) (bo:BX [vN n]) (w:World) {S:Nat->Prop} (hbo:Ro S w bo):Calls prog 174 #[(aG (Af t)),(pP bo.b 0)] w (AX w (qa (!NA n t))):=by
 have lbo:=Bq (W:=w) hbo
 refine AR (args:=[(aG (Af t)),(pP bo.b 0)]) (L:=[AC (some ⟨bo.b,0,none⟩) ([(vN n)])]) func174 O O (leB O) (C7 hbo Ae) (zM (sL [0,1] O) (q4 (BG (cs:=Af t) O λb1=>asg' O (q3 (sL [1,2,3] O) (st' (v:=(pP b1 0)) (AB (j:=0) O O underlying105 sizeOf3 O jY O) O (A_ 0 (vI t.1) BN O (st' (Ab (q:=some ⟨bo.b,0,none⟩) (v:=(vN n)) (off:=0) (i:=1) O O (λe=>by cases e) BN O) O (ck' call148 (JT t.1 n) O (st' (BB (c:=(!(BL n t.1))) O O) O (AJ O ?_))))))))))
 refine zg (FM:=[(1,(pP bo.b 0)),(2,(pP b1 0)),(3,(qa false)),(4,(pP b1 0)),(5,(vI t.1)),(6,(vN n)),(7,(qa (BL n t.1))),(8,(qa (!(BL n t.1)))),(9,(qa (!(BL n t.1)))),(15,(qa ((!(BL n t.1))||(!(BL n t.2.1)))))]) (LM:=[AU b1 105 (Af t),AC (some ⟨bo.b,0,none⟩) ([(vN n)])]) 6 ?_ ?_
 ·rcases xO (!(BL n t.1)) with hg1|hg1
  ·refine zK (k:=9) (u:=qa true) O (by rw [hg1]) ?_
   have hg1':=hg1
   simp only [jK] at hg1'
   exact Aw O (Aw O (Aw O (Aw O (Aw O (st' (v:=(qa true)) (ex_pick_true O O) O (oNl' (zS Bi (xP _))))))))
  ·refine zK (k:=9) (u:=qa false) O (by rw [hg1]) ?_
   have hg1':=hg1
   simp only [jK] at hg1'
   exact Au (v:=(pP b1 1)) O (AB (j:=1) O O underlying105 sizeOf3 O jY O) (Au (v:=(vI t.2.1)) O (AE (i:=0) (v:=(vI t.2.1)) O O BN.a O) (Au (v:=(vN n)) O (Ab (q:=some ⟨bo.b,0,none⟩) (v:=(vN n)) (off:=0) (i:=1) O O (λe=>by cases e) BN O) (zj (v:=(qa (BL n t.2.1))) (AN O) (Ak (args:=[(vI t.2.1),(vN n)]) O O call148) (λw hw=>JT t.2.1 n w) O (leB O) (Au (v:=(qa (!(BL n t.2.1)))) O (BB (c:=(!(BL n t.2.1))) O O) (st' (v:=(qa (!(BL n t.2.1)))) (AI O O) O (oNl' (zS Bi (xP _))))))))
 refine AJ O ?_
 refine zg (FM:=[(1,(pP bo.b 0)),(2,(pP b1 0)),(3,(qa false)),(4,(pP b1 0)),(5,(vI t.1)),(6,(vN n)),(7,(qa (BL n t.1))),(8,(qa (!(BL n t.1)))),(9,(qa (!(BL n t.1)))),(15,(qa ((!(BL n t.1))||(!(BL n t.2.1))))),(16,(qa ((!(BL n t.1))||(!(BL n t.2.1))))),(22,(qa (((!(BL n t.1))||(!(BL n t.2.1)))||(!(BL n t.2.2)))))]) (LM:=[AU b1 105 (Af t),AC (some ⟨bo.b,0,none⟩) ([(vN n)])]) 6 ?_ ?_
 ·rcases xO ((!(BL n t.1))||(!(BL n t.2.1))) with hg2|hg2
  ·refine zK (k:=16) (u:=qa true) O (by rw [hg2]) ?_
   have hg2':=hg2
   simp only [jK] at hg2'
   exact Aw O (Aw O (Aw O (Aw O (Aw O (st' (v:=(qa true)) (ex_pick_true O O) O (oNl' (zS EW (xP _))))))))
  ·refine zK (k:=16) (u:=qa false) O (by rw [hg2]) ?_
   have hg2':=hg2
   simp only [jK] at hg2'
   exact Au (v:=(pP b1 2)) O (AB (j:=2) O O underlying105 sizeOf3 O jY O) (Au (v:=(vI t.2.2)) O (AE (i:=0) (v:=(vI t.2.2)) O O BN.a O) (Au (v:=(vN n)) O (Ab (q:=some ⟨bo.b,0,none⟩) (v:=(vN n)) (off:=0) (i:=1) O O (λe=>by cases e) BN O) (zj (v:=(qa (BL n t.2.2))) (AN O) (Ak (args:=[(vI t.2.2),(vN n)]) O O call148) (λw hw=>JT t.2.2 n w) O (leB O) (Au (v:=(qa (!(BL n t.2.2)))) O (BB (c:=(!(BL n t.2.2))) O O) (st' (v:=(qa (!(BL n t.2.2)))) (AI O O) O (oNl' (zS EW (xP _))))))))
 refine AJ O ?_
 refine zg (FM:=[(1,(pP bo.b 0)),(2,(pP b1 0)),(3,(qa false)),(4,(pP b1 0)),(5,(vI t.1)),(6,(vN n)),(7,(qa (BL n t.1))),(8,(qa (!(BL n t.1)))),(9,(qa (!(BL n t.1)))),(15,(qa ((!(BL n t.1))||(!(BL n t.2.1))))),(16,(qa ((!(BL n t.1))||(!(BL n t.2.1))))),(22,(qa (((!(BL n t.1))||(!(BL n t.2.1)))||(!(BL n t.2.2))))),(23,(qa (((!(BL n t.1))||(!(BL n t.2.1)))||(!(BL n t.2.2))))),(29,(qa ((((!(BL n t.1))||(!(BL n t.2.1)))||(!(BL n t.2.2)))||(decide (t.1=t.2.1)))))]) (LM:=[AU b1 105 (Af t),AC (some ⟨bo.b,0,none⟩) ([(vN n)])]) 6 ?_ ?_
 ·rcases xO (((!(BL n t.1))||(!(BL n t.2.1)))||(!(BL n t.2.2))) with hg3|hg3
  ·refine zK (k:=23) (u:=qa true) O (by rw [hg3]) ?_
   have hg3':=hg3
   simp only [jK] at hg3'
   exact Aw O (Aw O (Aw O (Aw O (Aw O (st' (v:=(qa true)) (ex_pick_true O O) O (oNl' (zS I4 (xP _))))))))
  ·refine zK (k:=23) (u:=qa false) O (by rw [hg3]) ?_
   have hg3':=hg3
   simp only [jK] at hg3'
   exact Au (v:=(pP b1 0)) O (AB (j:=0) O O underlying105 sizeOf3 O jY O) (Au (v:=(vI t.1)) O (AE (i:=0) (v:=(vI t.1)) O O BN.a O) (Au (v:=(pP b1 1)) O (AB (j:=1) O O underlying105 sizeOf3 O jY O) (Au (v:=(vI t.2.1)) O (AE (i:=0) (v:=(vI t.2.1)) O O BN.a O) (Au (v:=(qa (decide (t.1=t.2.1)))) O (A9 (c:=(decide (t.1=t.2.1))) O O O) (st' (v:=(qa (decide (t.1=t.2.1)))) (AI O O) O (oNl' (zS I4 (xP _))))))))
 refine AJ O ?_
 refine zg (FM:=[(1,(pP bo.b 0)),(2,(pP b1 0)),(3,(qa false)),(4,(pP b1 0)),(5,(vI t.1)),(6,(vN n)),(7,(qa (BL n t.1))),(8,(qa (!(BL n t.1)))),(9,(qa (!(BL n t.1)))),(15,(qa ((!(BL n t.1))||(!(BL n t.2.1))))),(16,(qa ((!(BL n t.1))||(!(BL n t.2.1))))),(22,(qa (((!(BL n t.1))||(!(BL n t.2.1)))||(!(BL n t.2.2))))),(23,(qa (((!(BL n t.1))||(!(BL n t.2.1)))||(!(BL n t.2.2))))),(29,(qa ((((!(BL n t.1))||(!(BL n t.2.1)))||(!(BL n t.2.2)))||(decide (t.1=t.2.1))))),(30,(qa ((((!(BL n t.1))||(!(BL n t.2.1)))||(!(BL n t.2.2)))||(decide (t.1=t.2.1))))),(36,(qa (((((!(BL n t.1))||(!(BL n t.2.1)))||(!(BL n t.2.2)))||(decide (t.1=t.2.1)))||(decide (t.2.1=t.2.2)))))]) (LM:=[AU b1 105 (Af t),AC (some ⟨bo.b,0,none⟩) ([(vN n)])]) 6 ?_ ?_
 ·rcases xO ((((!(BL n t.1))||(!(BL n t.2.1)))||(!(BL n t.2.2)))||(decide (t.1=t.2.1))) with hg4|hg4
  ·refine zK (k:=30) (u:=qa true) O (by rw [hg4]) ?_
   have hg4':=hg4
   simp only [jK] at hg4'
   exact Aw O (Aw O (Aw O (Aw O (Aw O (st' (v:=(qa true)) (ex_pick_true O O) O (oNl' (zS Me (xP _))))))))
  ·refine zK (k:=30) (u:=qa false) O (by rw [hg4]) ?_
   have hg4':=hg4
   simp only [jK] at hg4'
   exact Au (v:=(pP b1 1)) O (AB (j:=1) O O underlying105 sizeOf3 O jY O) (Au (v:=(vI t.2.1)) O (AE (i:=0) (v:=(vI t.2.1)) O O BN.a O) (Au (v:=(pP b1 2)) O (AB (j:=2) O O underlying105 sizeOf3 O jY O) (Au (v:=(vI t.2.2)) O (AE (i:=0) (v:=(vI t.2.2)) O O BN.a O) (Au (v:=(qa (decide (t.2.1=t.2.2)))) O (A9 (c:=(decide (t.2.1=t.2.2))) O O O) (st' (v:=(qa (decide (t.2.1=t.2.2)))) (AI O O) O (oNl' (zS Me (xP _))))))))
 refine AJ O ?_
 refine zg (FM:=[(1,(pP bo.b 0)),(2,(pP b1 0)),(3,(qa false)),(4,(pP b1 0)),(5,(vI t.1)),(6,(vN n)),(7,(qa (BL n t.1))),(8,(qa (!(BL n t.1)))),(9,(qa (!(BL n t.1)))),(15,(qa ((!(BL n t.1))||(!(BL n t.2.1))))),(16,(qa ((!(BL n t.1))||(!(BL n t.2.1))))),(22,(qa (((!(BL n t.1))||(!(BL n t.2.1)))||(!(BL n t.2.2))))),(23,(qa (((!(BL n t.1))||(!(BL n t.2.1)))||(!(BL n t.2.2))))),(29,(qa ((((!(BL n t.1))||(!(BL n t.2.1)))||(!(BL n t.2.2)))||(decide (t.1=t.2.1))))),(30,(qa ((((!(BL n t.1))||(!(BL n t.2.1)))||(!(BL n t.2.2)))||(decide (t.1=t.2.1))))),(36,(qa (((((!(BL n t.1))||(!(BL n t.2.1)))||(!(BL n t.2.2)))||(decide (t.1=t.2.1)))||(decide (t.2.1=t.2.2))))),(37,(qa (((((!(BL n t.1))||(!(BL n t.2.1)))||(!(BL n t.2.2)))||(decide (t.1=t.2.1)))||(decide (t.2.1=t.2.2))))),(43,(qa ((((((!(BL n t.1))||(!(BL n t.2.1)))||(!(BL n t.2.2)))||(decide (t.1=t.2.1)))||(decide (t.2.1=t.2.2)))||(decide (t.2.2=t.1)))))]) (LM:=[AU b1 105 (Af t),AC (some ⟨bo.b,0,none⟩) ([(vN n)])]) 6 ?_ ?_
 ·rcases xO (((((!(BL n t.1))||(!(BL n t.2.1)))||(!(BL n t.2.2)))||(decide (t.1=t.2.1)))||(decide (t.2.1=t.2.2))) with hg5|hg5
  ·refine zK (k:=37) (u:=qa true) O (by rw [hg5]) ?_
   have hg5':=hg5
   simp only [jK] at hg5'
   exact Aw O (Aw O (Aw O (Aw O (Aw O (st' (v:=(qa true)) (ex_pick_true O O) O (oNl' (zS Mf (xP _))))))))
  ·refine zK (k:=37) (u:=qa false) O (by rw [hg5]) ?_
   have hg5':=hg5
   simp only [jK] at hg5'
   exact Au (v:=(pP b1 2)) O (AB (j:=2) O O underlying105 sizeOf3 O jY O) (Au (v:=(vI t.2.2)) O (AE (i:=0) (v:=(vI t.2.2)) O O BN.a O) (Au (v:=(pP b1 0)) O (AB (j:=0) O O underlying105 sizeOf3 O jY O) (Au (v:=(vI t.1)) O (AE (i:=0) (v:=(vI t.1)) O O BN.a O) (Au (v:=(qa (decide (t.2.2=t.1)))) O (A9 (c:=(decide (t.2.2=t.1))) O O O) (st' (v:=(qa (decide (t.2.2=t.1)))) (AI O O) O (oNl' (zS Mf (xP _))))))))
 exact asg' O (oNl' (zF (sL [3] O) (zC (zH (ret_one O (rd_tmp (v:=(qa ((((((!(BL n t.1))||(!(BL n t.2.1)))||(!(BL n t.2.2)))||(decide (t.1=t.2.1)))||(decide (t.2.1=t.2.2)))||(decide (t.2.2=t.1))))) O) (λw hw=>⟨by unfold NA;generalize BL n t.1=q1;generalize BL n t.2.1=q2;generalize BL n t.2.2=q3;generalize decide (t.1=t.2.1)=q4;generalize decide (t.2.1=t.2.2)=q5;generalize decide (t.2.2=t.1)=q6;cases q1<;>cases q2<;>cases q3<;>cases q4<;>cases q5<;>cases q6<;>rfl,hw.out⟩))))))
theorem Y0 (n:Nat) (bo:BX [vN n]) (ts:List Z3) (x:RX (rowsL Af ts) ts.length) (hl:ts.length<4611686018427387904) (w:World) {S:Nat->Prop} (hbo:Ro S w bo) (hx:Ro S w x):Calls prog 218 #[(qz x.p ts.length x.c),(Value.func (.func 174) #[] #[(pP bo.b 0)])] w (AX w (vI (idxZ n ts 0))):=by
 have lbo:=Bq (W:=w) hbo
 have lx:=Bq (W:=w) hx
 refine AR (args:=[(qz x.p ts.length x.c),(Value.func (.func 174) #[] #[(pP bo.b 0)])]) (L:=[AC (some ⟨bo.b,0,none⟩) ([(vN n)]),AC x.p (rowsL Af ts)]) func218 O O (leB O) (C7 hbo (C7 hx Ae)) (zM (sL [0,1] O) (q4 (asg' O (oNl' (q1 (q4 (AJ O (st' (v:=(vN ts.length)) (AD O underlying23) O (AJ O (oNl' (zF (sL [0,1,4,7,8] O) ?_)))))))))))
 refine zC (zN ?_)
 refine zw (tg λ(j:Nat)=>j<=ts.length/\idxZ n ts 0=idxZ n (ts.drop j) j) (tg λ(j:Nat)=>[(0,(qz x.p ts.length x.c)),(1,(Value.func (.func 174) #[] #[(pP bo.b 0)])),(7,(vN ts.length)),(8,(vN j))]) (tg λ(j:Nat)=>[AC (some ⟨bo.b,0,none⟩) ([(vN n)]),AC x.p (rowsL Af ts)]) (tg λ(j:Nat)=>ts.length-j) 0 (⟨xu _,rfl⟩) (sF O) sr (λj hJ=>?_)
 obtain ⟨hj,he⟩:=hJ
 refine q4 (st' (AW (c:=(decide (j<ts.length))) O O (B_ (a:=j) (b:=ts.length))) O (oNl' (q1 ?_)))
 refine zO O (λhc0=>?_) (λhc0=>?_)
 ·replace hc0:=xR hc0
  refine zJ (q1 (zN (q4 (AJ O (asg' O (q3 (sL [0,1,7,8,5] O) (AJ O (AJ O (AJ O (st' (v:=(pP (pB x.p) (pO x.p+j*3))) (AF (j:=j) O O x.ok underlying23 sizeOf105 O Z) O (st' (v:=(aG (Af (ts.getD j ((0,0,0):Z3))))) (AH (vs:=Af (ts.getD j ((0,0,0):Z3))) (i:=1) O O (Ao.ne x.ok Z) CY (AZ BF _ _ _ Z) (BF _)) O ?_)))))))))))
  refine zj (v:=(qa (!NA n (ts.getD j ((0,0,0):Z3))))) (AM O) (ER (args:=[(aG (Af (ts.getD j ((0,0,0):Z3))))]) (caps:=[(pP bo.b 0)]) (all:=[(aG (Af (ts.getD j ((0,0,0):Z3)))),(pP bo.b 0)]) O O O call174) (λw hw=>Tv (ts.getD j ((0,0,0):Z3)) n bo w (inS hw 0 O lbo)) O (leB O) (oNl' (zF (sL [0,1,7,8,5,16] O) (zC ?_)))
  refine zO O (λhc1=>?_) (λhc1=>?_)
  ·simp only [jK] at hc1
   have hfin:=he.trans (WC Z (by simpa using hc1))
   exact q4 (AJ O (asg' O (oNl' (zF (sL [0,1,7,8,5,4] O) (zC (zH (zU (zI (zr (zU (zI (ret_one O (rd_tmp (v:=(vN j)) O) (λw hw=>⟨by rw [hfin],hw.out⟩)))))))))))))
  ·simp only [jK] at hc1
   exact zJ (zP (zC (zQ (st' (AV (c:=((j+1:Nat):Int)) O O (AY (a:=j) (b:=1) Z)) O (AJ O (oNl' (zF (sL [0,1,7,8,5] O) (zm (j+1) (⟨Z,he.trans (Tc Z (by simpa using hc1))⟩) Z (sF O) sr))))))))
 ·replace hc0:=xQ hc0
  have hfin:=he.trans (WB hc0)
  exact zY (zR (zh (zV (q2 (asg' O (oNl' (zC (zH (ret_one O (rd_tmp (v:=(vI (-1:Int))) O) (λw hw=>⟨by rw [hfin],hw.out⟩))))))))))
theorem Vh (n:Nat) (bo:BX [vN n]) (ts:List Z3) (x:RX (rowsL Af ts) ts.length) (hl:ts.length<4611686018427387904) (w:World) {S:Nat->Prop} (hbo:Ro S w bo) (hx:Ro S w x):Calls prog 173 #[(qz x.p ts.length x.c),(Value.func (.func 174) #[] #[(pP bo.b 0)])] w (AX w (qa (!DA n ts))):=by
 have lbo:=Bq (W:=w) hbo
 have lx:=Bq (W:=w) hx
 refine AR (args:=[(qz x.p ts.length x.c),(Value.func (.func 174) #[] #[(pP bo.b 0)])]) (L:=[AC (some ⟨bo.b,0,none⟩) ([(vN n)]),AC x.p (rowsL Af ts)]) func173 O O (leB O) (C7 hbo (C7 hx Ae)) (zM (sL [0,1] O) (q4 (asg' O (oNl' (q2 (AJ O (AJ O (Bx call218 (λw hw=>Y0 n bo ts x hl w (inS hw 0 O lbo) (inS hw 1 O lx)) O (st' (CU (c:=(!DA n ts)) O O (M5 n ts 0)) O (asg' O (oNl' ?_)))))))))))
 exact zF (sL [4] O) (zC (zH (ret_one O (rd_tmp (v:=(qa (!DA n ts))) O) (λw hw=>⟨rfl,hw.out⟩))))
theorem Ws (n:Nat) (ts:List Z3) (x:RX (rowsL Af ts) ts.length) (hl:ts.length<4611686018427387904) (w:World) {S:Nat->Prop} (hx:Ro S w x):Calls prog 110 #[(qz x.p ts.length x.c),(vN n)] w (AX w (qa (DA n ts))):=by
 have lx:=Bq (W:=w) hx
 refine AR (args:=[(qz x.p ts.length x.c),(vN n)]) (L:=[AC x.p (rowsL Af ts)]) func110 O O (leB O) (C7 hx Ae) (zM (sL [0,1] O) (q4 (BG (cs:=[(vN n)]) O λb1=>yV 0 O O λhnb1=>asg' O (q3 (sL [0,3,4] O) (AJ O (st' (v:=(Value.func (.func 174) #[] #[(pP b1 0)])) (ED (vs:=[]) (us:=[(pP b1 0)]) O O) O (Bx call173 (λw hw=>Vh n ⟨b1⟩ ts x hl w (WD (x:=(⟨b1⟩:BX [vN n])) hw 0 O hnb1) (inS hw 1 O lx)) O (st' (BB (c:=(!(!DA n ts))) O O) O (asg' O ?_)))))))))
 exact oNl' (zF (sL [4] O) (zC (zH (ret_one O (rd_tmp (v:=(qa (!(!DA n ts)))) O) (λw hw=>⟨by simp,hw.out⟩)))))
theorem Kf {N K:Nat} {zs:List Z3} (x:RQ N K zs) (hl:zs.length<4611686018427387904) (w:World) {S:Nat->Prop} (hx:Ro S w x):Calls prog 43 #[(aG (IK x))] w (AX w (qa (DA N zs))):=by
 have lx:=Bq (W:=w) hx
 refine AR (args:=[(aG (IK x))]) (L:=[AC x.a.p (x.cs),AC x.b.p (rowsL Af zs),AC x.c.p (x.ds)]) func43 O O (leB O) (C7 hx Ae) (zM (sL [0] O) (q4 (BG (cs:=IK x) O λb1=>asg' O (q3 (sL [1,2] O) (st' (v:=(pP b1 1)) (AA O underlying30 O sizeOf23 O) O (A_ 0 (qz x.b.p zs.length x.b.c) CQ O (st' (v:=(pP b1 0)) (AA O underlying30 O sizeOf28 O) O (A_ 0 (qz x.a.p N x.a.c) DS O (st' (v:=(vN N)) (AD O underlying28) O (Bx call110 (λw hw=>Ws N zs x.b hl w (f5 (inS hw 1 O lx))) O ?_))))))))))
 exact asg' O (oNl' (zF (sL [2] O) (zC (zH (ret_one O (rd_tmp (v:=(qa (DA N zs))) O) (λw hw=>⟨rfl,hw.out⟩))))))
theorem OA {N K:Nat} {zs:List Z3} (x:RQ N K zs) (p:Int) (w:World) {S:Nat->Prop} (hx:Ro S w x):Calls prog 57 #[(aG (IK x)),(vI p)] w (AX w (qa (BL N p))):=by
 have lx:=Bq (W:=w) hx
 refine AR (args:=[(aG (IK x)),(vI p)]) (L:=[AC x.a.p (x.cs),AC x.b.p (rowsL Af zs),AC x.c.p (x.ds)]) func57 O O (leB O) (C7 hx Ae) (zM (sL [0,1] O) (q4 (BG (cs:=IK x) O λb1=>asg' O (q3 (sL [1,2,4] O) (AJ O (st' (CU (c:=(decide ((0:Int)<=p))) O O O) O (AJ O ?_)))))))
 refine zg (FM:=[(1,(vI p)),(2,(pP b1 0)),(4,(qa false)),(5,(vI p)),(6,(qa (decide ((0:Int)<=p)))),(7,(qa (decide ((0:Int)<=p)))),(13,(qa ((decide ((0:Int)<=p))&&(decide (p<((N:Nat):Int))))))]) (LM:=[AU b1 39 (IK x),AC x.a.p (x.cs),AC x.b.p (rowsL Af zs),AC x.c.p (x.ds)]) 6 ?_ ?_
 ·rcases xO (decide ((0:Int)<=p)) with hg1|hg1
  ·refine zK (k:=7) (u:=qa true) O (by rw [hg1]) ?_
   have hg1':=xR hg1
   exact EV O (Au (v:=(pP b1 0)) O (AA O underlying39 O sizeOf36 O) (Au (v:=(qz x.a.p N x.a.c)) O (AE (i:=0) (v:=(qz x.a.p N x.a.c)) O O Fm.a O) (Au (v:=(vN N)) O (AD O underlying36) (Au (v:=(qa (decide (p<((N:Nat):Int))))) O (AW (c:=(decide (p<((N:Nat):Int)))) O O O) (st' (v:=(qa (decide (p<((N:Nat):Int))))) (ex_pick_true O O) O (oNl' (zS Bi (xP _))))))))
  ·refine zK (k:=7) (u:=qa false) O (by rw [hg1]) ?_
   have hg1':=xQ hg1
   exact Aw O (Aw O (Aw O (Aw O (Aw O (st' (v:=(qa false)) (AI O O) O (oNl' (zS Bi (xP _))))))))
 exact asg' O (oNl' (zF (sL [4] O) (zC (zH (ret_one O (rd_tmp (v:=(qa ((decide ((0:Int)<=p))&&(decide (p<((N:Nat):Int)))))) O) (λw hw=>⟨by unfold BL;first|rfl|simp,hw.out⟩))))))
set_option maxHeartbeats 1000000 in
theorem Lj {N K:Nat} {zs:List Z3} (x:RQ N K zs) (hl:zs.length<=1000000) (w:World) {S:Nat->Prop} (hx:Ro S w x):Calls prog 45 #[(aG (IK x))] w (AX w (qa (DA N zs))):=by
 have lx:=Bq (W:=w) hx
 refine AR (args:=[(aG (IK x))]) (L:=[AC x.a.p (x.cs),AC x.b.p (rowsL Af zs),AC x.c.p (x.ds)]) func45 O O (leB O) (C7 hx Ae) (zM (sL [0] O) (q4 (BG (cs:=IK x) O λb1=>asg' O (q6 (sL [1,2] O) (q4 (asg' O (oNl' (zC (zN ?_)))))))))
 refine zw (tg λ(i:Nat)=>i<=zs.length/\∀j,j<i->NA N (zs.getD j (0,0,0))=true) (tg λ(i:Nat)=>[(1,(pP b1 0)),(3,(vN i))]) (tg λ(i:Nat)=>[AU b1 39 (IK x),AC x.a.p (x.cs),AC x.b.p (rowsL Af zs),AC x.c.p (x.ds)]) (tg λ(i:Nat)=>zs.length-i) 0 (⟨xu _,λj h=>absurd h (Nat.not_lt_zero _)⟩) (sF O) sr (λi hJ=>?_)
 obtain ⟨hi,hok⟩:=hJ
 refine zf (q4 (AJ O (st' (v:=(pP b1 1)) (AA O underlying39 O sizeOf23 O) O (A_ 0 (qz x.b.p zs.length x.b.c) CQ O (st' (v:=(vN zs.length)) (AD O underlying23) O (st' (AW (c:=(decide (i<zs.length))) O O (B_ (a:=i) (b:=zs.length))) O (oNl' (zF (sL [1,3,9] O) (zC ?_)))))))))
 refine zO O (λhc0=>?_) (λhc0=>?_)
 ·replace hc0:=xR hc0
  obtain ⟨T,hT⟩:∃q,q=zs.getD i (0,0,0):=⟨_,rfl⟩
  refine zJ (q1 (zN (q4 (st' (v:=(pP b1 1)) (AA O underlying39 O sizeOf23 O) O (A_ 0 (qz x.b.p zs.length x.b.c) CQ O (AJ O (st' (v:=(pP (pB x.b.p) (pO x.b.p+i*3))) (AF (j:=i) O O x.b.ok underlying23 sizeOf105 O Z) O (st' (v:=(aG (Af (zs.getD i ((0,0,0):Z3))))) (AH (vs:=Af (zs.getD i ((0,0,0):Z3))) (i:=2) O O (Ao.ne x.b.ok Z) CY (AZ BF _ _ _ Z) (BF _)) O (zK (k:=16) (u:=(aG (Af T))) O (by rw [hT]) (al Gu O λb2=>Aj O sizeOf105 O ?_))))))))))
  refine q3 (sL [1,3,4] O) (An 1 C1 O (st' (v:=(pP b2 0)) (AB (j:=0) O O underlying105 sizeOf3 O jY O) O (A_ 0 (vI T.1) BN O (Bx call57 (λw hw=>OA x T.1 w (inS hw 2 O lx)) O (st' (BB (c:=(!(BL N T.1))) O O) O (AJ O ?_))))))
  refine zg (FM:=[(1,(pP b1 0)),(3,(vN i)),(4,(pP b2 0)),(17,(aG (IK x))),(18,(pP b2 0)),(19,(vI T.1)),(20,(qa (BL N T.1))),(21,(qa (!(BL N T.1)))),(22,(qa (!(BL N T.1)))),(28,(qa ((!(BL N T.1))||(!(BL N T.2.1)))))]) (LM:=[AU b2 105 (Af T),AU b1 39 (IK x),AC x.a.p (x.cs),AC x.b.p (rowsL Af zs),AC x.c.p (x.ds)]) 6 ?_ ?_
  ·rcases xO (!(BL N T.1)) with hg1|hg1
   ·refine zK (k:=22) (u:=qa true) O (by rw [hg1]) ?_
    have hg1':=hg1
    simp only [jK] at hg1'
    exact Aw O (Aw O (Aw O (Aw O (Aw O (st' (v:=(qa true)) (ex_pick_true O O) O (oNl' (zS Bi (xP _))))))))
   ·refine zK (k:=22) (u:=qa false) O (by rw [hg1]) ?_
    have hg1':=hg1
    simp only [jK] at hg1'
    exact Au (v:=(aG (IK x))) O (Ac (i:=1) (vs:=IK x) O O C1.a C1.s O O) (Au (v:=(pP b2 1)) O (AB (j:=1) O O underlying105 sizeOf3 O jY O) (Au (v:=(vI T.2.1)) O (AE (i:=0) (v:=(vI T.2.1)) O O BN.a O) (zj (v:=(qa (BL N T.2.1))) (AN O) (Ak (args:=[(aG (IK x)),(vI T.2.1)]) O O call57) (λw hw=>OA x T.2.1 w (inS hw 2 O lx)) O (leB O) (Au (v:=(qa (!(BL N T.2.1)))) O (BB (c:=(!(BL N T.2.1))) O O) (st' (v:=(qa (!(BL N T.2.1)))) (AI O O) O (oNl' (zS Bi (xP _))))))))
  refine AJ O ?_
  refine zg (FM:=[(1,(pP b1 0)),(3,(vN i)),(4,(pP b2 0)),(17,(aG (IK x))),(18,(pP b2 0)),(19,(vI T.1)),(20,(qa (BL N T.1))),(21,(qa (!(BL N T.1)))),(22,(qa (!(BL N T.1)))),(28,(qa ((!(BL N T.1))||(!(BL N T.2.1))))),(29,(qa ((!(BL N T.1))||(!(BL N T.2.1))))),(35,(qa (((!(BL N T.1))||(!(BL N T.2.1)))||(!(BL N T.2.2)))))]) (LM:=[AU b2 105 (Af T),AU b1 39 (IK x),AC x.a.p (x.cs),AC x.b.p (rowsL Af zs),AC x.c.p (x.ds)]) 6 ?_ ?_
  ·rcases xO ((!(BL N T.1))||(!(BL N T.2.1))) with hg2|hg2
   ·refine zK (k:=29) (u:=qa true) O (by rw [hg2]) ?_
    have hg2':=hg2
    simp only [jK] at hg2'
    exact Aw O (Aw O (Aw O (Aw O (Aw O (st' (v:=(qa true)) (ex_pick_true O O) O (oNl' (zS EW (xP _))))))))
   ·refine zK (k:=29) (u:=qa false) O (by rw [hg2]) ?_
    have hg2':=hg2
    simp only [jK] at hg2'
    exact Au (v:=(aG (IK x))) O (Ac (i:=1) (vs:=IK x) O O C1.a C1.s O O) (Au (v:=(pP b2 2)) O (AB (j:=2) O O underlying105 sizeOf3 O jY O) (Au (v:=(vI T.2.2)) O (AE (i:=0) (v:=(vI T.2.2)) O O BN.a O) (zj (v:=(qa (BL N T.2.2))) (AN O) (Ak (args:=[(aG (IK x)),(vI T.2.2)]) O O call57) (λw hw=>OA x T.2.2 w (inS hw 2 O lx)) O (leB O) (Au (v:=(qa (!(BL N T.2.2)))) O (BB (c:=(!(BL N T.2.2))) O O) (st' (v:=(qa (!(BL N T.2.2)))) (AI O O) O (oNl' (zS EW (xP _))))))))
  refine AJ O ?_
  refine zg (FM:=[(1,(pP b1 0)),(3,(vN i)),(4,(pP b2 0)),(17,(aG (IK x))),(18,(pP b2 0)),(19,(vI T.1)),(20,(qa (BL N T.1))),(21,(qa (!(BL N T.1)))),(22,(qa (!(BL N T.1)))),(28,(qa ((!(BL N T.1))||(!(BL N T.2.1))))),(29,(qa ((!(BL N T.1))||(!(BL N T.2.1))))),(35,(qa (((!(BL N T.1))||(!(BL N T.2.1)))||(!(BL N T.2.2))))),(36,(qa (((!(BL N T.1))||(!(BL N T.2.1)))||(!(BL N T.2.2))))),(42,(qa ((((!(BL N T.1))||(!(BL N T.2.1)))||(!(BL N T.2.2)))||(decide (T.1=T.2.1)))))]) (LM:=[AU b2 105 (Af T),AU b1 39 (IK x),AC x.a.p (x.cs),AC x.b.p (rowsL Af zs),AC x.c.p (x.ds)]) 6 ?_ ?_
  ·rcases xO (((!(BL N T.1))||(!(BL N T.2.1)))||(!(BL N T.2.2))) with hg3|hg3
   ·refine zK (k:=36) (u:=qa true) O (by rw [hg3]) ?_
    have hg3':=hg3
    simp only [jK] at hg3'
    exact Aw O (Aw O (Aw O (Aw O (Aw O (st' (v:=(qa true)) (ex_pick_true O O) O (oNl' (zS I4 (xP _))))))))
   ·refine zK (k:=36) (u:=qa false) O (by rw [hg3]) ?_
    have hg3':=hg3
    simp only [jK] at hg3'
    exact Au (v:=(pP b2 0)) O (AB (j:=0) O O underlying105 sizeOf3 O jY O) (Au (v:=(vI T.1)) O (AE (i:=0) (v:=(vI T.1)) O O BN.a O) (Au (v:=(pP b2 1)) O (AB (j:=1) O O underlying105 sizeOf3 O jY O) (Au (v:=(vI T.2.1)) O (AE (i:=0) (v:=(vI T.2.1)) O O BN.a O) (Au (v:=(qa (decide (T.1=T.2.1)))) O (A9 (c:=(decide (T.1=T.2.1))) O O O) (st' (v:=(qa (decide (T.1=T.2.1)))) (AI O O) O (oNl' (zS I4 (xP _))))))))
  refine AJ O ?_
  refine zg (FM:=[(1,(pP b1 0)),(3,(vN i)),(4,(pP b2 0)),(17,(aG (IK x))),(18,(pP b2 0)),(19,(vI T.1)),(20,(qa (BL N T.1))),(21,(qa (!(BL N T.1)))),(22,(qa (!(BL N T.1)))),(28,(qa ((!(BL N T.1))||(!(BL N T.2.1))))),(29,(qa ((!(BL N T.1))||(!(BL N T.2.1))))),(35,(qa (((!(BL N T.1))||(!(BL N T.2.1)))||(!(BL N T.2.2))))),(36,(qa (((!(BL N T.1))||(!(BL N T.2.1)))||(!(BL N T.2.2))))),(42,(qa ((((!(BL N T.1))||(!(BL N T.2.1)))||(!(BL N T.2.2)))||(decide (T.1=T.2.1))))),(43,(qa ((((!(BL N T.1))||(!(BL N T.2.1)))||(!(BL N T.2.2)))||(decide (T.1=T.2.1))))),(49,(qa (((((!(BL N T.1))||(!(BL N T.2.1)))||(!(BL N T.2.2)))||(decide (T.1=T.2.1)))||(decide (T.1=T.2.2)))))]) (LM:=[AU b2 105 (Af T),AU b1 39 (IK x),AC x.a.p (x.cs),AC x.b.p (rowsL Af zs),AC x.c.p (x.ds)]) 6 ?_ ?_
  ·rcases xO ((((!(BL N T.1))||(!(BL N T.2.1)))||(!(BL N T.2.2)))||(decide (T.1=T.2.1))) with hg4|hg4
   ·refine zK (k:=43) (u:=qa true) O (by rw [hg4]) ?_
    have hg4':=hg4
    simp only [jK] at hg4'
    exact Aw O (Aw O (Aw O (Aw O (Aw O (st' (v:=(qa true)) (ex_pick_true O O) O (oNl' (zS Me (xP _))))))))
   ·refine zK (k:=43) (u:=qa false) O (by rw [hg4]) ?_
    have hg4':=hg4
    simp only [jK] at hg4'
    exact Au (v:=(pP b2 0)) O (AB (j:=0) O O underlying105 sizeOf3 O jY O) (Au (v:=(vI T.1)) O (AE (i:=0) (v:=(vI T.1)) O O BN.a O) (Au (v:=(pP b2 2)) O (AB (j:=2) O O underlying105 sizeOf3 O jY O) (Au (v:=(vI T.2.2)) O (AE (i:=0) (v:=(vI T.2.2)) O O BN.a O) (Au (v:=(qa (decide (T.1=T.2.2)))) O (A9 (c:=(decide (T.1=T.2.2))) O O O) (st' (v:=(qa (decide (T.1=T.2.2)))) (AI O O) O (oNl' (zS Me (xP _))))))))
  refine AJ O ?_
  refine zg (FM:=[(1,(pP b1 0)),(3,(vN i)),(4,(pP b2 0)),(17,(aG (IK x))),(18,(pP b2 0)),(19,(vI T.1)),(20,(qa (BL N T.1))),(21,(qa (!(BL N T.1)))),(22,(qa (!(BL N T.1)))),(28,(qa ((!(BL N T.1))||(!(BL N T.2.1))))),(29,(qa ((!(BL N T.1))||(!(BL N T.2.1))))),(35,(qa (((!(BL N T.1))||(!(BL N T.2.1)))||(!(BL N T.2.2))))),(36,(qa (((!(BL N T.1))||(!(BL N T.2.1)))||(!(BL N T.2.2))))),(42,(qa ((((!(BL N T.1))||(!(BL N T.2.1)))||(!(BL N T.2.2)))||(decide (T.1=T.2.1))))),(43,(qa ((((!(BL N T.1))||(!(BL N T.2.1)))||(!(BL N T.2.2)))||(decide (T.1=T.2.1))))),(49,(qa (((((!(BL N T.1))||(!(BL N T.2.1)))||(!(BL N T.2.2)))||(decide (T.1=T.2.1)))||(decide (T.1=T.2.2))))),(50,(qa (((((!(BL N T.1))||(!(BL N T.2.1)))||(!(BL N T.2.2)))||(decide (T.1=T.2.1)))||(decide (T.1=T.2.2))))),(56,(qa ((((((!(BL N T.1))||(!(BL N T.2.1)))||(!(BL N T.2.2)))||(decide (T.1=T.2.1)))||(decide (T.1=T.2.2)))||(decide (T.2.1=T.2.2)))))]) (LM:=[AU b2 105 (Af T),AU b1 39 (IK x),AC x.a.p (x.cs),AC x.b.p (rowsL Af zs),AC x.c.p (x.ds)]) 6 ?_ ?_
  ·rcases xO (((((!(BL N T.1))||(!(BL N T.2.1)))||(!(BL N T.2.2)))||(decide (T.1=T.2.1)))||(decide (T.1=T.2.2))) with hg5|hg5
   ·refine zK (k:=50) (u:=qa true) O (by rw [hg5]) ?_
    have hg5':=hg5
    simp only [jK] at hg5'
    exact Aw O (Aw O (Aw O (Aw O (Aw O (st' (v:=(qa true)) (ex_pick_true O O) O (oNl' (zS Mf (xP _))))))))
   ·refine zK (k:=50) (u:=qa false) O (by rw [hg5]) ?_
    have hg5':=hg5
    simp only [jK] at hg5'
    exact Au (v:=(pP b2 1)) O (AB (j:=1) O O underlying105 sizeOf3 O jY O) (Au (v:=(vI T.2.1)) O (AE (i:=0) (v:=(vI T.2.1)) O O BN.a O) (Au (v:=(pP b2 2)) O (AB (j:=2) O O underlying105 sizeOf3 O jY O) (Au (v:=(vI T.2.2)) O (AE (i:=0) (v:=(vI T.2.2)) O O BN.a O) (Au (v:=(qa (decide (T.2.1=T.2.2)))) O (A9 (c:=(decide (T.2.1=T.2.2))) O O O) (st' (v:=(qa (decide (T.2.1=T.2.2)))) (AI O O) O (oNl' (zS Mf (xP _))))))))
  refine oNl' (zF (sL [1,3,4,56] O) (zC ?_))
  refine zO O (λhc1=>?_) (λhc1=>?_)
  ·simp only [jK] at hc1
   exact q4 (asg' O (oNl' (zC (zH (zU (zI (zr (zU (zI (ret_one O (rd_tmp (v:=(qa false)) O) (λw hw=>⟨by rw [ZJ (j:=i) Z (by rw [<-hT];unfold NA;rw [Bool.eq_false_iff];intro h9;simp only [xZ,xV,xS] at h9;grind)],hw.out⟩)))))))))))
  ·simp only [jK] at hc1
   exact zJ (zP (zC (zQ (AJ O (st' (AV (c:=((i+1:Nat):Int)) O O (AY (a:=i) (b:=1) Z)) O (asg' O (oNl' (zF (sL [1,3,4] O) (zm (i+1) (⟨Z,λj hj=>by rcases Nat.lt_or_ge j i with h9|h9;exact hok j h9;rw [show j=i by omega,<-hT];unfold NA;simp only [xZ,xV,xS];grind⟩) Z (sF O) (sl sr))))))))))
 ·replace hc0:=xQ hc0
  exact zY (zR (zh (zV (q2 (asg' O (oNl' (zC (zH (ret_one O (rd_tmp (v:=(qa true)) O) (λw hw=>⟨by rw [Wp λj hj=>hok j Z],hw.out⟩))))))))))
end
end Go.Proofs.YtpolhpjiahbidaaGreatDoor
