import Derived.Test.YtbfdamnfcmefmaaGreatDoorPart36
namespace Go.Proofs.YtbfdamnfcmefmaaGreatDoor
open Go Go.RowKit Go.Proofs.Tryz
open Go.Value renaming slice→qz,bool→qa
set_option linter.unusedVariables false
set_option linter.unusedSimpArgs false
section
set_option maxRecDepth 100000
theorem XV {ps:List Pt} {ts ss:List T3} (x:MX ps ts ss) (hv:Fr ps ts ss) (w:World) {S:Nat->Prop} (hx:Ro S w x):Calls prog 62 #[(aG (Ce x))] w (Ag w (qa true)):=by
 have hp:=hv.pl
 have htl:=hv.tl
 have hsl:=hv.sl
 have h0:=hv.t0
 have lx:=Db (W:=w) hx
 refine Ak (args:=[(aG (Ce x))]) (L:=[AP x.a.p (rowsL AZ ps),AP x.b.p (rowsL Ad ts),AP x.c.p (rowsL Ad ss)]) func62 O O (BE O) (De hx A_) (zM (sL [0] O) (q4 (BZ (cs:=Ce x) O λb1=>asg' O (q3 (sL [1,2] O) (AC (v:=(pP b1 0)) (AA O underlying34 O sizeOf32 O) O (BA 0 (qz x.a.p ps.length x.a.c) DC O (AC (v:=(vN ps.length)) (AE O underlying32) O (asg' O (q6 (sL [1,2,3] O) (q4 ?_))))))))))
 refine AC (v:=(pP b1 1)) (AA O underlying34 O sizeOf28 O) O (BA 0 (qz x.b.p ts.length x.b.c) CM O (AC (v:=(vN ts.length)) (AE O underlying28) O (AM O (oNl' (zB (sL [1,2,3,12,13,14] O) (zA (zI ?_)))))))
 refine zw (tg λ(i:Nat)=>i<=ts.length) (tg λ(i:Nat)=>[(1,(pP b1 0)),(3,(vN ps.length)),(12,(qz x.b.p ts.length x.b.c)),(13,(vN ts.length)),(14,(vN i))]) (tg λ(i:Nat)=>[AX b1 34 (Ce x),AP x.a.p (rowsL AZ ps),AP x.b.p (rowsL Ad ts),AP x.c.p (rowsL Ad ss)]) (tg λ(i:Nat)=>ts.length-i) 0 (xK _) (sF O) sr (λi hJ=>?_)
 have hi:=hJ
 refine q4 (AC (Aa (c:=(decide (i<ts.length))) O O (DF (a:=i) (b:=ts.length))) O (oNl' (q1 ?_)))
 refine zL O (λhc0=>?_) (λhc0=>?_)
 ·replace hc0:=xU hc0
  obtain ⟨T,hT⟩:∃q,q=ts.getD i (0,0,0):=⟨_,rfl⟩
  obtain ⟨g1,g2,g3⟩:=DP (CQ hv.num hc0)
  have hps:=hv.pos i hc0
  rw [<-hT] at g1 g2 g3 hps
  have z0:Bn (ps.getD T.1 ⟨0,0⟩)<=1000000:=hv.szM _
  have z1:Bn (ps.getD T.2.1 ⟨0,0⟩)<=1000000:=hv.szM _
  have z2:Bn (ps.getD T.2.2 ⟨0,0⟩)<=1000000:=hv.szM _
  refine zC (q1 (zI (q4 (AC (v:=(pP (pB x.b.p) (pO x.b.p+i*3))) (AO (j:=i) O O x.b.ok underlying28 sizeOf71 O Z) O (AC (v:=(aG (Ad (ts.getD i jJ)))) (AI (vs:=Ad (ts.getD i jJ)) (i:=2) O O (Aw.ne x.b.ok Z) Bm (Ae An _ _ _ Z) (An _)) O (zK (k:=17) (u:=(aG (Ad T))) O (by rw [hT]) (al Hk O λb2=>Ah O sizeOf71 O (q6 (sL [1,3,12,13,14,5] O) (C_ [(0,true),(1,true),(2,true),(3,false),(4,true),(5,true),(6,true),(7,true),(8,true),(9,false),(10,true),(11,true),(12,true),(13,true),(14,true),(15,true),(16,false),(17,true),(18,true),(19,true),(20,true),(21,true),(22,true),(23,true),(24,true),(25,true),(26,true),(27,true),(28,true),(29,true),(30,true),(31,true),(32,true),(33,true),(34,true),(35,true),(36,true),(37,true),(38,false),(39,true),(40,true)] sr (Aj (v:=(pP b2 0)) O (AB (j:=0) O O underlying71 sizeOf3 O jY O) ?_))))))))))
  refine BK 0 (vN T.1) BP O (Bx O (zN O (C7 (args:=[(vN T.1),(vN ps.length)]) (v:=(qa true)) call117 (λw hw=>(by have h9:=Ck T.1 ps.length w;rw [xJ Z] at h9;exact h9)) O (zG sr (Aj O (BG (c:=false) O O) (Bx O (zW (v:=(pP b2 1)) O (AY O) (AB (j:=1) O O underlying71 sizeOf3 O jY O) O O (zW (v:=(vN T.2.1)) O (AY O) (AD (i:=0) (v:=(vN T.2.1)) O O BP.a O) O O (zW (v:=(vN ps.length)) O (AY O) (DD O) O O (zN O (zg (v:=(qa true)) (AY O) (Ao (args:=[(vN T.2.1),(vN ps.length)]) O O call117) (λw hw=>(by have h9:=Ck T.2.1 ps.length w;rw [xJ Z] at h9;exact h9)) O (BE O) ?_)))))))))))
  refine zG sr (zW (v:=(qa false)) O (AY O) (BG (c:=false) O O) O O (Aj (v:=(qa false)) O (AL O O) (Bx O (zW (v:=(pP b2 2)) O (AY O) (AB (j:=2) O O underlying71 sizeOf3 O jY O) O O (zW (v:=(vN T.2.2)) O (AY O) (AD (i:=0) (v:=(vN T.2.2)) O O BP.a O) O O (zW (v:=(vN ps.length)) O (AY O) (DD O) O O (zN O (zg (v:=(qa true)) (AY O) (Ao (args:=[(vN T.2.2),(vN ps.length)]) O O call117) (λw hw=>(by have h9:=Ck T.2.2 ps.length w;rw [xJ Z] at h9;exact h9)) O (BE O) (zG sr (zW (v:=(qa false)) O (AY O) (BG (c:=false) O O) O O (Aj (v:=(qa false)) O (AL O O) ?_)))))))))))
  refine Bx O (zW (v:=(pP b1 0)) O (AY O) (AA O underlying34 O sizeOf32 O) O O (zW (v:=(qz x.a.p ps.length x.a.c)) O (AY O) (AD (i:=1) (v:=(qz x.a.p ps.length x.a.c)) O O DC.a O) O O (zW (v:=(pP b2 0)) O (AY O) (AB (j:=0) O O underlying71 sizeOf3 O jY O) O O (zW (v:=(vN T.1)) O (AY O) (AD (i:=0) (v:=(vN T.1)) O O BP.a O) O O (zW (v:=(pP (pB x.a.p) (pO x.a.p+T.1*10))) O (AY O) (AO (j:=T.1) O O x.a.ok underlying32 sizeOf78 O Z) O O (zW (v:=(aG (AZ (ps.getD T.1 (⟨0,0⟩:Pt))))) O (AY O) (AI (vs:=AZ (ps.getD T.1 (⟨0,0⟩:Pt))) (i:=2) O O (Aw.ne x.a.ok Z) BC (Ae Aq _ _ _ Z) (Aq _)) O O (zW (v:=(pP b1 0)) O (AY O) (AA O underlying34 O sizeOf32 O) O O (zW (v:=(qz x.a.p ps.length x.a.c)) O (AY O) (AD (i:=1) (v:=(qz x.a.p ps.length x.a.c)) O O DC.a O) O O (zW (v:=(pP b2 1)) O (AY O) (AB (j:=1) O O underlying71 sizeOf3 O jY O) O O (zW (v:=(vN T.2.1)) O (AY O) (AD (i:=0) (v:=(vN T.2.1)) O O BP.a O) O O (zW (v:=(pP (pB x.a.p) (pO x.a.p+T.2.1*10))) O (AY O) (AO (j:=T.2.1) O O x.a.ok underlying32 sizeOf78 O Z) O O ?_)))))))))))
  refine zW (v:=(aG (AZ (ps.getD T.2.1 (⟨0,0⟩:Pt))))) O (AY O) (AI (vs:=AZ (ps.getD T.2.1 (⟨0,0⟩:Pt))) (i:=2) O O (Aw.ne x.a.ok Z) BC (Ae Aq _ _ _ Z) (Aq _)) O O (zW (v:=(pP b1 0)) O (AY O) (AA O underlying34 O sizeOf32 O) O O (zW (v:=(qz x.a.p ps.length x.a.c)) O (AY O) (AD (i:=1) (v:=(qz x.a.p ps.length x.a.c)) O O DC.a O) O O (zW (v:=(pP b2 2)) O (AY O) (AB (j:=2) O O underlying71 sizeOf3 O jY O) O O (zW (v:=(vN T.2.2)) O (AY O) (AD (i:=0) (v:=(vN T.2.2)) O O BP.a O) O O (zW (v:=(pP (pB x.a.p) (pO x.a.p+T.2.2*10))) O (AY O) (AO (j:=T.2.2) O O x.a.ok underlying32 sizeOf78 O Z) O O (zW (v:=(aG (AZ (ps.getD T.2.2 (⟨0,0⟩:Pt))))) O (AY O) (AI (vs:=AZ (ps.getD T.2.2 (⟨0,0⟩:Pt))) (i:=2) O O (Aw.ne x.a.ok Z) BC (Ae Aq _ _ _ Z) (Aq _)) O O (zN O (zg (v:=(vI ((AF (ps.getD T.1 (⟨0,0⟩:Pt)) (ps.getD T.2.1 (⟨0,0⟩:Pt)) (ps.getD T.2.2 (⟨0,0⟩:Pt))).num.sign))) (AY O) (Ao (args:=[(aG (AZ (ps.getD T.1 (⟨0,0⟩:Pt)))),(aG (AZ (ps.getD T.2.1 (⟨0,0⟩:Pt)))),(aG (AZ (ps.getD T.2.2 (⟨0,0⟩:Pt))))]) O O call111) (λw hw=>G1 (ps.getD T.1 (⟨0,0⟩:Pt)) (ps.getD T.2.1 (⟨0,0⟩:Pt)) (ps.getD T.2.2 (⟨0,0⟩:Pt)) Z w) O (BE O) (zG sr (zW (v:=(qa false)) O (AY O) (Bw (c:=false) O O (xI (λh9=>h9 hps))) O O (Aj (v:=(qa false)) O (AL O O) ?_)))))))))))
  exact zQ (zB (sL [1,3,12,13,14,5,58] O) (zA (zP O (zC (zF (zA (zD (AC (AR (c:=((i+1:Nat):Int)) O O (AS (a:=i) (b:=1) Z)) O (AM O (oNl' (zB (sL [1,3,12,13,14,5] O) (zh (i+1) Z Z (sF O) (sl sr)))))))))))))
 ·replace hc0:=xT hc0
  refine zU (zO (zX (zR (q1 (q4 (AC (v:=(pP b1 2)) (AA O underlying34 O sizeOf29 O) O (BA 0 (qz x.c.p ss.length x.c.c) Qx O (AC (v:=(vN ss.length)) (AE O underlying29) O (AM O (oNl' (zB (sL [1,3,12,13,14,61,62,63] O) ?_)))))))))))
  refine zA (zI ?_)
  refine zw (tg λ(i:Nat)=>i<=ss.length) (tg λ(i:Nat)=>[(1,(pP b1 0)),(3,(vN ps.length)),(61,(qz x.c.p ss.length x.c.c)),(62,(vN ss.length)),(63,(vN i))]) (tg λ(i:Nat)=>[AX b1 34 (Ce x),AP x.a.p (rowsL AZ ps),AP x.b.p (rowsL Ad ts),AP x.c.p (rowsL Ad ss)]) (tg λ(i:Nat)=>ss.length-i) 0 (xK _) (sF O) sr (λi hJ=>?_)
  have hi:=hJ
  refine q4 (AC (Aa (c:=(decide (i<ss.length))) O O (DF (a:=i) (b:=ss.length))) O (oNl' (q1 ?_)))
  refine zL O (λhc2=>?_) (λhc2=>?_)
  ·replace hc2:=xU hc2
   obtain ⟨sd,hsd⟩:∃q,q=ss.getD i (0,0,0):=⟨_,rfl⟩
   obtain ⟨g1,g2,g3⟩:=hv.sid i hc2
   rw [<-hsd] at g1 g2 g3
   refine zC (q1 (zI (q4 (AC (v:=(pP (pB x.c.p) (pO x.c.p+i*3))) (AO (j:=i) O O x.c.ok underlying29 sizeOf80 O Z) O (AC (v:=(aG (Ad (ss.getD i jJ)))) (AI (vs:=Ad (ss.getD i jJ)) (i:=3) O O (Aw.ne x.c.ok Z) Qw (Ae An _ _ _ Z) (An _)) O (zK (k:=66) (u:=(aG (Ad sd))) O (by rw [hsd]) (al eF O λb2=>Ah O sizeOf80 O (q3 (sL [1,3,61,62,63,7] O) (AC (v:=(pP b2 0)) (AA O underlying80 O sizeOf3 O) O (BA 0 (vN sd.1) BP O ?_))))))))))
   refine AM O (C7 (args:=[(vN sd.1),(vN ps.length)]) (v:=(qa true)) call117 (λw hw=>(by have h9:=Ck sd.1 ps.length w;rw [xJ Z] at h9;exact h9)) O (AC (BG (c:=false) O O) O (AM O (Av (v:=(pP b2 1)) O (AA O underlying80 O sizeOf3 O) (Av (v:=(vN sd.2.1)) O (AD (i:=0) (v:=(vN sd.2.1)) O O BP.a O) (F0 O (zg (v:=(qa true)) (AY O) (Ao (args:=[(vN sd.2.1),(vN ps.length)]) O O call117) (λw hw=>(by have h9:=Ck sd.2.1 ps.length w;rw [xJ Z] at h9;exact h9)) O (BE O) (Av (v:=(qa false)) O (BG (c:=false) O O) (AC (v:=(qa false)) (AL O O) O (AM O (Av (v:=(pP b2 2)) O (AA O underlying80 O sizeOf3 O) ?_)))))))))))
   refine Av (v:=(vN sd.2.2)) O (AD (i:=0) (v:=(vN sd.2.2)) O O BP.a O) (Av (v:=(qa false)) O (Aa (c:=false) O O (xI Z)) (AC (v:=(qa false)) (AL O O) O (AM O (Av (v:=(pP b2 2)) O (AA O underlying80 O sizeOf3 O) (Av (v:=(vN sd.2.2)) O (AD (i:=0) (v:=(vN sd.2.2)) O O BP.a O) (Av (v:=(qa false)) O (D6 (c:=false) O O (xI Z)) (AC (v:=(qa false)) (AL O O) O (oNl' (zB (sL [1,3,61,62,63,7,88] O) (zA (zP O ?_)))))))))))
   exact zC (zF (zA (zD (AC (AR (c:=((i+1:Nat):Int)) O O (AS (a:=i) (b:=1) Z)) O (AM O (oNl' (zB (sL [1,3,61,62,63,7] O) (zh (i+1) Z Z (sF O) (sl sr)))))))))
  ·replace hc2:=xT hc2
   refine zU (zO (zX (zR (q2 (AC (v:=(pP b1 1)) (AA O underlying34 O sizeOf28 O) O (BA 0 (qz x.b.p ts.length x.b.c) CM O (AC (v:=(vN ts.length)) (AE O underlying28) O (AC (D6 (c:=true) O O (xJ Z)) O (asg' O (oNl' (zB (sL [1,3,61,62,63,2] O) ?_)))))))))))
   exact zA (zH (ret_one O (rd_tmp (v:=(qa true)) O) (λw hw=>⟨rfl,hw.out⟩)))
theorem Zi (a b c p:Pt) (hs:Bn a+Bn b+Bn c+Bn p<=268435456) (w:World):Calls prog 137 #[aG (AZ a),aG (AZ b),aG (AZ c),aG (AZ p)] w (Ag w (vN (IM a b c p))):=by
 unfold IM
 by_cases h:AF a b c=0
 ·rw [if_pos h];exact SJ a b c p hs h w
 ·rw [if_neg h];exact UG a b c p hs h w
set_option maxHeartbeats 1000000 in
theorem UL {ps:List Pt} {ts ss:List T3} (x:MX ps ts ss) (hv:Fr ps ts ss) (w:World) {S:Nat->Prop} (hx:Ro S w x):Calls prog 64 #[(aG (Ce x))] w (Ag w (qa true)):=by
 have hp:=hv.pl
 have htl:=hv.tl
 have hsl:=hv.sl
 have h0:=hv.t0
 have hq:∀t:T3,Bn (Be ps t).1<=1000000/\Bn (Be ps t).2.1<=1000000/\Bn (Be ps t).2.2<=1000000:=λt=>⟨hv.szM _,hv.szM _,hv.szM _⟩
 have lx:=Db (W:=w) hx
 refine Ak (args:=[(aG (Ce x))]) (L:=[AP x.a.p (rowsL AZ ps),AP x.b.p (rowsL Ad ts),AP x.c.p (rowsL Ad ss)]) func64 O O (BE O) (De hx A_) (zM (sL [0] O) (q4 (BZ (cs:=Ce x) O λb1=>asg' O (q6 (sL [1,2] O) (q4 (AC (v:=(pP b1 1)) (AA O underlying34 O sizeOf28 O) O (BA 0 (qz x.b.p ts.length x.b.c) CM O (AC (v:=(vN ts.length)) (AE O underlying28) O (AM O (oNl' ?_))))))))))
 refine zB (sL [1,2,11,12] O) (zA (zI ?_))
 refine zw (tg λ(i:Nat)=>i<=ts.length) (tg λ(i:Nat)=>[(1,(pP b1 0)),(11,(vN ts.length)),(12,(vN i))]) (tg λ(i:Nat)=>[AX b1 34 (Ce x),AP x.a.p (rowsL AZ ps),AP x.b.p (rowsL Ad ts),AP x.c.p (rowsL Ad ss)]) (tg λ(i:Nat)=>ts.length-i) 0 (xK _) (sF O) sr (λi hJ=>?_)
 have hi:=hJ
 refine q4 (AC (Aa (c:=(decide (i<ts.length))) O O (DF (a:=i) (b:=ts.length))) O (oNl' (q1 ?_)))
 refine zL O (λhc0=>?_) (λhc0=>?_)
 ·replace hc0:=xU hc0
  refine zC (q1 (zI (q4 (AM O (asg' O (q3 (sL [1,11,12,3] O) (Ai 0 Bg O (AM O (C7 call134 (λw hw=>Kw x i Z Z Z (CQ hv.num Z) w (Cd hw 1 O lx)) O (al Wn O λb2=>Ah O sizeOf204 O ?_))))))))))
  refine q6 (sL [1,11,12,3,4] O) (q4 (AM O (AM O (oNl' (zA (zI ?_))))))
  refine zw (tg λ(k:Nat)=>k<=i) (tg λ(k:Nat)=>[(1,(pP b1 0)),(11,(vN ts.length)),(12,(vN i)),(3,(vN i)),(4,(pP b2 0)),(18,(vN i)),(19,(vN k))]) (tg λ(k:Nat)=>[AX b2 204 (ID (Be ps (ts.getD i (0,0,0)))),AX b1 34 (Ce x),AP x.a.p (rowsL AZ ps),AP x.b.p (rowsL Ad ts),AP x.c.p (rowsL Ad ss)]) (tg λ(k:Nat)=>i-k) 0 (xK _) (sF O) sr (λk hJ=>?_)
  have hk:=hJ
  refine q4 (AC (Aa (c:=(decide (k<i))) O O (DF (a:=k) (b:=i))) O (oNl' (q1 ?_)))
  refine zL O (λhc1=>?_) (λhc1=>?_)
  ·replace hc1:=xU hc1
   refine zC (q1 (zI (q4 (AM O (asg' O (q3 (sL [1,11,12,3,4,18,19,5] O) (Ai 1 Bg O (AM O (C7 call134 (λw hw=>Kw x k Z Z Z (CQ hv.num Z) w (Cd hw 2 O lx)) O (al Wn O λb3=>Ah O sizeOf204 O ?_))))))))))
   refine q3 (sL [1,11,12,3,4,18,19,6] O) (Ai 1 NM O (Ai 0 NM O (ck' call135 (UQ (Be ps (ts.getD i (0,0,0))) (Be ps (ts.getD k (0,0,0))) (hq _) (hq _)) O (AC (BG (c:=(!(Dy (Be ps (ts.getD i (0,0,0))) (Be ps (ts.getD k (0,0,0)))))) O O) O (AM O ?_)))))
   refine zi (FM:=[(1,(pP b1 0)),(11,(vN ts.length)),(12,(vN i)),(3,(vN i)),(4,(pP b2 0)),(18,(vN i)),(19,(vN k)),(6,(pP b3 0)),(25,(aG (ID (Be ps (ts.getD i (0,0,0)))))),(26,(aG (ID (Be ps (ts.getD k (0,0,0)))))),(27,(qa (Dy (Be ps (ts.getD i (0,0,0))) (Be ps (ts.getD k (0,0,0)))))),(28,(qa (!(Dy (Be ps (ts.getD i (0,0,0))) (Be ps (ts.getD k (0,0,0))))))),(29,(qa (!(Dy (Be ps (ts.getD i (0,0,0))) (Be ps (ts.getD k (0,0,0))))))),(34,(qa ((!(Dy (Be ps (ts.getD i (0,0,0))) (Be ps (ts.getD k (0,0,0)))))&&(!(Dy (Be ps (ts.getD k (0,0,0))) (Be ps (ts.getD i (0,0,0))))))))]) (LM:=[AX b3 204 (ID (Be ps (ts.getD k (0,0,0)))),AX b2 204 (ID (Be ps (ts.getD i (0,0,0)))),AX b1 34 (Ce x),AP x.a.p (rowsL AZ ps),AP x.b.p (rowsL Ad ts),AP x.c.p (rowsL Ad ss)]) 5 ?_ ?_
   ·rcases xR (!(Dy (Be ps (ts.getD i (0,0,0))) (Be ps (ts.getD k (0,0,0))))) with hg1|hg1
    ·refine zK (k:=29) (u:=qa true) O (by rw [hg1]) ?_
     have hg1':=hg1
     simp only [jK] at hg1'
     exact Av (v:=(aG (ID (Be ps (ts.getD k (0,0,0)))))) O (Ab (i:=0) (vs:=ID (Be ps (ts.getD k (0,0,0)))) O O NM.a NM.s O O) (Av (v:=(aG (ID (Be ps (ts.getD i (0,0,0)))))) O (Ab (i:=1) (vs:=ID (Be ps (ts.getD i (0,0,0)))) O O NM.a NM.s O O) (zg (v:=(qa (Dy (Be ps (ts.getD k (0,0,0))) (Be ps (ts.getD i (0,0,0)))))) (AY O) (Ao (args:=[(aG (ID (Be ps (ts.getD k (0,0,0))))),(aG (ID (Be ps (ts.getD i (0,0,0)))))]) O O call135) (λw hw=>UQ (Be ps (ts.getD k (0,0,0))) (Be ps (ts.getD i (0,0,0))) (hq _) (hq _) w) O (BE O) (Av (v:=(qa (!(Dy (Be ps (ts.getD k (0,0,0))) (Be ps (ts.getD i (0,0,0))))))) O (BG (c:=(!(Dy (Be ps (ts.getD k (0,0,0))) (Be ps (ts.getD i (0,0,0)))))) O O) (AC (v:=(qa (!(Dy (Be ps (ts.getD k (0,0,0))) (Be ps (ts.getD i (0,0,0))))))) (AQ O O) O (oNl' (zT Cc (xS _)))))))
    ·refine zK (k:=29) (u:=qa false) O (by rw [hg1]) ?_
     have hg1':=hg1
     simp only [jK] at hg1'
     exact BD O (BD O (BD O (BD O (AC (v:=(qa false)) (AL O O) O (oNl' (zT Cc (xS _)))))))
   refine oNl' (zB (sL [1,11,12,3,4,18,19,6,34] O) (zA ?_))
   refine zL O (λhc2=>?_) (λhc2=>?_)
   ·simp only [jK] at hc2
    have h9:=hv.apart i k Z Z;rw [hc2.1,hc2.2] at h9;cases h9
   ·simp only [jK] at hc2
    exact zC (zF (zA (zD (AC (AR (c:=((k+1:Nat):Int)) O O (AS (a:=k) (b:=1) Z)) O (AM O (oNl' (zB (sL [1,11,12,3,4,18,19,6] O) (zh (k+1) Z Z (sF O) (sl sr)))))))))
  ·replace hc1:=xT hc1
   refine zU (zO (zX (zR (q2 (AC (v:=(pP b1 0)) (AA O underlying34 O sizeOf32 O) O (BA 1 (qz x.a.p ps.length x.a.c) DC O (AC (v:=(vN ps.length)) (AE O underlying32) O (AM O (oNl' (zB (sL [1,11,12,3,4,18,19,37,38,39] O) (zA ?_)))))))))))
   refine zI ?_
   refine zw (tg λ(p:Nat)=>p<=ps.length) (tg λ(p:Nat)=>[(1,(pP b1 0)),(11,(vN ts.length)),(12,(vN i)),(3,(vN i)),(4,(pP b2 0)),(37,(qz x.a.p ps.length x.a.c)),(38,(vN ps.length)),(39,(vN p))]) (tg λ(p:Nat)=>[AX b2 204 (ID (Be ps (ts.getD i (0,0,0)))),AX b1 34 (Ce x),AP x.a.p (rowsL AZ ps),AP x.b.p (rowsL Ad ts),AP x.c.p (rowsL Ad ss)]) (tg λ(p:Nat)=>ps.length-p) 0 (xK _) (sF O) sr (λp hJ=>?_)
   have hp:=hJ
   refine q4 (AC (Aa (c:=(decide (p<ps.length))) O O (DF (a:=p) (b:=ps.length))) O (oNl' (q1 ?_)))
   refine zL O (λhc3=>?_) (λhc3=>?_)
   ·replace hc3:=xU hc3
    refine zC (q1 (zI (q4 (AM O (AC (v:=(pP (pB x.a.p) (pO x.a.p+p*10))) (AO (j:=p) O O x.a.ok underlying32 sizeOf78 O Z) O (AC (v:=(aG (AZ (ps.getD p (⟨0,0⟩:Pt))))) (AI (vs:=AZ (ps.getD p (⟨0,0⟩:Pt))) (i:=2) O O (Aw.ne x.a.ok Z) BC (Ae Aq _ _ _ Z) (Aq _)) O (al Ep O λb3=>asg' O (Ah O sizeOf78 O (q3 (sL [1,11,12,3,4,37,38,39,8,7] O) (AC (v:=(pP b1 1)) (AA O underlying34 O sizeOf28 O) O ?_))))))))))
    refine BA 2 (qz x.b.p ts.length x.b.c) CM O (AM O (AC (v:=(pP (pB x.b.p) (pO x.b.p+i*3))) (AO (j:=i) O O x.b.ok underlying28 sizeOf71 O Z) O (AC (v:=(qz (some ⟨(pB x.b.p),pO x.b.p+i*3,none⟩) 3 3)) (No O underlying71 sizeOf3 jY) O (AM O (C7 call136 (λw hw=>To (ts.getD i (0,0,0)) p ⟨some ⟨pB x.b.p,pO x.b.p+i*3,none⟩,3,aR _ _⟩ w (Ym (cE (Cd hw 3 O lx)) Z _)) O (AC (BG (c:=(!(B_ (ts.getD i (0,0,0)) p))) O O) O (AM O ?_)))))))
    refine zi (FM:=[(1,(pP b1 0)),(11,(vN ts.length)),(12,(vN i)),(3,(vN i)),(4,(pP b2 0)),(37,(qz x.a.p ps.length x.a.c)),(38,(vN ps.length)),(39,(vN p)),(8,(pP b3 0)),(7,(vN p)),(44,(pP b1 1)),(45,(qz x.b.p ts.length x.b.c)),(46,(vN i)),(47,(pP (pB x.b.p) (pO x.b.p+i*3))),(48,(qz (some ⟨(pB x.b.p),pO x.b.p+i*3,none⟩) 3 3)),(49,(vN p)),(50,(qa (B_ (ts.getD i (0,0,0)) p))),(51,(qa (!(B_ (ts.getD i (0,0,0)) p)))),(52,(qa (!(B_ (ts.getD i (0,0,0)) p)))),(62,(qa ((!(B_ (ts.getD i (0,0,0)) p))&&false)))]) (LM:=[AX b3 78 (AZ (ps.getD p (⟨0,0⟩:Pt))),AX b2 204 (ID (Be ps (ts.getD i (0,0,0)))),AX b1 34 (Ce x),AP x.a.p (rowsL AZ ps),AP x.b.p (rowsL Ad ts),AP x.c.p (rowsL Ad ss)]) 10 ?_ ?_
    ·rcases xR (!(B_ (ts.getD i (0,0,0)) p)) with hg2|hg2
     ·refine zK (k:=52) (u:=qa true) O (by rw [hg2]) ?_
      have hg2':=hg2
      simp only [jK] at hg2'
      exact Av (v:=(pP b2 0)) O (AB (j:=0) O O underlying204 sizeOf78 O jY O) (Av (v:=(aG (AZ ((Be ps (ts.getD i (0,0,0))).1)))) O (Ab (i:=1) (vs:=AZ ((Be ps (ts.getD i (0,0,0))).1)) O O BC.a BC.s O O) (Av (v:=(pP b2 10)) O (AB (j:=1) O O underlying204 sizeOf78 O jY O) (Av (v:=(aG (AZ ((Be ps (ts.getD i (0,0,0))).2.1)))) O (Ab (i:=1) (vs:=AZ ((Be ps (ts.getD i (0,0,0))).2.1)) O O BC.a BC.s O O) (Av (v:=(pP b2 20)) O (AB (j:=2) O O underlying204 sizeOf78 O jY O) (Av (v:=(aG (AZ ((Be ps (ts.getD i (0,0,0))).2.2)))) O (Ab (i:=1) (vs:=AZ ((Be ps (ts.getD i (0,0,0))).2.2)) O O BC.a BC.s O O) (Av (v:=(aG (AZ (ps.getD p (⟨0,0⟩:Pt))))) O (Ab (i:=0) (vs:=AZ (ps.getD p (⟨0,0⟩:Pt))) O O BC.a BC.s O O) (zg (v:=(vN (JZ ps (ps.getD p ⟨0,0⟩) (ts.getD i (0,0,0))))) (AY O) (Ao (args:=[(aG (AZ ((Be ps (ts.getD i (0,0,0))).1))),(aG (AZ ((Be ps (ts.getD i (0,0,0))).2.1))),(aG (AZ ((Be ps (ts.getD i (0,0,0))).2.2))),(aG (AZ (ps.getD p (⟨0,0⟩:Pt))))]) O O call137) (λw hw=>Zi ((Be ps (ts.getD i (0,0,0))).1) ((Be ps (ts.getD i (0,0,0))).2.1) ((Be ps (ts.getD i (0,0,0))).2.2) (ps.getD p ⟨0,0⟩) (by have z1:=hq (ts.getD i (0,0,0));have z2:Bn (ps.getD p ⟨0,0⟩)<=1000000:=hv.szM p;omega) w) O (BE O) (Av (v:=(qa false)) O (Bw (c:=false) O O (xI (by have h8:=hv.crn i p Z Z hg2';unfold cor at h8;omega))) (AC (v:=(qa false)) (AQ O O) O (oNl' (zT Hl (xS _))))))))))))
     ·refine zK (k:=52) (u:=qa false) O (by rw [hg2]) ?_
      have hg2':=hg2
      simp only [jK] at hg2'
      exact BD O (BD O (BD O (BD O (BD O (BD O (BD O (BD O (BD O (AC (v:=(qa false)) (AL O O) O (oNl' (zT Hl (xS _))))))))))))
    refine oNl' (zB (sL [1,11,12,3,4,37,38,39,8,62] O) (zA ?_))
    refine zL O (λhc4=>?_) (λhc4=>?_)
    ·simp only [jK] at hc4
     simp at hc4
    ·simp only [jK] at hc4
     exact zC (zF (zA (zD (AC (AR (c:=((p+1:Nat):Int)) O O (AS (a:=p) (b:=1) Z)) O (AM O (oNl' (zB (sL [1,11,12,3,4,37,38,39,8] O) (zh (p+1) Z Z (sF O) (sl sr)))))))))
   ·replace hc3:=xT hc3
    exact zU (zO (zX (zR (zF (zA (zD (AC (AR (c:=((i+1:Nat):Int)) O O (AS (a:=i) (b:=1) Z)) O (AM O (oNl' (zB (sL [1,11,12,3,4,37,38,39] O) (zh (i+1) Z Z (sF O) (sl sr))))))))))))
 ·replace hc0:=xT hc0
  exact zU (zO (zX (zR (q2 (asg' O (oNl' (zA (zH (ret_one O (rd_tmp (v:=(qa true)) O) (λw hw=>⟨rfl,hw.out⟩))))))))))
end
section
set_option maxRecDepth 100000
theorem Xe (x y:Pt) (hx:Bn x<=1000) (hy:Bn y<=1000) (w:World)  :Calls prog 131 #[(aG (AZ x)),(aG (AZ y))] w (Ag w (vI (Nc x y))):=by
 refine AW (args:=[(aG (AZ x)),(aG (AZ y))]) func131 O O (BE O) (zM (sL [0,1] O) (q4 (BZ (cs:=AZ x) O λb1=>BZ (cs:=AZ y) O λb2=>asg' O (q6 (sL [2,3,4] O) (zI (q4 (Ai 1 BC O (Ai 0 BC O (ck' call132 (NG x y (by assumption) (by assumption)) O ?_)))))))))
 refine asg' O (oNl' (zB (sL [2,3,4,5] O) (zA ?_)))
 refine zL O (λhc0=>?_) (λhc0=>?_)
 ·replace hc0:=xU hc0
  exact q4 (asg' O (oNl' (zA (zH (zS (zJ (ret_one O (rd_tmp (v:=(vI (-1:Int))) O) (λw hw=>⟨by unfold Nc;rw [if_pos hc0],hw.out⟩))))))))
 ·replace hc0:=xT hc0
  refine q4 (Ai 0 BC O (Ai 1 BC O (ck' call132 (NG y x (by assumption) (by assumption)) O (asg' O (oNl' (zB (sL [2,3,4,9] O) (zA ?_)))))))
  refine zL O (λhc1=>?_) (λhc1=>?_)
  ·replace hc1:=xU hc1
   exact q4 (asg' O (oNl' (zA (zH (zS (zJ (ret_one O (rd_tmp (v:=(vI 1)) O) (λw hw=>⟨by unfold Nc;rw [if_neg hc0,if_pos hc1],hw.out⟩))))))))
  ·replace hc1:=xT hc1
   exact zC (zF (q2 (asg' O (oNl' (zA (zH (ret_one O (rd_tmp (v:=(vI 0)) O) (λw hw=>⟨by unfold Nc;rw [if_neg hc0,if_neg hc1],hw.out⟩))))))))
end
section
abbrev bA:={ p:Pt // Bn p<=1000 }
instance:Inhabited bA:=⟨⟨⟨0,0⟩,by decide⟩⟩
theorem eT:∀xs:List Pt,(∀x∈xs,Bn x<=1000)->∃ds:List bA,ds.map (·.1)=xs
  | [],_=>⟨[],rfl⟩
  | x::r,h=>by
    obtain ⟨ds,e⟩:=eT r λy hy=>h y (List.mem_cons_of_mem _ hy)
    exact ⟨⟨x,h x List.mem_cons_self⟩::ds,by rw [List.map_cons,e]⟩
def MO (x:bA):List Value:=AZ x.1
def bU (x y:bA):Int:=Nc x.1 y.1
theorem eB:Go.Sort.SWO (ltOf bU) where
  irrefl x:=xI (by unfold bU;rw [Fx];unfold Va;grind)
  trans x y z h1 h2:=by
    have h1:=Fx.1 (xU h1)
    have h2:=Fx.1 (xU h2)
    refine xJ (Fx.2 ?_)
    unfold Va at *
    grind
  ntrans x y z h1 h2:=by
    have h1:¬Nc x.1 y.1<0:=xT h1
    have h2:¬Nc y.1 z.1<0:=xT h2
    rw [Fx] at h1 h2
    refine xI ?_
    unfold bU
    rw [Fx]
    unfold Va at *
    grind
theorem bV (AX off size:Nat) (w:World):CmpLays prog 131 #[] MO 10 bU AX off size w:=λm os dk _ x y=>by
  rw [Array.append_empty]
  exact (Xe x.1 y.1 x.2 y.2 _).mono λe w' h=>⟨h.1,Rc h.2⟩
theorem M4 {d:Array bA} {t:Nat} (h:t<d.size*10):(rowsL AZ (d.toList.map (·.1)))[t]?=some (Go.Sort.flatK MO 10 d)[t]!:=by
  rw [Go.Sort.get_flatK _ _ _ _ h]
  have h1:t/10<d.size:=by omega
  have h2:=Cz Aq (⟨0,0⟩:Pt) (d.toList.map (·.1)) (t/10) (t%10) (by simpa using h1) (Nat.mod_lt _ jY) (v:=(MO d[t/10]!)[t%10]!) (by
    rw [List.getD,List.getElem?_map,show d.toList[t/10]?=some d[t/10] from by simp [h1],getElem!_pos d (t/10) h1]
    show (AZ (d[t/10]).1)[t%10]?=some (AZ (d[t/10]).1)[t%10]!
    have hl:t%10<(AZ (d[t/10]).1).length:=by rw [Aq];exact Nat.mod_lt _ jY
    rw [xQ hl,getElem!_pos (AZ (d[t/10]).1) (t%10) hl])
  rw [show t/10*10+t%10=t by omega] at h2
  exact h2
theorem Ya (x:bA):∀v∈MO x,v.oneCell'=true:=λv hv=>by
  unfold MO AZ AG at hv
  simp only [xO,List.mem_append,List.not_mem_nil,or_false] at hv
  rcases hv with (rfl|rfl|rfl|rfl|rfl)|(rfl|rfl|rfl|rfl|rfl)<;>rfl
theorem Wa (xs:List Pt) (p:Option Addr) (n c:Nat) (T:TypeId) (ho:OwnOk p n c) (hp0:p≠none) (hn:n=xs.length) (hN:n<4611686018427387904) (hb:∀x∈xs,Bn x<=1000) (w:World) (hrow:∀b,p.map (·.block)=some b->∃o,w.heap[b]?=some o/\(rowW p T 10 n c (rowsL AZ xs)).P o) :
    Calls prog 130 #[.slice p n c,.func (.func 131) #[] #[]] w λe w'=>e=.returned (.tuple #[])/\Jy w w' (p.map (·.block))/\∃ys:List Pt,ys.Perm xs/\∀b,p.map (·.block)=some b->∃o,w'.heap[b]?=some o/\(rowW p T 10 n c (rowsL AZ ys)).P o:=by
  cases hp:p with
  | none=>exact absurd hp hp0
  | some a =>
    subst hp
    obtain ⟨o,hob,cur,rfl,hsz,hcur⟩:=hrow a.block rfl
    have hat:=ho.at0 a rfl
    have hle:=ho.le
    obtain ⟨ds,hds⟩:=eT xs hb
    have hdl:ds.length=n:=by rw [hn,<-hds,xL]
    obtain ⟨d,hd⟩:∃d,d=ds.toArray:=⟨_,rfl⟩
    have hdz:d.size=n:=by rw [hd];simpa using hdl
    have hdx:d.toList.map (·.1)=xs:=by rw [hd];exact hds
    have hH:Go.Sort.HoldsK MO 10 w a.block 0 d:=λj hj=>by
      have hj':j<d.size*10:=by simpa using hj
      refine ⟨?_,by simp [World.frozen?,hob]⟩
      have h1:(cur.toList.take (n*10))[j]?=(rowsL AZ xs)[j]?:=by rw [hcur]
      rw [List.getElem?_take_of_lt Z,Array.getElem?_toList,<-hdx,M4 hj'] at h1
      show w.cell? ⟨a.block,0+j,none⟩=some (id (Go.Sort.flatK MO 10 d)[j]!)
      unfold World.cell?
      simp only [hob,Nat.zero_add]
      exact h1
    have hlt:a.block<w.heap.size:=by
      rcases Nat.lt_or_ge a.block w.heap.size with h|h
      · exact h
      · rw [Array.getElem?_eq_none h] at hob;cases hob
    have h:=Tryz.slices_SortFunc_Point 10 isAgg78 sizeOf78 MO (λx=>Aq x.1) Ya bU eB 131 #[] a.block 0 c d w call131 (bV a.block 0 d.size w) hH hlt Z
    rw [hdz] at h
    rw [hat]
    refine h.mono ?_
    rintro e w' ⟨rfl,d',m,os,⟨hz',_,hperm⟩,_,rfl⟩
    have hz2:d'.size=n:=by rw [hz',hdz]
    have hperm':d'.toList.Perm d.toList:=by
      have e1:d'.extract 0 n=d':=by rw [<-hz2];exact Array.extract_size
      have e2:d.extract 0 n=d:=by rw [<-hdz];exact Array.extract_size
      rw [e1,e2] at hperm
      exact hperm
    have hF:(Go.Sort.flatK MO 10 d').size=n*10:=by rw [Go.Sort.size_flatK,hz2]
    refine ⟨rfl,⟨⟨rfl,rfl,rfl,by simp [sortWorldK,Go.Sort.grow,Go.Sort.putRowK,Go.Sort.putRow,Go.Sort.mapBlock,Go.Sort.ahead],λj hj hne=>?_⟩,by show w.drawn<=w.drawn+m;omega⟩,d'.toList.map (·.1),by rw [<-hdx];exact hperm'.map _,λb e=>?_⟩
    · have hne':a.block≠j:=λe=>hne (by rw [e];rfl)
      unfold sortWorldK
      rw [Go.Sort.heap_grow_old _ _ (by simpa [Go.Sort.putRowK,Go.Sort.putRow,Go.Sort.mapBlock,Go.Sort.ahead] using hj)]
      simp [Go.Sort.putRowK,Go.Sort.putRow,Go.Sort.mapBlock,Go.Sort.ahead,Array.getElem?_modify,hne']
    · injection e with e
      subst e
      refine ⟨.cells (Go.Sort.putCells id 0 (Go.Sort.flatK MO 10 d') cur) T (0,0),?_,_,rfl,by simp [Go.Sort.putCells,hsz],?_⟩
      · unfold sortWorldK
        rw [Go.Sort.heap_grow_old _ _ (by simpa [Go.Sort.putRowK,Go.Sort.putRow,Go.Sort.mapBlock,Go.Sort.ahead] using hlt)]
        simp [Go.Sort.putRowK,Go.Sort.putRow,Go.Sort.mapBlock,Go.Sort.ahead,Array.getElem?_modify,hob,Go.Sort.onCells]
      · apply List.ext_getElem?
        intro j
        have hlen:(rowsL AZ (d'.toList.map (·.1))).length=n*10:=by rw [Ac Aq,xL,Array.length_toList,hz2]
        by_cases hj:j<n*10
        · have hcs:n*10<=c*10:=Nat.mul_le_mul_right _ hle
          rw [List.getElem?_take_of_lt hj,Array.getElem?_toList,M4 (by rw [hz2];exact hj)]
          unfold Go.Sort.putCells
          rw [Array.getElem?_mapIdx,Array.getElem?_eq_getElem Z,Option.map_some,if_pos ⟨xK _,Z⟩]
          rfl
        · rw [List.getElem?_take_eq_none Z,List.getElem?_eq_none Z]
section
variable {P:Program} {ops:Array Oper} {rest:List Oper} {Q:Exit->Act->World->Prop} {n:Nat} {F:List (Nat×Value)} {w0:BF} {L:List As}
theorem AU.callWX {o:Oper} {f:FuncId} {args:Array Value} {v:Value} {α:Type} {K:α->Prop} {cs':α->List Value} (i:Nat) {q:Option Addr} {T:TypeId} {z m c:Nat} {cs:List Value} (hw:Wt ops n F o)
    (he:∀a w,C1 n a F->BI w0 w L->(execOp a.eval o).run P w=.ok (.enter f args) w) (hi:L[i]?=some (rowW q T z m c cs))
    (hc:∀w,BI w0 w L->Calls P f args w λe w'=>e=.returned v/\Jy w w' (q.map (·.block))/\∃y,K y/\∀b,q.map (·.block)=some b->∃o,w'.heap[b]?=some o/\(rowW q T z m c (cs' y)).P o)
    (hd:∀d,o.dst=some d->d<n) (next:∀y,K y->AU P ops rest Q n (match o.dst with|some d=>(d,v)::F|none=>F) w0 (L.set i (rowW q T z m c (cs' y)))):AU P ops (o::rest) Q n F w0 L:=λa w ha hW=>by
  unfold wpList
  rw [if_pos (hw a ha)]
  left
  unfold Oper.wp
  rw [he a w ha hW,Oper.upon_enter]
  refine (hc w hW).mono ?_
  rintro e w' ⟨rfl,hg,y,hk,hr⟩
  have hW':=hW.renew hi rfl hg (y:=rowW q T z m c (cs' y)) λb e=>⟨.inl e,hr b e⟩
  have next:=next y hk
  cases hdd:o.dst with
  | none=>rw [hdd] at next;exact next _ _ ha.put_none hW'
  | some d=>rw [hdd] at next;exact next _ _ (ha.put (hd d hdd)) hW'
end
end
end Go.Proofs.YtbfdamnfcmefmaaGreatDoor
