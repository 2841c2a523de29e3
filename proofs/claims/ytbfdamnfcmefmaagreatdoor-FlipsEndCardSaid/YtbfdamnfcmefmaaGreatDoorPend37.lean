import Derived.Test.YtbfdamnfcmefmaaGreatDoorPend36
namespace Go.Proofs.YtbfdamnfcmefmaaGreatDoor
open Go Go.RowKit Go.Proofs.Tryz
open Go.Value renaming slice→qz,bool→qa
set_option linter.unusedVariables false
set_option linter.unusedSimpArgs false
section
set_option maxRecDepth 100000
theorem XZ {ps:List Pt} {ts ss:List T3} (x:MX ps ts ss) (hv:Eo ps ts ss) (w:World) {S:Nat->Prop} (hx:Ro S w x):Calls prog 62 #[(aG (Cf x))] w (Ac w (qa true)):=by
 have hp:=hv.pl
 have htl:=hv.tl
 have hsl:=hv.sl
 have h0:=hv.t0
 have lx:=DT (W:=w) hx
 refine Ag (args:=[(aG (Cf x))]) (L:=[AN x.a.p (rowsL Aa ps),AN x.b.p (rowsL Af ts),AN x.c.p (rowsL Af ss)]) func62 O O (A_ O) (DU hx Az) (zM (sL [0] O) (q4 (BV (cs:=Cf x) O λb1=>asg' O (q3 (sL [1,2] O) (AD (v:=(pP b1 0)) (AA O underlying34 O sizeOf32 O) O (BG 0 (qz x.a.p ps.length x.a.c) C2 O (AD (v:=(vN ps.length)) (AE O underlying32) O (asg' O (q6 (sL [1,2,3] O) (q4 ?_))))))))))
 refine AD (v:=(pP b1 1)) (AA O underlying34 O sizeOf28 O) O (BG 0 (qz x.b.p ts.length x.b.c) C5 O (AD (v:=(vN ts.length)) (AE O underlying28) O (AL O (oNl' (zB (sL [1,2,3,12,13,14] O) (zA (zI ?_)))))))
 refine zy (tg λ(i:Nat)=>i<=ts.length) (tg λ(i:Nat)=>[(1,(pP b1 0)),(3,(vN ps.length)),(12,(qz x.b.p ts.length x.b.c)),(13,(vN ts.length)),(14,(vN i))]) (tg λ(i:Nat)=>[AY b1 34 (Cf x),AN x.a.p (rowsL Aa ps),AN x.b.p (rowsL Af ts),AN x.c.p (rowsL Af ss)]) (tg λ(i:Nat)=>ts.length-i) 0 (xJ _) (sF O) sr (λi hJ=>?_)
 have hi:=hJ
 refine q4 (AD (Ab (c:=(decide (i<ts.length))) O O (DA (a:=i) (b:=ts.length))) O (oNl' (q1 ?_)))
 refine zK O (λhc0=>?_) (λhc0=>?_)
 ·replace hc0:=xT hc0
  obtain ⟨T,hT⟩:∃q,q=ts.getD i (0,0,0):=⟨_,rfl⟩
  obtain ⟨g1,g2,g3⟩:=Ct (Bw hv.num hc0)
  have hps:=hv.pos i hc0
  rw [<-hT] at g1 g2 g3 hps
  have z0:Bl (ps.getD T.1 ⟨0,0⟩)<=1000000:=hv.szM _
  have z1:Bl (ps.getD T.2.1 ⟨0,0⟩)<=1000000:=hv.szM _
  have z2:Bl (ps.getD T.2.2 ⟨0,0⟩)<=1000000:=hv.szM _
  refine zC (q1 (zI (q4 (AD (v:=(pP (pB x.b.p) (pO x.b.p+i*3))) (AO (j:=i) O O x.b.ok underlying28 sizeOf71 O Z) O (AD (v:=(aG (Af (ts.getD i jJ)))) (AM (vs:=Af (ts.getD i jJ)) (i:=2) O O (A8.ne x.b.ok Z) Ec (Ae Av _ _ _ Z) (Av _)) O (zL (k:=17) (u:=(aG (Af T))) O (by rw [hT]) (al J1 O λb2=>Ah O sizeOf71 O (q6 (sL [1,3,12,13,14,5] O) (C8 [(0,true),(1,true),(2,true),(3,false),(4,true),(5,true),(6,true),(7,true),(8,true),(9,false),(10,true),(11,true),(12,true),(13,true),(14,true),(15,true),(16,false),(17,true),(18,true),(19,true),(20,true),(21,true),(22,true),(23,true),(24,true),(25,true),(26,true),(27,true),(28,true),(29,true),(30,true),(31,true),(32,true),(33,true),(34,true),(35,true),(36,true),(37,true),(38,false),(39,true),(40,true)] sr (Al (v:=(pP b2 0)) O (AB (j:=0) O O underlying71 sizeOf3 O jY O) ?_))))))))))
  refine BQ 0 (vN T.1) Bk O (Bp O (zN O (C3 (args:=[(vN T.1),(vN ps.length)]) (v:=(qa true)) call117 (λw hw=>(by have h9:=Cc T.1 ps.length w;rw [xI Z] at h9;exact h9)) O (zD sr (Al O (BE (c:=false) O O) (Bp O (zW (v:=(pP b2 1)) O (AU O) (AB (j:=1) O O underlying71 sizeOf3 O jY O) O O (zW (v:=(vN T.2.1)) O (AU O) (AH (i:=0) (v:=(vN T.2.1)) O O Bk.a O) O O (zW (v:=(vN ps.length)) O (AU O) (Cn O) O O (zN O (zg (v:=(qa true)) (AU O) (Am (args:=[(vN T.2.1),(vN ps.length)]) O O call117) (λw hw=>(by have h9:=Cc T.2.1 ps.length w;rw [xI Z] at h9;exact h9)) O (A_ O) ?_)))))))))))
  refine zD sr (zW (v:=(qa false)) O (AU O) (BE (c:=false) O O) O O (Al (v:=(qa false)) O (AP O O) (Bp O (zW (v:=(pP b2 2)) O (AU O) (AB (j:=2) O O underlying71 sizeOf3 O jY O) O O (zW (v:=(vN T.2.2)) O (AU O) (AH (i:=0) (v:=(vN T.2.2)) O O Bk.a O) O O (zW (v:=(vN ps.length)) O (AU O) (Cn O) O O (zN O (zg (v:=(qa true)) (AU O) (Am (args:=[(vN T.2.2),(vN ps.length)]) O O call117) (λw hw=>(by have h9:=Cc T.2.2 ps.length w;rw [xI Z] at h9;exact h9)) O (A_ O) (zD sr (zW (v:=(qa false)) O (AU O) (BE (c:=false) O O) O O (Al (v:=(qa false)) O (AP O O) ?_)))))))))))
  refine Bp O (zW (v:=(pP b1 0)) O (AU O) (AA O underlying34 O sizeOf32 O) O O (zW (v:=(qz x.a.p ps.length x.a.c)) O (AU O) (AH (i:=1) (v:=(qz x.a.p ps.length x.a.c)) O O C2.a O) O O (zW (v:=(pP b2 0)) O (AU O) (AB (j:=0) O O underlying71 sizeOf3 O jY O) O O (zW (v:=(vN T.1)) O (AU O) (AH (i:=0) (v:=(vN T.1)) O O Bk.a O) O O (zW (v:=(pP (pB x.a.p) (pO x.a.p+T.1*10))) O (AU O) (AO (j:=T.1) O O x.a.ok underlying32 sizeOf78 O Z) O O (zW (v:=(aG (Aa (ps.getD T.1 (⟨0,0⟩:Pt))))) O (AU O) (AM (vs:=Aa (ps.getD T.1 (⟨0,0⟩:Pt))) (i:=2) O O (A8.ne x.a.ok Z) A9 (Ae Ap _ _ _ Z) (Ap _)) O O (zW (v:=(pP b1 0)) O (AU O) (AA O underlying34 O sizeOf32 O) O O (zW (v:=(qz x.a.p ps.length x.a.c)) O (AU O) (AH (i:=1) (v:=(qz x.a.p ps.length x.a.c)) O O C2.a O) O O (zW (v:=(pP b2 1)) O (AU O) (AB (j:=1) O O underlying71 sizeOf3 O jY O) O O (zW (v:=(vN T.2.1)) O (AU O) (AH (i:=0) (v:=(vN T.2.1)) O O Bk.a O) O O (zW (v:=(pP (pB x.a.p) (pO x.a.p+T.2.1*10))) O (AU O) (AO (j:=T.2.1) O O x.a.ok underlying32 sizeOf78 O Z) O O ?_)))))))))))
  refine zW (v:=(aG (Aa (ps.getD T.2.1 (⟨0,0⟩:Pt))))) O (AU O) (AM (vs:=Aa (ps.getD T.2.1 (⟨0,0⟩:Pt))) (i:=2) O O (A8.ne x.a.ok Z) A9 (Ae Ap _ _ _ Z) (Ap _)) O O (zW (v:=(pP b1 0)) O (AU O) (AA O underlying34 O sizeOf32 O) O O (zW (v:=(qz x.a.p ps.length x.a.c)) O (AU O) (AH (i:=1) (v:=(qz x.a.p ps.length x.a.c)) O O C2.a O) O O (zW (v:=(pP b2 2)) O (AU O) (AB (j:=2) O O underlying71 sizeOf3 O jY O) O O (zW (v:=(vN T.2.2)) O (AU O) (AH (i:=0) (v:=(vN T.2.2)) O O Bk.a O) O O (zW (v:=(pP (pB x.a.p) (pO x.a.p+T.2.2*10))) O (AU O) (AO (j:=T.2.2) O O x.a.ok underlying32 sizeOf78 O Z) O O (zW (v:=(aG (Aa (ps.getD T.2.2 (⟨0,0⟩:Pt))))) O (AU O) (AM (vs:=Aa (ps.getD T.2.2 (⟨0,0⟩:Pt))) (i:=2) O O (A8.ne x.a.ok Z) A9 (Ae Ap _ _ _ Z) (Ap _)) O O (zN O (zg (v:=(vI ((AC (ps.getD T.1 (⟨0,0⟩:Pt)) (ps.getD T.2.1 (⟨0,0⟩:Pt)) (ps.getD T.2.2 (⟨0,0⟩:Pt))).num.sign))) (AU O) (Am (args:=[(aG (Aa (ps.getD T.1 (⟨0,0⟩:Pt)))),(aG (Aa (ps.getD T.2.1 (⟨0,0⟩:Pt)))),(aG (Aa (ps.getD T.2.2 (⟨0,0⟩:Pt))))]) O O call111) (λw hw=>Gw (ps.getD T.1 (⟨0,0⟩:Pt)) (ps.getD T.2.1 (⟨0,0⟩:Pt)) (ps.getD T.2.2 (⟨0,0⟩:Pt)) Z w) O (A_ O) (zD sr (zW (v:=(qa false)) O (AU O) (Bv (c:=false) O O (xH (λh9=>h9 hps))) O O (Al (v:=(qa false)) O (AP O O) ?_)))))))))))
  exact zQ (zB (sL [1,3,12,13,14,5,58] O) (zA (zS O (zC (zF (zA (zH (AD (AS (c:=((i+1:Nat):Int)) O O (AV (a:=i) (b:=1) Z)) O (AL O (oNl' (zB (sL [1,3,12,13,14,5] O) (zm (i+1) Z Z (sF O) (sl sr)))))))))))))
 ·replace hc0:=xS hc0
  refine zU (zO (zY (zP (q1 (q4 (AD (v:=(pP b1 2)) (AA O underlying34 O sizeOf29 O) O (BG 0 (qz x.c.p ss.length x.c.c) Qz O (AD (v:=(vN ss.length)) (AE O underlying29) O (AL O (oNl' (zB (sL [1,3,12,13,14,61,62,63] O) ?_)))))))))))
  refine zA (zI ?_)
  refine zy (tg λ(i:Nat)=>i<=ss.length) (tg λ(i:Nat)=>[(1,(pP b1 0)),(3,(vN ps.length)),(61,(qz x.c.p ss.length x.c.c)),(62,(vN ss.length)),(63,(vN i))]) (tg λ(i:Nat)=>[AY b1 34 (Cf x),AN x.a.p (rowsL Aa ps),AN x.b.p (rowsL Af ts),AN x.c.p (rowsL Af ss)]) (tg λ(i:Nat)=>ss.length-i) 0 (xJ _) (sF O) sr (λi hJ=>?_)
  have hi:=hJ
  refine q4 (AD (Ab (c:=(decide (i<ss.length))) O O (DA (a:=i) (b:=ss.length))) O (oNl' (q1 ?_)))
  refine zK O (λhc2=>?_) (λhc2=>?_)
  ·replace hc2:=xT hc2
   obtain ⟨sd,hsd⟩:∃q,q=ss.getD i (0,0,0):=⟨_,rfl⟩
   obtain ⟨g1,g2,g3⟩:=hv.sid i hc2
   rw [<-hsd] at g1 g2 g3
   refine zC (q1 (zI (q4 (AD (v:=(pP (pB x.c.p) (pO x.c.p+i*3))) (AO (j:=i) O O x.c.ok underlying29 sizeOf80 O Z) O (AD (v:=(aG (Af (ss.getD i jJ)))) (AM (vs:=Af (ss.getD i jJ)) (i:=3) O O (A8.ne x.c.ok Z) Qy (Ae Av _ _ _ Z) (Av _)) O (zL (k:=66) (u:=(aG (Af sd))) O (by rw [hsd]) (al eQ O λb2=>Ah O sizeOf80 O (q3 (sL [1,3,61,62,63,7] O) (AD (v:=(pP b2 0)) (AA O underlying80 O sizeOf3 O) O (BG 0 (vN sd.1) Bk O ?_))))))))))
   refine AL O (C3 (args:=[(vN sd.1),(vN ps.length)]) (v:=(qa true)) call117 (λw hw=>(by have h9:=Cc sd.1 ps.length w;rw [xI Z] at h9;exact h9)) O (AD (BE (c:=false) O O) O (AL O (BI (v:=(pP b2 1)) O (AA O underlying80 O sizeOf3 O) (BI (v:=(vN sd.2.1)) O (AH (i:=0) (v:=(vN sd.2.1)) O O Bk.a O) (Gq O (zg (v:=(qa true)) (AU O) (Am (args:=[(vN sd.2.1),(vN ps.length)]) O O call117) (λw hw=>(by have h9:=Cc sd.2.1 ps.length w;rw [xI Z] at h9;exact h9)) O (A_ O) (BI (v:=(qa false)) O (BE (c:=false) O O) (AD (v:=(qa false)) (AP O O) O (AL O (BI (v:=(pP b2 2)) O (AA O underlying80 O sizeOf3 O) ?_)))))))))))
   refine BI (v:=(vN sd.2.2)) O (AH (i:=0) (v:=(vN sd.2.2)) O O Bk.a O) (BI (v:=(qa false)) O (Ab (c:=false) O O (xH Z)) (AD (v:=(qa false)) (AP O O) O (AL O (BI (v:=(pP b2 2)) O (AA O underlying80 O sizeOf3 O) (BI (v:=(vN sd.2.2)) O (AH (i:=0) (v:=(vN sd.2.2)) O O Bk.a O) (BI (v:=(qa false)) O (Da (c:=false) O O (xH Z)) (AD (v:=(qa false)) (AP O O) O (oNl' (zB (sL [1,3,61,62,63,7,88] O) (zA (zS O ?_)))))))))))
   exact zC (zF (zA (zH (AD (AS (c:=((i+1:Nat):Int)) O O (AV (a:=i) (b:=1) Z)) O (AL O (oNl' (zB (sL [1,3,61,62,63,7] O) (zm (i+1) Z Z (sF O) (sl sr)))))))))
  ·replace hc2:=xS hc2
   refine zU (zO (zY (zP (q2 (AD (v:=(pP b1 1)) (AA O underlying34 O sizeOf28 O) O (BG 0 (qz x.b.p ts.length x.b.c) C5 O (AD (v:=(vN ts.length)) (AE O underlying28) O (AD (Da (c:=true) O O (xI Z)) O (asg' O (oNl' (zB (sL [1,3,61,62,63,2] O) ?_)))))))))))
   exact zA (zG (ret_one O (rd_tmp (v:=(qa true)) O) (λw hw=>⟨rfl,hw.out⟩)))
theorem Zp (a b c p:Pt) (hs:Bl a+Bl b+Bl c+Bl p<=268435456) (w:World):Calls prog 137 #[aG (Aa a),aG (Aa b),aG (Aa c),aG (Aa p)] w (Ac w (vN (IE a b c p))):=by
 unfold IE
 by_cases h:AC a b c=0
 ·rw [if_pos h];exact SG a b c p hs h w
 ·rw [if_neg h];exact UJ a b c p hs h w
set_option maxHeartbeats 1000000 in
theorem UO {ps:List Pt} {ts ss:List T3} (x:MX ps ts ss) (hv:Eo ps ts ss) (w:World) {S:Nat->Prop} (hx:Ro S w x):Calls prog 64 #[(aG (Cf x))] w (Ac w (qa true)):=by
 have hp:=hv.pl
 have htl:=hv.tl
 have hsl:=hv.sl
 have h0:=hv.t0
 have hq:∀t:T3,Bl (Bd ps t).1<=1000000/\Bl (Bd ps t).2.1<=1000000/\Bl (Bd ps t).2.2<=1000000:=λt=>⟨hv.szM _,hv.szM _,hv.szM _⟩
 have lx:=DT (W:=w) hx
 refine Ag (args:=[(aG (Cf x))]) (L:=[AN x.a.p (rowsL Aa ps),AN x.b.p (rowsL Af ts),AN x.c.p (rowsL Af ss)]) func64 O O (A_ O) (DU hx Az) (zM (sL [0] O) (q4 (BV (cs:=Cf x) O λb1=>asg' O (q6 (sL [1,2] O) (q4 (AD (v:=(pP b1 1)) (AA O underlying34 O sizeOf28 O) O (BG 0 (qz x.b.p ts.length x.b.c) C5 O (AD (v:=(vN ts.length)) (AE O underlying28) O (AL O (oNl' ?_))))))))))
 refine zB (sL [1,2,11,12] O) (zA (zI ?_))
 refine zy (tg λ(i:Nat)=>i<=ts.length) (tg λ(i:Nat)=>[(1,(pP b1 0)),(11,(vN ts.length)),(12,(vN i))]) (tg λ(i:Nat)=>[AY b1 34 (Cf x),AN x.a.p (rowsL Aa ps),AN x.b.p (rowsL Af ts),AN x.c.p (rowsL Af ss)]) (tg λ(i:Nat)=>ts.length-i) 0 (xJ _) (sF O) sr (λi hJ=>?_)
 have hi:=hJ
 refine q4 (AD (Ab (c:=(decide (i<ts.length))) O O (DA (a:=i) (b:=ts.length))) O (oNl' (q1 ?_)))
 refine zK O (λhc0=>?_) (λhc0=>?_)
 ·replace hc0:=xT hc0
  refine zC (q1 (zI (q4 (AL O (asg' O (q3 (sL [1,11,12,3] O) (Ak 0 BY O (AL O (C3 call134 (λw hw=>Ks x i Z Z Z (Bw hv.num Z) w (CL hw 1 O lx)) O (al Wq O λb2=>Ah O sizeOf204 O ?_))))))))))
  refine q6 (sL [1,11,12,3,4] O) (q4 (AL O (AL O (oNl' (zA (zI ?_))))))
  refine zy (tg λ(k:Nat)=>k<=i) (tg λ(k:Nat)=>[(1,(pP b1 0)),(11,(vN ts.length)),(12,(vN i)),(3,(vN i)),(4,(pP b2 0)),(18,(vN i)),(19,(vN k))]) (tg λ(k:Nat)=>[AY b2 204 (H8 (Bd ps (ts.getD i (0,0,0)))),AY b1 34 (Cf x),AN x.a.p (rowsL Aa ps),AN x.b.p (rowsL Af ts),AN x.c.p (rowsL Af ss)]) (tg λ(k:Nat)=>i-k) 0 (xJ _) (sF O) sr (λk hJ=>?_)
  have hk:=hJ
  refine q4 (AD (Ab (c:=(decide (k<i))) O O (DA (a:=k) (b:=i))) O (oNl' (q1 ?_)))
  refine zK O (λhc1=>?_) (λhc1=>?_)
  ·replace hc1:=xT hc1
   refine zC (q1 (zI (q4 (AL O (asg' O (q3 (sL [1,11,12,3,4,18,19,5] O) (Ak 1 BY O (AL O (C3 call134 (λw hw=>Ks x k Z Z Z (Bw hv.num Z) w (CL hw 2 O lx)) O (al Wq O λb3=>Ah O sizeOf204 O ?_))))))))))
   refine q3 (sL [1,11,12,3,4,18,19,6] O) (Ak 1 NJ O (Ak 0 NJ O (ck' call135 (US (Bd ps (ts.getD i (0,0,0))) (Bd ps (ts.getD k (0,0,0))) (hq _) (hq _)) O (AD (BE (c:=(!(Dw (Bd ps (ts.getD i (0,0,0))) (Bd ps (ts.getD k (0,0,0)))))) O O) O (AL O ?_)))))
   refine zi (FM:=[(1,(pP b1 0)),(11,(vN ts.length)),(12,(vN i)),(3,(vN i)),(4,(pP b2 0)),(18,(vN i)),(19,(vN k)),(6,(pP b3 0)),(25,(aG (H8 (Bd ps (ts.getD i (0,0,0)))))),(26,(aG (H8 (Bd ps (ts.getD k (0,0,0)))))),(27,(qa (Dw (Bd ps (ts.getD i (0,0,0))) (Bd ps (ts.getD k (0,0,0)))))),(28,(qa (!(Dw (Bd ps (ts.getD i (0,0,0))) (Bd ps (ts.getD k (0,0,0))))))),(29,(qa (!(Dw (Bd ps (ts.getD i (0,0,0))) (Bd ps (ts.getD k (0,0,0))))))),(34,(qa ((!(Dw (Bd ps (ts.getD i (0,0,0))) (Bd ps (ts.getD k (0,0,0)))))&&(!(Dw (Bd ps (ts.getD k (0,0,0))) (Bd ps (ts.getD i (0,0,0))))))))]) (LM:=[AY b3 204 (H8 (Bd ps (ts.getD k (0,0,0)))),AY b2 204 (H8 (Bd ps (ts.getD i (0,0,0)))),AY b1 34 (Cf x),AN x.a.p (rowsL Aa ps),AN x.b.p (rowsL Af ts),AN x.c.p (rowsL Af ss)]) 5 ?_ ?_
   ·rcases xQ (!(Dw (Bd ps (ts.getD i (0,0,0))) (Bd ps (ts.getD k (0,0,0))))) with hg1|hg1
    ·refine zL (k:=29) (u:=qa true) O (by rw [hg1]) ?_
     have hg1':=hg1
     simp only [jK] at hg1'
     exact BI (v:=(aG (H8 (Bd ps (ts.getD k (0,0,0)))))) O (Ad (i:=0) (vs:=H8 (Bd ps (ts.getD k (0,0,0)))) O O NJ.a NJ.s O O) (BI (v:=(aG (H8 (Bd ps (ts.getD i (0,0,0)))))) O (Ad (i:=1) (vs:=H8 (Bd ps (ts.getD i (0,0,0)))) O O NJ.a NJ.s O O) (zg (v:=(qa (Dw (Bd ps (ts.getD k (0,0,0))) (Bd ps (ts.getD i (0,0,0)))))) (AU O) (Am (args:=[(aG (H8 (Bd ps (ts.getD k (0,0,0))))),(aG (H8 (Bd ps (ts.getD i (0,0,0)))))]) O O call135) (λw hw=>US (Bd ps (ts.getD k (0,0,0))) (Bd ps (ts.getD i (0,0,0))) (hq _) (hq _) w) O (A_ O) (BI (v:=(qa (!(Dw (Bd ps (ts.getD k (0,0,0))) (Bd ps (ts.getD i (0,0,0))))))) O (BE (c:=(!(Dw (Bd ps (ts.getD k (0,0,0))) (Bd ps (ts.getD i (0,0,0)))))) O O) (AD (v:=(qa (!(Dw (Bd ps (ts.getD k (0,0,0))) (Bd ps (ts.getD i (0,0,0))))))) (AX O O) O (oNl' (zT Cd (xR _)))))))
    ·refine zL (k:=29) (u:=qa false) O (by rw [hg1]) ?_
     have hg1':=hg1
     simp only [jK] at hg1'
     exact BT O (BT O (BT O (BT O (AD (v:=(qa false)) (AP O O) O (oNl' (zT Cd (xR _)))))))
   refine oNl' (zB (sL [1,11,12,3,4,18,19,6,34] O) (zA ?_))
   refine zK O (λhc2=>?_) (λhc2=>?_)
   ·simp only [jK] at hc2
    have h9:=hv.apart i k Z Z;rw [hc2.1,hc2.2] at h9;cases h9
   ·simp only [jK] at hc2
    exact zC (zF (zA (zH (AD (AS (c:=((k+1:Nat):Int)) O O (AV (a:=k) (b:=1) Z)) O (AL O (oNl' (zB (sL [1,11,12,3,4,18,19,6] O) (zm (k+1) Z Z (sF O) (sl sr)))))))))
  ·replace hc1:=xS hc1
   refine zU (zO (zY (zP (q2 (AD (v:=(pP b1 0)) (AA O underlying34 O sizeOf32 O) O (BG 1 (qz x.a.p ps.length x.a.c) C2 O (AD (v:=(vN ps.length)) (AE O underlying32) O (AL O (oNl' (zB (sL [1,11,12,3,4,18,19,37,38,39] O) (zA ?_)))))))))))
   refine zI ?_
   refine zy (tg λ(p:Nat)=>p<=ps.length) (tg λ(p:Nat)=>[(1,(pP b1 0)),(11,(vN ts.length)),(12,(vN i)),(3,(vN i)),(4,(pP b2 0)),(37,(qz x.a.p ps.length x.a.c)),(38,(vN ps.length)),(39,(vN p))]) (tg λ(p:Nat)=>[AY b2 204 (H8 (Bd ps (ts.getD i (0,0,0)))),AY b1 34 (Cf x),AN x.a.p (rowsL Aa ps),AN x.b.p (rowsL Af ts),AN x.c.p (rowsL Af ss)]) (tg λ(p:Nat)=>ps.length-p) 0 (xJ _) (sF O) sr (λp hJ=>?_)
   have hp:=hJ
   refine q4 (AD (Ab (c:=(decide (p<ps.length))) O O (DA (a:=p) (b:=ps.length))) O (oNl' (q1 ?_)))
   refine zK O (λhc3=>?_) (λhc3=>?_)
   ·replace hc3:=xT hc3
    refine zC (q1 (zI (q4 (AL O (AD (v:=(pP (pB x.a.p) (pO x.a.p+p*10))) (AO (j:=p) O O x.a.ok underlying32 sizeOf78 O Z) O (AD (v:=(aG (Aa (ps.getD p (⟨0,0⟩:Pt))))) (AM (vs:=Aa (ps.getD p (⟨0,0⟩:Pt))) (i:=2) O O (A8.ne x.a.ok Z) A9 (Ae Ap _ _ _ Z) (Ap _)) O (al Em O λb3=>asg' O (Ah O sizeOf78 O (q3 (sL [1,11,12,3,4,37,38,39,8,7] O) (AD (v:=(pP b1 1)) (AA O underlying34 O sizeOf28 O) O ?_))))))))))
    refine BG 2 (qz x.b.p ts.length x.b.c) C5 O (AL O (AD (v:=(pP (pB x.b.p) (pO x.b.p+i*3))) (AO (j:=i) O O x.b.ok underlying28 sizeOf71 O Z) O (AD (v:=(qz (some ⟨(pB x.b.p),pO x.b.p+i*3,none⟩) 3 3)) (No O underlying71 sizeOf3 jY) O (AL O (C3 call136 (λw hw=>To (ts.getD i (0,0,0)) p ⟨some ⟨pB x.b.p,pO x.b.p+i*3,none⟩,3,ak _ _⟩ w (Yy (aZ (CL hw 3 O lx)) Z _)) O (AD (BE (c:=(!(B4 (ts.getD i (0,0,0)) p))) O O) O (AL O ?_)))))))
    refine zi (FM:=[(1,(pP b1 0)),(11,(vN ts.length)),(12,(vN i)),(3,(vN i)),(4,(pP b2 0)),(37,(qz x.a.p ps.length x.a.c)),(38,(vN ps.length)),(39,(vN p)),(8,(pP b3 0)),(7,(vN p)),(44,(pP b1 1)),(45,(qz x.b.p ts.length x.b.c)),(46,(vN i)),(47,(pP (pB x.b.p) (pO x.b.p+i*3))),(48,(qz (some ⟨(pB x.b.p),pO x.b.p+i*3,none⟩) 3 3)),(49,(vN p)),(50,(qa (B4 (ts.getD i (0,0,0)) p))),(51,(qa (!(B4 (ts.getD i (0,0,0)) p)))),(52,(qa (!(B4 (ts.getD i (0,0,0)) p)))),(62,(qa ((!(B4 (ts.getD i (0,0,0)) p))&&false)))]) (LM:=[AY b3 78 (Aa (ps.getD p (⟨0,0⟩:Pt))),AY b2 204 (H8 (Bd ps (ts.getD i (0,0,0)))),AY b1 34 (Cf x),AN x.a.p (rowsL Aa ps),AN x.b.p (rowsL Af ts),AN x.c.p (rowsL Af ss)]) 10 ?_ ?_
    ·rcases xQ (!(B4 (ts.getD i (0,0,0)) p)) with hg2|hg2
     ·refine zL (k:=52) (u:=qa true) O (by rw [hg2]) ?_
      have hg2':=hg2
      simp only [jK] at hg2'
      exact BI (v:=(pP b2 0)) O (AB (j:=0) O O underlying204 sizeOf78 O jY O) (BI (v:=(aG (Aa ((Bd ps (ts.getD i (0,0,0))).1)))) O (Ad (i:=1) (vs:=Aa ((Bd ps (ts.getD i (0,0,0))).1)) O O A9.a A9.s O O) (BI (v:=(pP b2 10)) O (AB (j:=1) O O underlying204 sizeOf78 O jY O) (BI (v:=(aG (Aa ((Bd ps (ts.getD i (0,0,0))).2.1)))) O (Ad (i:=1) (vs:=Aa ((Bd ps (ts.getD i (0,0,0))).2.1)) O O A9.a A9.s O O) (BI (v:=(pP b2 20)) O (AB (j:=2) O O underlying204 sizeOf78 O jY O) (BI (v:=(aG (Aa ((Bd ps (ts.getD i (0,0,0))).2.2)))) O (Ad (i:=1) (vs:=Aa ((Bd ps (ts.getD i (0,0,0))).2.2)) O O A9.a A9.s O O) (BI (v:=(aG (Aa (ps.getD p (⟨0,0⟩:Pt))))) O (Ad (i:=0) (vs:=Aa (ps.getD p (⟨0,0⟩:Pt))) O O A9.a A9.s O O) (zg (v:=(vN (JR ps (ps.getD p ⟨0,0⟩) (ts.getD i (0,0,0))))) (AU O) (Am (args:=[(aG (Aa ((Bd ps (ts.getD i (0,0,0))).1))),(aG (Aa ((Bd ps (ts.getD i (0,0,0))).2.1))),(aG (Aa ((Bd ps (ts.getD i (0,0,0))).2.2))),(aG (Aa (ps.getD p (⟨0,0⟩:Pt))))]) O O call137) (λw hw=>Zp ((Bd ps (ts.getD i (0,0,0))).1) ((Bd ps (ts.getD i (0,0,0))).2.1) ((Bd ps (ts.getD i (0,0,0))).2.2) (ps.getD p ⟨0,0⟩) (by have z1:=hq (ts.getD i (0,0,0));have z2:Bl (ps.getD p ⟨0,0⟩)<=1000000:=hv.szM p;omega) w) O (A_ O) (BI (v:=(qa false)) O (Bv (c:=false) O O (xH (by have h8:=hv.crn i p Z Z hg2';unfold cor at h8;omega))) (AD (v:=(qa false)) (AX O O) O (oNl' (zT It (xR _))))))))))))
     ·refine zL (k:=52) (u:=qa false) O (by rw [hg2]) ?_
      have hg2':=hg2
      simp only [jK] at hg2'
      exact BT O (BT O (BT O (BT O (BT O (BT O (BT O (BT O (BT O (AD (v:=(qa false)) (AP O O) O (oNl' (zT It (xR _))))))))))))
    refine oNl' (zB (sL [1,11,12,3,4,37,38,39,8,62] O) (zA ?_))
    refine zK O (λhc4=>?_) (λhc4=>?_)
    ·simp only [jK] at hc4
     simp at hc4
    ·simp only [jK] at hc4
     exact zC (zF (zA (zH (AD (AS (c:=((p+1:Nat):Int)) O O (AV (a:=p) (b:=1) Z)) O (AL O (oNl' (zB (sL [1,11,12,3,4,37,38,39,8] O) (zm (p+1) Z Z (sF O) (sl sr)))))))))
   ·replace hc3:=xS hc3
    exact zU (zO (zY (zP (zF (zA (zH (AD (AS (c:=((i+1:Nat):Int)) O O (AV (a:=i) (b:=1) Z)) O (AL O (oNl' (zB (sL [1,11,12,3,4,37,38,39] O) (zm (i+1) Z Z (sF O) (sl sr))))))))))))
 ·replace hc0:=xS hc0
  exact zU (zO (zY (zP (q2 (asg' O (oNl' (zA (zG (ret_one O (rd_tmp (v:=(qa true)) O) (λw hw=>⟨rfl,hw.out⟩))))))))))
end
section
set_option maxRecDepth 100000
theorem Xk (x y:Pt) (hx:Bl x<=1000) (hy:Bl y<=1000) (w:World)  :Calls prog 131 #[(aG (Aa x)),(aG (Aa y))] w (Ac w (vI (Nb x y))):=by
 refine AW (args:=[(aG (Aa x)),(aG (Aa y))]) func131 O O (A_ O) (zM (sL [0,1] O) (q4 (BV (cs:=Aa x) O λb1=>BV (cs:=Aa y) O λb2=>asg' O (q6 (sL [2,3,4] O) (zI (q4 (Ak 1 A9 O (Ak 0 A9 O (ck' call132 (ND x y (by assumption) (by assumption)) O ?_)))))))))
 refine asg' O (oNl' (zB (sL [2,3,4,5] O) (zA ?_)))
 refine zK O (λhc0=>?_) (λhc0=>?_)
 ·replace hc0:=xT hc0
  exact q4 (asg' O (oNl' (zA (zG (zR (zJ (ret_one O (rd_tmp (v:=(vI (-1:Int))) O) (λw hw=>⟨by unfold Nb;rw [if_pos hc0],hw.out⟩))))))))
 ·replace hc0:=xS hc0
  refine q4 (Ak 0 A9 O (Ak 1 A9 O (ck' call132 (ND y x (by assumption) (by assumption)) O (asg' O (oNl' (zB (sL [2,3,4,9] O) (zA ?_)))))))
  refine zK O (λhc1=>?_) (λhc1=>?_)
  ·replace hc1:=xT hc1
   exact q4 (asg' O (oNl' (zA (zG (zR (zJ (ret_one O (rd_tmp (v:=(vI 1)) O) (λw hw=>⟨by unfold Nb;rw [if_neg hc0,if_pos hc1],hw.out⟩))))))))
  ·replace hc1:=xS hc1
   exact zC (zF (q2 (asg' O (oNl' (zA (zG (ret_one O (rd_tmp (v:=(vI 0)) O) (λw hw=>⟨by unfold Nb;rw [if_neg hc0,if_neg hc1],hw.out⟩))))))))
end
section
abbrev bN:={ p:Pt // Bl p<=1000 }
instance:Inhabited bN:=⟨⟨⟨0,0⟩,by decide⟩⟩
theorem eo:∀xs:List Pt,(∀x∈xs,Bl x<=1000)->∃ds:List bN,ds.map (·.1)=xs
  | [],_=>⟨[],rfl⟩
  | x::r,h=>by
    obtain ⟨ds,e⟩:=eo r λy hy=>h y (List.mem_cons_of_mem _ hy)
    exact ⟨⟨x,h x List.mem_cons_self⟩::ds,by rw [List.map_cons,e]⟩
def ML (x:bN):List Value:=Aa x.1
def bj (x y:bN):Int:=Nb x.1 y.1
theorem eM:Go.Sort.SWO (ltOf bj) where
  irrefl x:=xH (by unfold bj;rw [Fx];unfold Vd;grind)
  trans x y z h1 h2:=by
    have h1:=Fx.1 (xT h1)
    have h2:=Fx.1 (xT h2)
    refine xI (Fx.2 ?_)
    unfold Vd at *
    grind
  ntrans x y z h1 h2:=by
    have h1:¬Nb x.1 y.1<0:=xS h1
    have h2:¬Nb y.1 z.1<0:=xS h2
    rw [Fx] at h1 h2
    refine xH ?_
    unfold bj
    rw [Fx]
    unfold Vd at *
    grind
theorem bk (AY off size:Nat) (w:World):CmpLays prog 131 #[] ML 10 bj AY off size w:=λm os dk _ x y=>by
  rw [Array.append_empty]
  exact (Xk x.1 y.1 x.2 y.2 _).mono λe w' h=>⟨h.1,Rb h.2⟩
theorem M1 {d:Array bN} {t:Nat} (h:t<d.size*10):(rowsL Aa (d.toList.map (·.1)))[t]?=some (Go.Sort.flatK ML 10 d)[t]!:=by
  rw [Go.Sort.get_flatK _ _ _ _ h]
  have h1:t/10<d.size:=by omega
  have h2:=D_ Ap (⟨0,0⟩:Pt) (d.toList.map (·.1)) (t/10) (t%10) (by simpa using h1) (Nat.mod_lt _ jY) (v:=(ML d[t/10]!)[t%10]!) (by
    rw [List.getD,List.getElem?_map,show d.toList[t/10]?=some d[t/10] from by simp [h1],getElem!_pos d (t/10) h1]
    show (Aa (d[t/10]).1)[t%10]?=some (Aa (d[t/10]).1)[t%10]!
    have hl:t%10<(Aa (d[t/10]).1).length:=by rw [Ap];exact Nat.mod_lt _ jY
    rw [xP hl,getElem!_pos (Aa (d[t/10]).1) (t%10) hl])
  rw [show t/10*10+t%10=t by omega] at h2
  exact h2
theorem Ym (x:bN):∀v∈ML x,v.oneCell'=true:=λv hv=>by
  unfold ML Aa AF at hv
  simp only [xN,List.mem_append,List.not_mem_nil,or_false] at hv
  rcases hv with (rfl|rfl|rfl|rfl|rfl)|(rfl|rfl|rfl|rfl|rfl)<;>rfl
theorem Wc (xs:List Pt) (p:Option Addr) (n c:Nat) (T:TypeId) (ho:OwnOk p n c) (hp0:p≠none) (hn:n=xs.length) (hN:n<4611686018427387904) (hb:∀x∈xs,Bl x<=1000) (w:World) (hrow:∀b,p.map (·.block)=some b->∃o,w.heap[b]?=some o/\(rowW p T 10 n c (rowsL Aa xs)).P o) :
    Calls prog 130 #[.slice p n c,.func (.func 131) #[] #[]] w λe w'=>e=.returned (.tuple #[])/\Jq w w' (p.map (·.block))/\∃ys:List Pt,ys.Perm xs/\∀b,p.map (·.block)=some b->∃o,w'.heap[b]?=some o/\(rowW p T 10 n c (rowsL Aa ys)).P o:=by
  cases hp:p with
  | none=>exact absurd hp hp0
  | some a =>
    subst hp
    obtain ⟨o,hob,cur,rfl,hsz,hcur⟩:=hrow a.block rfl
    have hat:=ho.at0 a rfl
    have hle:=ho.le
    obtain ⟨ds,hds⟩:=eo xs hb
    have hdl:ds.length=n:=by rw [hn,<-hds,xK]
    obtain ⟨d,hd⟩:∃d,d=ds.toArray:=⟨_,rfl⟩
    have hdz:d.size=n:=by rw [hd];simpa using hdl
    have hdx:d.toList.map (·.1)=xs:=by rw [hd];exact hds
    have hH:Go.Sort.HoldsK ML 10 w a.block 0 d:=λj hj=>by
      have hj':j<d.size*10:=by simpa using hj
      refine ⟨?_,by simp [World.frozen?,hob]⟩
      have h1:(cur.toList.take (n*10))[j]?=(rowsL Aa xs)[j]?:=by rw [hcur]
      rw [List.getElem?_take_of_lt Z,Array.getElem?_toList,<-hdx,M1 hj'] at h1
      show w.cell? ⟨a.block,0+j,none⟩=some (id (Go.Sort.flatK ML 10 d)[j]!)
      unfold World.cell?
      simp only [hob,Nat.zero_add]
      exact h1
    have hlt:a.block<w.heap.size:=by
      rcases Nat.lt_or_ge a.block w.heap.size with h|h
      · exact h
      · rw [Array.getElem?_eq_none h] at hob;cases hob
    have h:=Tryz.slices_SortFunc_Point 10 isAgg78 sizeOf78 ML (λx=>Ap x.1) Ym bj eM 131 #[] a.block 0 c d w call131 (bk a.block 0 d.size w) hH hlt Z
    rw [hdz] at h
    rw [hat]
    refine h.mono ?_
    rintro e w' ⟨rfl,d',m,os,⟨hz',_,hperm⟩,_,rfl⟩
    have hz2:d'.size=n:=by rw [hz',hdz]
    have hperm':d'.toList.Perm d.toList:=by
      have e1:d'.extract 0 n=d':=by rw [<-hz2];exact Array.extract_size
      have e2:d.extract 0 n=d:=by rw [<-hdz];exact Array.extract_size
      rw [e1,e2] at hperm
      exact hperm
    have hF:(Go.Sort.flatK ML 10 d').size=n*10:=by rw [Go.Sort.size_flatK,hz2]
    refine ⟨rfl,⟨⟨rfl,rfl,rfl,by simp [sortWorldK,Go.Sort.grow,Go.Sort.putRowK,Go.Sort.putRow,Go.Sort.mapBlock,Go.Sort.ahead],λj hj hne=>?_⟩,by show w.drawn<=w.drawn+m;omega⟩,d'.toList.map (·.1),by rw [<-hdx];exact hperm'.map _,λb e=>?_⟩
    · have hne':a.block≠j:=λe=>hne (by rw [e];rfl)
      unfold sortWorldK
      rw [Go.Sort.heap_grow_old _ _ (by simpa [Go.Sort.putRowK,Go.Sort.putRow,Go.Sort.mapBlock,Go.Sort.ahead] using hj)]
      simp [Go.Sort.putRowK,Go.Sort.putRow,Go.Sort.mapBlock,Go.Sort.ahead,Array.getElem?_modify,hne']
    · injection e with e
      subst e
      refine ⟨.cells (Go.Sort.putCells id 0 (Go.Sort.flatK ML 10 d') cur) T (0,0),?_,_,rfl,by simp [Go.Sort.putCells,hsz],?_⟩
      · unfold sortWorldK
        rw [Go.Sort.heap_grow_old _ _ (by simpa [Go.Sort.putRowK,Go.Sort.putRow,Go.Sort.mapBlock,Go.Sort.ahead] using hlt)]
        simp [Go.Sort.putRowK,Go.Sort.putRow,Go.Sort.mapBlock,Go.Sort.ahead,Array.getElem?_modify,hob,Go.Sort.onCells]
      · apply List.ext_getElem?
        intro j
        have hlen:(rowsL Aa (d'.toList.map (·.1))).length=n*10:=by rw [AZ Ap,xK,Array.length_toList,hz2]
        by_cases hj:j<n*10
        · have hcs:n*10<=c*10:=Nat.mul_le_mul_right _ hle
          rw [List.getElem?_take_of_lt hj,Array.getElem?_toList,M1 (by rw [hz2];exact hj)]
          unfold Go.Sort.putCells
          rw [Array.getElem?_mapIdx,Array.getElem?_eq_getElem Z,Option.map_some,if_pos ⟨xJ _,Z⟩]
          rfl
        · rw [List.getElem?_take_eq_none Z,List.getElem?_eq_none Z]
section
variable {P:Program} {ops:Array Oper} {rest:List Oper} {Q:Exit->Act->World->Prop} {n:Nat} {F:List (Nat×Value)} {w0:BD} {L:List As}
theorem AR.callWX {o:Oper} {f:FuncId} {args:Array Value} {v:Value} {α:Type} {K:α->Prop} {cs':α->List Value} (i:Nat) {q:Option Addr} {T:TypeId} {z m c:Nat} {cs:List Value} (hw:Wt ops n F o)
    (he:∀a w,Cx n a F->BH w0 w L->(execOp a.eval o).run P w=.ok (.enter f args) w) (hi:L[i]?=some (rowW q T z m c cs))
    (hc:∀w,BH w0 w L->Calls P f args w λe w'=>e=.returned v/\Jq w w' (q.map (·.block))/\∃y,K y/\∀b,q.map (·.block)=some b->∃o,w'.heap[b]?=some o/\(rowW q T z m c (cs' y)).P o)
    (hd:∀d,o.dst=some d->d<n) (next:∀y,K y->AR P ops rest Q n (match o.dst with|some d=>(d,v)::F|none=>F) w0 (L.set i (rowW q T z m c (cs' y)))):AR P ops (o::rest) Q n F w0 L:=λa w ha hW=>by
  unfold wpList
  rw [if_pos (hw a ha)]
  left
  unfold Oper.wp
  rw [he a w ha hW,Oper.upon_enter]
  refine (hc w hW).mono ?_
  rintro e w' ⟨rfl,hg,y,hk,hr⟩
  have hW':=hW.renew hi rfl hg (y:=rowW q T z m c (cs' y)) λb e=>⟨.inl e,hr b e⟩
  have next:=next y hk
  cases hdd:o.dst with
  | none=>rw [hdd] at next;exact next _ _ ha.put_none hW'
  | some d=>rw [hdd] at next;exact next _ _ (ha.put (hd d hdd)) hW'
end
end
end Go.Proofs.YtbfdamnfcmefmaaGreatDoor
