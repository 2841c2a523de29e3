import Derived.Test.YtpolhpjiahbidaaGreatDoorPart25
namespace Go.Proofs.YtpolhpjiahbidaaGreatDoor
open Go Go.RowKit Go.Proofs.Tryz
open Go.Value renaming slice→qz,bool→qa
set_option linter.unusedVariables false
set_option linter.unusedSimpArgs false
section
set_option maxRecDepth 100000
theorem W7 {ps:List Pt} {ts ss:List T3} (x:MX ps ts ss) (hv:It ps ts ss) (w:World) {S:Nat->Prop} (hx:Ro S w x):Calls prog 182 #[(aG (Dj x))] w (Ad w (qa true)):=by
 have hp:=hv.pl
 have htl:=hv.tl
 have hsl:=hv.sl
 have h0:=hv.t0
 have lx:=Da (W:=w) hx
 refine Ah (args:=[(aG (Dj x))]) (L:=[AF x.a.p (rowsL AZ ps),AF x.b.p (rowsL Ac ts),AF x.c.p (rowsL Ac ss)]) func182 O O (BA O) (Db hx A7) (zM (sL [0] O) (q4 (BV (cs:=Dj x) O λb1=>asg' O (q3 (sL [1,2] O) (AD (v:=(pP b1 0)) (AA O underlying30 O sizeOf28 O) O (BF 0 (qz x.a.p ps.length x.a.c) C0 O (AD (v:=(vN ps.length)) (AE O underlying28) O (asg' O (q6 (sL [1,2,3] O) (q4 ?_))))))))))
 refine AD (v:=(pP b1 1)) (AA O underlying30 O sizeOf23 O) O (BF 0 (qz x.b.p ts.length x.b.c) C2 O (AD (v:=(vN ts.length)) (AE O underlying23) O (AL O (oNl' (zB (sL [1,2,3,12,13,14] O) (zA (zJ ?_)))))))
 refine zw (tg λ(i:Nat)=>i<=ts.length) (tg λ(i:Nat)=>[(1,(pP b1 0)),(3,(vN ps.length)),(12,(qz x.b.p ts.length x.b.c)),(13,(vN ts.length)),(14,(vN i))]) (tg λ(i:Nat)=>[AX b1 30 (Dj x),AF x.a.p (rowsL AZ ps),AF x.b.p (rowsL Ac ts),AF x.c.p (rowsL Ac ss)]) (tg λ(i:Nat)=>ts.length-i) 0 (xJ _) (sF O) sr (λi hJ=>?_)
 have hi:=hJ
 refine q4 (AD (Aa (c:=(decide (i<ts.length))) O O (DB (a:=i) (b:=ts.length))) O (oNl' (q1 ?_)))
 refine zL O (λhc0=>?_) (λhc0=>?_)
 ·replace hc0:=xT hc0
  obtain ⟨T,hT⟩:∃q,q=ts.getD i (0,0,0):=⟨_,rfl⟩
  obtain ⟨g1,g2,g3⟩:=DQ (Cb hv.num hc0)
  have hps:=hv.pos i hc0
  rw [<-hT] at g1 g2 g3 hps
  have z0:Bc (ps.getD T.1 ⟨0,0⟩)<=1000000:=hv.szM _
  have z1:Bc (ps.getD T.2.1 ⟨0,0⟩)<=1000000:=hv.szM _
  have z2:Bc (ps.getD T.2.2 ⟨0,0⟩)<=1000000:=hv.szM _
  refine zC (q1 (zJ (q4 (AD (v:=(pP (pB x.b.p) (pO x.b.p+i*3))) (AM (j:=i) O O x.b.ok underlying23 sizeOf105 O Z) O (AD (v:=(aG (Ac (ts.getD i jJ)))) (AO (vs:=Ac (ts.getD i jJ)) (i:=2) O O (Ay.ne x.b.ok Z) C8 (Af Aq _ _ _ Z) (Aq _)) O (zI (k:=17) (u:=(aG (Ac T))) O (by rw [hT]) (al HA O λb2=>Ag O sizeOf105 O (q6 (sL [1,3,12,13,14,5] O) (DC [(0,true),(1,true),(2,true),(3,false),(4,true),(5,true),(6,true),(7,true),(8,true),(9,false),(10,true),(11,true),(12,true),(13,true),(14,true),(15,true),(16,false),(17,true),(18,true),(19,true),(20,true),(21,true),(22,true),(23,true),(24,true),(25,true),(26,true),(27,true),(28,true),(29,true),(30,true),(31,true),(32,true),(33,true),(34,true),(35,true),(36,true),(37,true),(38,false),(39,true),(40,true)] sr (Am (v:=(pP b2 0)) O (AB (j:=0) O O underlying105 sizeOf3 O jY O) ?_))))))))))
  refine BU 0 (vN T.1) Bm O (By O (zN O (DH (args:=[(vN T.1),(vN ps.length)]) (v:=(qa true)) call148 (λw hw=>(by have h9:=DT T.1 ps.length w;rw [xI Z] at h9;exact h9)) O (zD sr (Am O (BK (c:=false) O O) (By O (zY (v:=(pP b2 1)) O (Ab O) (AB (j:=1) O O underlying105 sizeOf3 O jY O) O O (zY (v:=(vN T.2.1)) O (Ab O) (AH (i:=0) (v:=(vN T.2.1)) O O Bm.a O) O O (zY (v:=(vN ps.length)) O (Ab O) (Ca O) O O (zN O (zh (v:=(qa true)) (Ab O) (Ar (args:=[(vN T.2.1),(vN ps.length)]) O O call148) (λw hw=>(by have h9:=DT T.2.1 ps.length w;rw [xI Z] at h9;exact h9)) O (BA O) ?_)))))))))))
  refine zD sr (zY (v:=(qa false)) O (Ab O) (BK (c:=false) O O) O O (Am (v:=(qa false)) O (AQ O O) (By O (zY (v:=(pP b2 2)) O (Ab O) (AB (j:=2) O O underlying105 sizeOf3 O jY O) O O (zY (v:=(vN T.2.2)) O (Ab O) (AH (i:=0) (v:=(vN T.2.2)) O O Bm.a O) O O (zY (v:=(vN ps.length)) O (Ab O) (Ca O) O O (zN O (zh (v:=(qa true)) (Ab O) (Ar (args:=[(vN T.2.2),(vN ps.length)]) O O call148) (λw hw=>(by have h9:=DT T.2.2 ps.length w;rw [xI Z] at h9;exact h9)) O (BA O) (zD sr (zY (v:=(qa false)) O (Ab O) (BK (c:=false) O O) O O (Am (v:=(qa false)) O (AQ O O) ?_)))))))))))
  refine By O (zY (v:=(pP b1 0)) O (Ab O) (AA O underlying30 O sizeOf28 O) O O (zY (v:=(qz x.a.p ps.length x.a.c)) O (Ab O) (AH (i:=1) (v:=(qz x.a.p ps.length x.a.c)) O O C0.a O) O O (zY (v:=(pP b2 0)) O (Ab O) (AB (j:=0) O O underlying105 sizeOf3 O jY O) O O (zY (v:=(vN T.1)) O (Ab O) (AH (i:=0) (v:=(vN T.1)) O O Bm.a O) O O (zY (v:=(pP (pB x.a.p) (pO x.a.p+T.1*10))) O (Ab O) (AM (j:=T.1) O O x.a.ok underlying28 sizeOf99 O Z) O O (zY (v:=(aG (AZ (ps.getD T.1 (⟨0,0⟩:Pt))))) O (Ab O) (AO (vs:=AZ (ps.getD T.1 (⟨0,0⟩:Pt))) (i:=2) O O (Ay.ne x.a.ok Z) A_ (Af An _ _ _ Z) (An _)) O O (zY (v:=(pP b1 0)) O (Ab O) (AA O underlying30 O sizeOf28 O) O O (zY (v:=(qz x.a.p ps.length x.a.c)) O (Ab O) (AH (i:=1) (v:=(qz x.a.p ps.length x.a.c)) O O C0.a O) O O (zY (v:=(pP b2 1)) O (Ab O) (AB (j:=1) O O underlying105 sizeOf3 O jY O) O O (zY (v:=(vN T.2.1)) O (Ab O) (AH (i:=0) (v:=(vN T.2.1)) O O Bm.a O) O O (zY (v:=(pP (pB x.a.p) (pO x.a.p+T.2.1*10))) O (Ab O) (AM (j:=T.2.1) O O x.a.ok underlying28 sizeOf99 O Z) O O ?_)))))))))))
  refine zY (v:=(aG (AZ (ps.getD T.2.1 (⟨0,0⟩:Pt))))) O (Ab O) (AO (vs:=AZ (ps.getD T.2.1 (⟨0,0⟩:Pt))) (i:=2) O O (Ay.ne x.a.ok Z) A_ (Af An _ _ _ Z) (An _)) O O (zY (v:=(pP b1 0)) O (Ab O) (AA O underlying30 O sizeOf28 O) O O (zY (v:=(qz x.a.p ps.length x.a.c)) O (Ab O) (AH (i:=1) (v:=(qz x.a.p ps.length x.a.c)) O O C0.a O) O O (zY (v:=(pP b2 2)) O (Ab O) (AB (j:=2) O O underlying105 sizeOf3 O jY O) O O (zY (v:=(vN T.2.2)) O (Ab O) (AH (i:=0) (v:=(vN T.2.2)) O O Bm.a O) O O (zY (v:=(pP (pB x.a.p) (pO x.a.p+T.2.2*10))) O (Ab O) (AM (j:=T.2.2) O O x.a.ok underlying28 sizeOf99 O Z) O O (zY (v:=(aG (AZ (ps.getD T.2.2 (⟨0,0⟩:Pt))))) O (Ab O) (AO (vs:=AZ (ps.getD T.2.2 (⟨0,0⟩:Pt))) (i:=2) O O (Ay.ne x.a.ok Z) A_ (Af An _ _ _ Z) (An _)) O O (zN O (zh (v:=(vI ((AN (ps.getD T.1 (⟨0,0⟩:Pt)) (ps.getD T.2.1 (⟨0,0⟩:Pt)) (ps.getD T.2.2 (⟨0,0⟩:Pt))).num.sign))) (Ab O) (Ar (args:=[(aG (AZ (ps.getD T.1 (⟨0,0⟩:Pt)))),(aG (AZ (ps.getD T.2.1 (⟨0,0⟩:Pt)))),(aG (AZ (ps.getD T.2.2 (⟨0,0⟩:Pt))))]) O O call143) (λw hw=>G2 (ps.getD T.1 (⟨0,0⟩:Pt)) (ps.getD T.2.1 (⟨0,0⟩:Pt)) (ps.getD T.2.2 (⟨0,0⟩:Pt)) Z w) O (BA O) (zD sr (zY (v:=(qa false)) O (Ab O) (CT (c:=false) O O (xH (λh9=>h9 hps))) O O (Am (v:=(qa false)) O (AQ O O) ?_)))))))))))
  exact zQ (zB (sL [1,3,12,13,14,5,58] O) (zA (zT O (zC (zG (zA (zH (AD (AT (c:=((i+1:Nat):Int)) O O (AV (a:=i) (b:=1) Z)) O (AL O (oNl' (zB (sL [1,3,12,13,14,5] O) (zl (i+1) Z Z (sF O) (sl sr)))))))))))))
 ·replace hc0:=xS hc0
  refine zU (zO (zW (zP (q1 (q4 (AD (v:=(pP b1 2)) (AA O underlying30 O sizeOf24 O) O (BF 0 (qz x.c.p ss.length x.c.c) O7 O (AD (v:=(vN ss.length)) (AE O underlying24) O (AL O (oNl' (zB (sL [1,3,12,13,14,61,62,63] O) ?_)))))))))))
  refine zA (zJ ?_)
  refine zw (tg λ(i:Nat)=>i<=ss.length) (tg λ(i:Nat)=>[(1,(pP b1 0)),(3,(vN ps.length)),(61,(qz x.c.p ss.length x.c.c)),(62,(vN ss.length)),(63,(vN i))]) (tg λ(i:Nat)=>[AX b1 30 (Dj x),AF x.a.p (rowsL AZ ps),AF x.b.p (rowsL Ac ts),AF x.c.p (rowsL Ac ss)]) (tg λ(i:Nat)=>ss.length-i) 0 (xJ _) (sF O) sr (λi hJ=>?_)
  have hi:=hJ
  refine q4 (AD (Aa (c:=(decide (i<ss.length))) O O (DB (a:=i) (b:=ss.length))) O (oNl' (q1 ?_)))
  refine zL O (λhc2=>?_) (λhc2=>?_)
  ·replace hc2:=xT hc2
   obtain ⟨sd,hsd⟩:∃q,q=ss.getD i (0,0,0):=⟨_,rfl⟩
   obtain ⟨g1,g2,g3⟩:=hv.sid i hc2
   rw [<-hsd] at g1 g2 g3
   refine zC (q1 (zJ (q4 (AD (v:=(pP (pB x.c.p) (pO x.c.p+i*3))) (AM (j:=i) O O x.c.ok underlying24 sizeOf110 O Z) O (AD (v:=(aG (Ac (ss.getD i jJ)))) (AO (vs:=Ac (ss.getD i jJ)) (i:=3) O O (Ay.ne x.c.ok Z) Lg (Af Aq _ _ _ Z) (Aq _)) O (zI (k:=66) (u:=(aG (Ac sd))) O (by rw [hsd]) (al bX O λb2=>Ag O sizeOf110 O (q3 (sL [1,3,61,62,63,7] O) (AD (v:=(pP b2 0)) (AA O underlying110 O sizeOf3 O) O (BF 0 (vN sd.1) Bm O ?_))))))))))
   refine AL O (DH (args:=[(vN sd.1),(vN ps.length)]) (v:=(qa true)) call148 (λw hw=>(by have h9:=DT sd.1 ps.length w;rw [xI Z] at h9;exact h9)) O (AD (BK (c:=false) O O) O (AL O (BM (v:=(pP b2 1)) O (AA O underlying110 O sizeOf3 O) (BM (v:=(vN sd.2.1)) O (AH (i:=0) (v:=(vN sd.2.1)) O O Bm.a O) (Hk O (zh (v:=(qa true)) (Ab O) (Ar (args:=[(vN sd.2.1),(vN ps.length)]) O O call148) (λw hw=>(by have h9:=DT sd.2.1 ps.length w;rw [xI Z] at h9;exact h9)) O (BA O) (BM (v:=(qa false)) O (BK (c:=false) O O) (AD (v:=(qa false)) (AQ O O) O (AL O (BM (v:=(pP b2 2)) O (AA O underlying110 O sizeOf3 O) ?_)))))))))))
   refine BM (v:=(vN sd.2.2)) O (AH (i:=0) (v:=(vN sd.2.2)) O O Bm.a O) (BM (v:=(qa false)) O (Aa (c:=false) O O (xH Z)) (AD (v:=(qa false)) (AQ O O) O (AL O (BM (v:=(pP b2 2)) O (AA O underlying110 O sizeOf3 O) (BM (v:=(vN sd.2.2)) O (AH (i:=0) (v:=(vN sd.2.2)) O O Bm.a O) (BM (v:=(qa false)) O (D_ (c:=false) O O (xH Z)) (AD (v:=(qa false)) (AQ O O) O (oNl' (zB (sL [1,3,61,62,63,7,88] O) (zA (zT O ?_)))))))))))
   exact zC (zG (zA (zH (AD (AT (c:=((i+1:Nat):Int)) O O (AV (a:=i) (b:=1) Z)) O (AL O (oNl' (zB (sL [1,3,61,62,63,7] O) (zl (i+1) Z Z (sF O) (sl sr)))))))))
  ·replace hc2:=xS hc2
   refine zU (zO (zW (zP (q2 (AD (v:=(pP b1 1)) (AA O underlying30 O sizeOf23 O) O (BF 0 (qz x.b.p ts.length x.b.c) C2 O (AD (v:=(vN ts.length)) (AE O underlying23) O (AD (D_ (c:=true) O O (xI Z)) O (asg' O (oNl' (zB (sL [1,3,61,62,63,2] O) ?_)))))))))))
   exact zA (zF (ret_one O (rd_tmp (v:=(qa true)) O) (λw hw=>⟨rfl,hw.out⟩)))
theorem ZL (a b c p:Pt) (hs:Bc a+Bc b+Bc c+Bc p<=268435456) (w:World):Calls prog 228 #[aG (AZ a),aG (AZ b),aG (AZ c),aG (AZ p)] w (Ad w (vN (QW a b c p))):=by
 unfold QW
 by_cases h:AN a b c=0
 ·rw [if_pos h];exact Rp a b c p hs h w
 ·rw [if_neg h];exact Th a b c p hs h w
set_option maxHeartbeats 1000000 in
theorem Tm {ps:List Pt} {ts ss:List T3} (x:MX ps ts ss) (hv:It ps ts ss) (w:World) {S:Nat->Prop} (hx:Ro S w x):Calls prog 184 #[(aG (Dj x))] w (Ad w (qa true)):=by
 have hp:=hv.pl
 have htl:=hv.tl
 have hsl:=hv.sl
 have h0:=hv.t0
 have hq:∀t:T3,Bc (Bn ps t).1<=1000000/\Bc (Bn ps t).2.1<=1000000/\Bc (Bn ps t).2.2<=1000000:=λt=>⟨hv.szM _,hv.szM _,hv.szM _⟩
 have lx:=Da (W:=w) hx
 refine Ah (args:=[(aG (Dj x))]) (L:=[AF x.a.p (rowsL AZ ps),AF x.b.p (rowsL Ac ts),AF x.c.p (rowsL Ac ss)]) func184 O O (BA O) (Db hx A7) (zM (sL [0] O) (q4 (BV (cs:=Dj x) O λb1=>asg' O (q6 (sL [1,2] O) (q4 (AD (v:=(pP b1 1)) (AA O underlying30 O sizeOf23 O) O (BF 0 (qz x.b.p ts.length x.b.c) C2 O (AD (v:=(vN ts.length)) (AE O underlying23) O (AL O (oNl' ?_))))))))))
 refine zB (sL [1,2,11,12] O) (zA (zJ ?_))
 refine zw (tg λ(i:Nat)=>i<=ts.length) (tg λ(i:Nat)=>[(1,(pP b1 0)),(11,(vN ts.length)),(12,(vN i))]) (tg λ(i:Nat)=>[AX b1 30 (Dj x),AF x.a.p (rowsL AZ ps),AF x.b.p (rowsL Ac ts),AF x.c.p (rowsL Ac ss)]) (tg λ(i:Nat)=>ts.length-i) 0 (xJ _) (sF O) sr (λi hJ=>?_)
 have hi:=hJ
 refine q4 (AD (Aa (c:=(decide (i<ts.length))) O O (DB (a:=i) (b:=ts.length))) O (oNl' (q1 ?_)))
 refine zL O (λhc0=>?_) (λhc0=>?_)
 ·replace hc0:=xT hc0
  refine zC (q1 (zJ (q4 (AL O (asg' O (q3 (sL [1,11,12,3] O) (Al 0 Bz O (AL O (DH call225 (λw hw=>Km x i Z Z Z (Cb hv.num Z) w (Co hw 1 O lx)) O (al WJ O λb2=>Ag O sizeOf291 O ?_))))))))))
  refine q6 (sL [1,11,12,3,4] O) (q4 (AL O (AL O (oNl' (zA (zJ ?_))))))
  refine zw (tg λ(k:Nat)=>k<=i) (tg λ(k:Nat)=>[(1,(pP b1 0)),(11,(vN ts.length)),(12,(vN i)),(3,(vN i)),(4,(pP b2 0)),(18,(vN i)),(19,(vN k))]) (tg λ(k:Nat)=>[AX b2 291 (H8 (Bn ps (ts.getD i (0,0,0)))),AX b1 30 (Dj x),AF x.a.p (rowsL AZ ps),AF x.b.p (rowsL Ac ts),AF x.c.p (rowsL Ac ss)]) (tg λ(k:Nat)=>i-k) 0 (xJ _) (sF O) sr (λk hJ=>?_)
  have hk:=hJ
  refine q4 (AD (Aa (c:=(decide (k<i))) O O (DB (a:=k) (b:=i))) O (oNl' (q1 ?_)))
  refine zL O (λhc1=>?_) (λhc1=>?_)
  ·replace hc1:=xT hc1
   refine zC (q1 (zJ (q4 (AL O (asg' O (q3 (sL [1,11,12,3,4,18,19,5] O) (Al 1 Bz O (AL O (DH call225 (λw hw=>Km x k Z Z Z (Cb hv.num Z) w (Co hw 2 O lx)) O (al WJ O λb3=>Ag O sizeOf291 O ?_))))))))))
   refine q3 (sL [1,11,12,3,4,18,19,6] O) (Al 1 M0 O (Al 0 M0 O (ck' call226 (Tq (Bn ps (ts.getD i (0,0,0))) (Bn ps (ts.getD k (0,0,0))) (hq _) (hq _)) O (AD (BK (c:=(!(Eb (Bn ps (ts.getD i (0,0,0))) (Bn ps (ts.getD k (0,0,0)))))) O O) O (AL O ?_)))))
   refine ze (FM:=[(1,(pP b1 0)),(11,(vN ts.length)),(12,(vN i)),(3,(vN i)),(4,(pP b2 0)),(18,(vN i)),(19,(vN k)),(6,(pP b3 0)),(25,(aG (H8 (Bn ps (ts.getD i (0,0,0)))))),(26,(aG (H8 (Bn ps (ts.getD k (0,0,0)))))),(27,(qa (Eb (Bn ps (ts.getD i (0,0,0))) (Bn ps (ts.getD k (0,0,0)))))),(28,(qa (!(Eb (Bn ps (ts.getD i (0,0,0))) (Bn ps (ts.getD k (0,0,0))))))),(29,(qa (!(Eb (Bn ps (ts.getD i (0,0,0))) (Bn ps (ts.getD k (0,0,0))))))),(34,(qa ((!(Eb (Bn ps (ts.getD i (0,0,0))) (Bn ps (ts.getD k (0,0,0)))))&&(!(Eb (Bn ps (ts.getD k (0,0,0))) (Bn ps (ts.getD i (0,0,0))))))))]) (LM:=[AX b3 291 (H8 (Bn ps (ts.getD k (0,0,0)))),AX b2 291 (H8 (Bn ps (ts.getD i (0,0,0)))),AX b1 30 (Dj x),AF x.a.p (rowsL AZ ps),AF x.b.p (rowsL Ac ts),AF x.c.p (rowsL Ac ss)]) 5 ?_ ?_
   ·rcases xQ (!(Eb (Bn ps (ts.getD i (0,0,0))) (Bn ps (ts.getD k (0,0,0))))) with hg1|hg1
    ·refine zI (k:=29) (u:=qa true) O (by rw [hg1]) ?_
     have hg1':=hg1
     simp only [jK] at hg1'
     exact BM (v:=(aG (H8 (Bn ps (ts.getD k (0,0,0)))))) O (Aj (i:=0) (vs:=H8 (Bn ps (ts.getD k (0,0,0)))) O O M0.a M0.s O O) (BM (v:=(aG (H8 (Bn ps (ts.getD i (0,0,0)))))) O (Aj (i:=1) (vs:=H8 (Bn ps (ts.getD i (0,0,0)))) O O M0.a M0.s O O) (zh (v:=(qa (Eb (Bn ps (ts.getD k (0,0,0))) (Bn ps (ts.getD i (0,0,0)))))) (Ab O) (Ar (args:=[(aG (H8 (Bn ps (ts.getD k (0,0,0))))),(aG (H8 (Bn ps (ts.getD i (0,0,0)))))]) O O call226) (λw hw=>Tq (Bn ps (ts.getD k (0,0,0))) (Bn ps (ts.getD i (0,0,0))) (hq _) (hq _) w) O (BA O) (BM (v:=(qa (!(Eb (Bn ps (ts.getD k (0,0,0))) (Bn ps (ts.getD i (0,0,0))))))) O (BK (c:=(!(Eb (Bn ps (ts.getD k (0,0,0))) (Bn ps (ts.getD i (0,0,0)))))) O O) (AD (v:=(qa (!(Eb (Bn ps (ts.getD k (0,0,0))) (Bn ps (ts.getD i (0,0,0))))))) (AW O O) O (oNl' (zR Cc (xR _)))))))
    ·refine zI (k:=29) (u:=qa false) O (by rw [hg1]) ?_
     have hg1':=hg1
     simp only [jK] at hg1'
     exact BO O (BO O (BO O (BO O (AD (v:=(qa false)) (AQ O O) O (oNl' (zR Cc (xR _)))))))
   refine oNl' (zB (sL [1,11,12,3,4,18,19,6,34] O) (zA ?_))
   refine zL O (λhc2=>?_) (λhc2=>?_)
   ·simp only [jK] at hc2
    have h9:=hv.apart i k Z Z;rw [hc2.1,hc2.2] at h9;cases h9
   ·simp only [jK] at hc2
    exact zC (zG (zA (zH (AD (AT (c:=((k+1:Nat):Int)) O O (AV (a:=k) (b:=1) Z)) O (AL O (oNl' (zB (sL [1,11,12,3,4,18,19,6] O) (zl (k+1) Z Z (sF O) (sl sr)))))))))
  ·replace hc1:=xS hc1
   refine zU (zO (zW (zP (q2 (AD (v:=(pP b1 0)) (AA O underlying30 O sizeOf28 O) O (BF 1 (qz x.a.p ps.length x.a.c) C0 O (AD (v:=(vN ps.length)) (AE O underlying28) O (AL O (oNl' (zB (sL [1,11,12,3,4,18,19,37,38,39] O) (zA ?_)))))))))))
   refine zJ ?_
   refine zw (tg λ(p:Nat)=>p<=ps.length) (tg λ(p:Nat)=>[(1,(pP b1 0)),(11,(vN ts.length)),(12,(vN i)),(3,(vN i)),(4,(pP b2 0)),(37,(qz x.a.p ps.length x.a.c)),(38,(vN ps.length)),(39,(vN p))]) (tg λ(p:Nat)=>[AX b2 291 (H8 (Bn ps (ts.getD i (0,0,0)))),AX b1 30 (Dj x),AF x.a.p (rowsL AZ ps),AF x.b.p (rowsL Ac ts),AF x.c.p (rowsL Ac ss)]) (tg λ(p:Nat)=>ps.length-p) 0 (xJ _) (sF O) sr (λp hJ=>?_)
   have hp:=hJ
   refine q4 (AD (Aa (c:=(decide (p<ps.length))) O O (DB (a:=p) (b:=ps.length))) O (oNl' (q1 ?_)))
   refine zL O (λhc3=>?_) (λhc3=>?_)
   ·replace hc3:=xT hc3
    refine zC (q1 (zJ (q4 (AL O (AD (v:=(pP (pB x.a.p) (pO x.a.p+p*10))) (AM (j:=p) O O x.a.ok underlying28 sizeOf99 O Z) O (AD (v:=(aG (AZ (ps.getD p (⟨0,0⟩:Pt))))) (AO (vs:=AZ (ps.getD p (⟨0,0⟩:Pt))) (i:=2) O O (Ay.ne x.a.ok Z) A_ (Af An _ _ _ Z) (An _)) O (al EU O λb3=>asg' O (Ag O sizeOf99 O (q3 (sL [1,11,12,3,4,37,38,39,8,7] O) (AD (v:=(pP b1 1)) (AA O underlying30 O sizeOf23 O) O ?_))))))))))
    refine BF 2 (qz x.b.p ts.length x.b.c) C2 O (AL O (AD (v:=(pP (pB x.b.p) (pO x.b.p+i*3))) (AM (j:=i) O O x.b.ok underlying23 sizeOf105 O Z) O (AD (v:=(qz (some ⟨(pB x.b.p),pO x.b.p+i*3,none⟩) 3 3)) (NQ O underlying105 sizeOf3 jY) O (AL O (DH call227 (λw hw=>TK (ts.getD i (0,0,0)) p ⟨some ⟨pB x.b.p,pO x.b.p+i*3,none⟩,3,Zz _ _⟩ w (YQ (Zu (Co hw 3 O lx)) Z _)) O (AD (BK (c:=(!(CO (ts.getD i (0,0,0)) p))) O O) O (AL O ?_)))))))
    refine ze (FM:=[(1,(pP b1 0)),(11,(vN ts.length)),(12,(vN i)),(3,(vN i)),(4,(pP b2 0)),(37,(qz x.a.p ps.length x.a.c)),(38,(vN ps.length)),(39,(vN p)),(8,(pP b3 0)),(7,(vN p)),(44,(pP b1 1)),(45,(qz x.b.p ts.length x.b.c)),(46,(vN i)),(47,(pP (pB x.b.p) (pO x.b.p+i*3))),(48,(qz (some ⟨(pB x.b.p),pO x.b.p+i*3,none⟩) 3 3)),(49,(vN p)),(50,(qa (CO (ts.getD i (0,0,0)) p))),(51,(qa (!(CO (ts.getD i (0,0,0)) p)))),(52,(qa (!(CO (ts.getD i (0,0,0)) p)))),(62,(qa ((!(CO (ts.getD i (0,0,0)) p))&&false)))]) (LM:=[AX b3 99 (AZ (ps.getD p (⟨0,0⟩:Pt))),AX b2 291 (H8 (Bn ps (ts.getD i (0,0,0)))),AX b1 30 (Dj x),AF x.a.p (rowsL AZ ps),AF x.b.p (rowsL Ac ts),AF x.c.p (rowsL Ac ss)]) 10 ?_ ?_
    ·rcases xQ (!(CO (ts.getD i (0,0,0)) p)) with hg2|hg2
     ·refine zI (k:=52) (u:=qa true) O (by rw [hg2]) ?_
      have hg2':=hg2
      simp only [jK] at hg2'
      exact BM (v:=(pP b2 0)) O (AB (j:=0) O O underlying291 sizeOf99 O jY O) (BM (v:=(aG (AZ ((Bn ps (ts.getD i (0,0,0))).1)))) O (Aj (i:=1) (vs:=AZ ((Bn ps (ts.getD i (0,0,0))).1)) O O A_.a A_.s O O) (BM (v:=(pP b2 10)) O (AB (j:=1) O O underlying291 sizeOf99 O jY O) (BM (v:=(aG (AZ ((Bn ps (ts.getD i (0,0,0))).2.1)))) O (Aj (i:=1) (vs:=AZ ((Bn ps (ts.getD i (0,0,0))).2.1)) O O A_.a A_.s O O) (BM (v:=(pP b2 20)) O (AB (j:=2) O O underlying291 sizeOf99 O jY O) (BM (v:=(aG (AZ ((Bn ps (ts.getD i (0,0,0))).2.2)))) O (Aj (i:=1) (vs:=AZ ((Bn ps (ts.getD i (0,0,0))).2.2)) O O A_.a A_.s O O) (BM (v:=(aG (AZ (ps.getD p (⟨0,0⟩:Pt))))) O (Aj (i:=0) (vs:=AZ (ps.getD p (⟨0,0⟩:Pt))) O O A_.a A_.s O O) (zh (v:=(vN (Lv ps (ps.getD p ⟨0,0⟩) (ts.getD i (0,0,0))))) (Ab O) (Ar (args:=[(aG (AZ ((Bn ps (ts.getD i (0,0,0))).1))),(aG (AZ ((Bn ps (ts.getD i (0,0,0))).2.1))),(aG (AZ ((Bn ps (ts.getD i (0,0,0))).2.2))),(aG (AZ (ps.getD p (⟨0,0⟩:Pt))))]) O O call228) (λw hw=>ZL ((Bn ps (ts.getD i (0,0,0))).1) ((Bn ps (ts.getD i (0,0,0))).2.1) ((Bn ps (ts.getD i (0,0,0))).2.2) (ps.getD p ⟨0,0⟩) (by have z1:=hq (ts.getD i (0,0,0));have z2:Bc (ps.getD p ⟨0,0⟩)<=1000000:=hv.szM p;omega) w) O (BA O) (BM (v:=(qa false)) O (CT (c:=false) O O (xH (by have h8:=hv.crn i p Z Z hg2';unfold cor at h8;omega))) (AD (v:=(qa false)) (AW O O) O (oNl' (zR Hi (xR _))))))))))))
     ·refine zI (k:=52) (u:=qa false) O (by rw [hg2]) ?_
      have hg2':=hg2
      simp only [jK] at hg2'
      exact BO O (BO O (BO O (BO O (BO O (BO O (BO O (BO O (BO O (AD (v:=(qa false)) (AQ O O) O (oNl' (zR Hi (xR _))))))))))))
    refine oNl' (zB (sL [1,11,12,3,4,37,38,39,8,62] O) (zA ?_))
    refine zL O (λhc4=>?_) (λhc4=>?_)
    ·simp only [jK] at hc4
     simp at hc4
    ·simp only [jK] at hc4
     exact zC (zG (zA (zH (AD (AT (c:=((p+1:Nat):Int)) O O (AV (a:=p) (b:=1) Z)) O (AL O (oNl' (zB (sL [1,11,12,3,4,37,38,39,8] O) (zl (p+1) Z Z (sF O) (sl sr)))))))))
   ·replace hc3:=xS hc3
    exact zU (zO (zW (zP (zG (zA (zH (AD (AT (c:=((i+1:Nat):Int)) O O (AV (a:=i) (b:=1) Z)) O (AL O (oNl' (zB (sL [1,11,12,3,4,37,38,39] O) (zl (i+1) Z Z (sF O) (sl sr))))))))))))
 ·replace hc0:=xS hc0
  exact zU (zO (zW (zP (q2 (asg' O (oNl' (zA (zF (ret_one O (rd_tmp (v:=(qa true)) O) (λw hw=>⟨rfl,hw.out⟩))))))))))
end
section
set_option maxRecDepth 100000
theorem XF (x y:Pt) (hx:Bc x<=1000) (hy:Bc y<=1000) (w:World)  :Calls prog 222 #[(aG (AZ x)),(aG (AZ y))] w (Ad w (vI (NF x y))):=by
 refine AY (args:=[(aG (AZ x)),(aG (AZ y))]) func222 O O (BA O) (zM (sL [0,1] O) (q4 (BV (cs:=AZ x) O λb1=>BV (cs:=AZ y) O λb2=>asg' O (q6 (sL [2,3,4] O) (zJ (q4 (Al 1 A_ O (Al 0 A_ O (ck' call223 (Ms x y (by assumption) (by assumption)) O ?_)))))))))
 refine asg' O (oNl' (zB (sL [2,3,4,5] O) (zA ?_)))
 refine zL O (λhc0=>?_) (λhc0=>?_)
 ·replace hc0:=xT hc0
  exact q4 (asg' O (oNl' (zA (zF (zS (zK (ret_one O (rd_tmp (v:=(vI (-1:Int))) O) (λw hw=>⟨by unfold NF;rw [if_pos hc0],hw.out⟩))))))))
 ·replace hc0:=xS hc0
  refine q4 (Al 0 A_ O (Al 1 A_ O (ck' call223 (Ms y x (by assumption) (by assumption)) O (asg' O (oNl' (zB (sL [2,3,4,9] O) (zA ?_)))))))
  refine zL O (λhc1=>?_) (λhc1=>?_)
  ·replace hc1:=xT hc1
   exact q4 (asg' O (oNl' (zA (zF (zS (zK (ret_one O (rd_tmp (v:=(vI 1)) O) (λw hw=>⟨by unfold NF;rw [if_neg hc0,if_pos hc1],hw.out⟩))))))))
  ·replace hc1:=xS hc1
   exact zC (zG (q2 (asg' O (oNl' (zA (zF (ret_one O (rd_tmp (v:=(vI 0)) O) (λw hw=>⟨by unfold NF;rw [if_neg hc0,if_neg hc1],hw.out⟩))))))))
end
section
abbrev aN:={ p:Pt // Bc p<=1000 }
instance:Inhabited aN:=⟨⟨⟨0,0⟩,by decide⟩⟩
theorem dV:∀xs:List Pt,(∀x∈xs,Bc x<=1000)->∃ds:List aN,ds.map (·.1)=xs
  | [],_=>⟨[],rfl⟩
  | x::r,h=>by
    obtain ⟨ds,e⟩:=dV r λy hy=>h y (List.mem_cons_of_mem _ hy)
    exact ⟨⟨x,h x List.mem_cons_self⟩::ds,by rw [List.map_cons,e]⟩
def L1 (x:aN):List Value:=AZ x.1
def ak (x y:aN):Int:=NF x.1 y.1
theorem dE:Go.Sort.SWO (ltOf ak) where
  irrefl x:=xH (by unfold ak;rw [Fv];unfold U8;grind)
  trans x y z h1 h2:=by
    have h1:=Fv.1 (xT h1)
    have h2:=Fv.1 (xT h2)
    refine xI (Fv.2 ?_)
    unfold U8 at *
    grind
  ntrans x y z h1 h2:=by
    have h1:¬NF x.1 y.1<0:=xS h1
    have h2:¬NF y.1 z.1<0:=xS h2
    rw [Fv] at h1 h2
    refine xH ?_
    unfold ak
    rw [Fv]
    unfold U8 at *
    grind
theorem am (AX off size:Nat) (w:World):CmpLays prog 222 #[] L1 10 ak AX off size w:=λm os dk _ x y=>by
  rw [Array.append_empty]
  exact (XF x.1 y.1 x.2 y.2 _).mono λe w' h=>⟨h.1,Q4 h.2⟩
theorem Me {d:Array aN} {t:Nat} (h:t<d.size*10):(rowsL AZ (d.toList.map (·.1)))[t]?=some (Go.Sort.flatK L1 10 d)[t]!:=by
  rw [Go.Sort.get_flatK _ _ _ _ h]
  have h1:t/10<d.size:=by omega
  have h2:=EH An (⟨0,0⟩:Pt) (d.toList.map (·.1)) (t/10) (t%10) (by simpa using h1) (Nat.mod_lt _ jY) (v:=(L1 d[t/10]!)[t%10]!) (by
    rw [List.getD,List.getElem?_map,show d.toList[t/10]?=some d[t/10] from by simp [h1],getElem!_pos d (t/10) h1]
    show (AZ (d[t/10]).1)[t%10]?=some (AZ (d[t/10]).1)[t%10]!
    have hl:t%10<(AZ (d[t/10]).1).length:=by rw [An];exact Nat.mod_lt _ jY
    rw [xP hl,getElem!_pos (AZ (d[t/10]).1) (t%10) hl])
  rw [show t/10*10+t%10=t by omega] at h2
  exact h2
theorem YB (x:aN):∀v∈L1 x,v.oneCell'=true:=λv hv=>by
  unfold L1 AZ AC at hv
  simp only [xN,List.mem_append,List.not_mem_nil,or_false] at hv
  rcases hv with (rfl|rfl|rfl|rfl|rfl)|(rfl|rfl|rfl|rfl|rfl)<;>rfl
theorem V4 (xs:List Pt) (p:Option Addr) (n c:Nat) (T:TypeId) (ho:OwnOk p n c) (hp0:p≠none) (hn:n=xs.length) (hN:n<4611686018427387904) (hb:∀x∈xs,Bc x<=1000) (w:World) (hrow:∀b,p.map (·.block)=some b->∃o,w.heap[b]?=some o/\(rowW p T 10 n c (rowsL AZ xs)).P o) :
    Calls prog 221 #[.slice p n c,.func (.func 222) #[] #[]] w λe w'=>e=.returned (.tuple #[])/\Jm w w' (p.map (·.block))/\∃ys:List Pt,ys.Perm xs/\∀b,p.map (·.block)=some b->∃o,w'.heap[b]?=some o/\(rowW p T 10 n c (rowsL AZ ys)).P o:=by
  cases hp:p with
  | none=>exact absurd hp hp0
  | some a =>
    subst hp
    obtain ⟨o,hob,cur,rfl,hsz,hcur⟩:=hrow a.block rfl
    have hat:=ho.at0 a rfl
    have hle:=ho.le
    obtain ⟨ds,hds⟩:=dV xs hb
    have hdl:ds.length=n:=by rw [hn,<-hds,xK]
    obtain ⟨d,hd⟩:∃d,d=ds.toArray:=⟨_,rfl⟩
    have hdz:d.size=n:=by rw [hd];simpa using hdl
    have hdx:d.toList.map (·.1)=xs:=by rw [hd];exact hds
    have hH:Go.Sort.HoldsK L1 10 w a.block 0 d:=λj hj=>by
      have hj':j<d.size*10:=by simpa using hj
      refine ⟨?_,by simp [World.frozen?,hob]⟩
      have h1:(cur.toList.take (n*10))[j]?=(rowsL AZ xs)[j]?:=by rw [hcur]
      rw [List.getElem?_take_of_lt Z,Array.getElem?_toList,<-hdx,Me hj'] at h1
      show w.cell? ⟨a.block,0+j,none⟩=some (id (Go.Sort.flatK L1 10 d)[j]!)
      unfold World.cell?
      simp only [hob,Nat.zero_add]
      exact h1
    have hlt:a.block<w.heap.size:=by
      rcases Nat.lt_or_ge a.block w.heap.size with h|h
      · exact h
      · rw [Array.getElem?_eq_none h] at hob;cases hob
    have h:=Tryz.slices_SortFunc_Point 10 isAgg99 sizeOf99 L1 (λx=>An x.1) YB ak dE 222 #[] a.block 0 c d w call222 (am a.block 0 d.size w) hH hlt Z
    rw [hdz] at h
    rw [hat]
    refine h.mono ?_
    rintro e w' ⟨rfl,d',m,os,⟨hz',_,hperm⟩,_,rfl⟩
    have hz2:d'.size=n:=by rw [hz',hdz]
    have hperm':d'.toList.Perm d.toList:=by
      have e1:d'.extract 0 n=d':=by rw [<-hz2];exact Array.extract_size
      have e2:d.extract 0 n=d:=by rw [<-hdz];exact Array.extract_size
      rw [e1,e2] at hperm
      exact hperm
    have hF:(Go.Sort.flatK L1 10 d').size=n*10:=by rw [Go.Sort.size_flatK,hz2]
    refine ⟨rfl,⟨⟨rfl,rfl,rfl,by simp [sortWorldK,Go.Sort.grow,Go.Sort.putRowK,Go.Sort.putRow,Go.Sort.mapBlock,Go.Sort.ahead],λj hj hne=>?_⟩,by show w.drawn<=w.drawn+m;omega⟩,d'.toList.map (·.1),by rw [<-hdx];exact hperm'.map _,λb e=>?_⟩
    · have hne':a.block≠j:=λe=>hne (by rw [e];rfl)
      unfold sortWorldK
      rw [Go.Sort.heap_grow_old _ _ (by simpa [Go.Sort.putRowK,Go.Sort.putRow,Go.Sort.mapBlock,Go.Sort.ahead] using hj)]
      simp [Go.Sort.putRowK,Go.Sort.putRow,Go.Sort.mapBlock,Go.Sort.ahead,Array.getElem?_modify,hne']
    · injection e with e
      subst e
      refine ⟨.cells (Go.Sort.putCells id 0 (Go.Sort.flatK L1 10 d') cur) T (0,0),?_,_,rfl,by simp [Go.Sort.putCells,hsz],?_⟩
      · unfold sortWorldK
        rw [Go.Sort.heap_grow_old _ _ (by simpa [Go.Sort.putRowK,Go.Sort.putRow,Go.Sort.mapBlock,Go.Sort.ahead] using hlt)]
        simp [Go.Sort.putRowK,Go.Sort.putRow,Go.Sort.mapBlock,Go.Sort.ahead,Array.getElem?_modify,hob,Go.Sort.onCells]
      · apply List.ext_getElem?
        intro j
        have hlen:(rowsL AZ (d'.toList.map (·.1))).length=n*10:=by rw [AS An,xK,Array.length_toList,hz2]
        by_cases hj:j<n*10
        · have hcs:n*10<=c*10:=Nat.mul_le_mul_right _ hle
          rw [List.getElem?_take_of_lt hj,Array.getElem?_toList,Me (by rw [hz2];exact hj)]
          unfold Go.Sort.putCells
          rw [Array.getElem?_mapIdx,Array.getElem?_eq_getElem Z,Option.map_some,if_pos ⟨xJ _,Z⟩]
          rfl
        · rw [List.getElem?_take_eq_none Z,List.getElem?_eq_none Z]
section
variable {P:Program} {ops:Array Oper} {rest:List Oper} {Q:Exit->Act->World->Prop} {n:Nat} {F:List (Nat×Value)} {w0:BC} {L:List As}
theorem AR.callWX {o:Oper} {f:FuncId} {args:Array Value} {v:Value} {α:Type} {K:α->Prop} {cs':α->List Value} (i:Nat) {q:Option Addr} {T:TypeId} {z m c:Nat} {cs:List Value} (hw:Wt ops n F o)
    (he:∀a w,Ce n a F->BD w0 w L->(execOp a.eval o).run P w=.ok (.enter f args) w) (hi:L[i]?=some (rowW q T z m c cs))
    (hc:∀w,BD w0 w L->Calls P f args w λe w'=>e=.returned v/\Jm w w' (q.map (·.block))/\∃y,K y/\∀b,q.map (·.block)=some b->∃o,w'.heap[b]?=some o/\(rowW q T z m c (cs' y)).P o)
    (hd:∀d,o.dst=some d->d<n) (next:∀y,K y->AR P ops rest Q n (match o.dst with|some d=>(d,v)::F|none=>F) w0 (L.set i (rowW q T z m c (cs' y)))):AR P ops (o::rest) Q n F w0 L:=λa w ha hW=>by
  unfold wpList
  rw [if_pos (hw a ha)]
  left
  unfold Oper.wp
  rw [he a w ha hW,Oper.upon_enter]
  refine (hc w hW).mono ?_
  rintro e w' ⟨rfl,hg,y,hk,hr⟩
  have hW':=hW.renew hi rfl hg (y:=rowW q T z m c (cs' y)) λb e=>⟨.inl e,hr b e⟩
  have next:=next y hk
  cases hdd:o.dst with
  | none=>rw [hdd] at next;exact next _ _ ha.put_none hW'
  | some d=>rw [hdd] at next;exact next _ _ (ha.put (hd d hdd)) hW'
end
end
section
set_option maxRecDepth 100000
theorem Hz:PU prog 192 Jp X9 where
 law:=.of_law (deep_law_laid Y0 (m:=2) jY (by decide +kernel) jV jV)
 key:=λa h=>Mm underlying192 ⟨rfl,rfl⟩ ⟨rfl,rfl⟩ (by decide +kernel) underlying3 jV jV jV (by decide +kernel) (N1 h.1) (N1 h.2)
 inj:=λa b h=>Ov h
theorem J1 (x0:Tq3):Instr.fill (λi=>some (i*3,3)) ((Array.range (1*3)).map ((Value.agg (Ac jJ).toArray).cells[·%(Value.agg (Ac jJ).toArray).cells.size]!)) [(0,.agg (Ac x0).toArray)]=some (Ac x0).toArray:=by kernel_rfl
set_option maxHeartbeats 4000000 in
theorem ZI (ts:List T3) (x:RX (rowsL Ac ts) ts.length) (pp:Option Addr) (N pc:Nat) (hn:Be N ts=true) (hN:N<=4611686018427387904) (hl:ts.length<=1000000000) (w:World) {S:Nat->Prop} (hx:Ro S w x):Calls prog 56 #[(qz pp N pc),(qz x.p ts.length x.c)] w (D6 QK (RG (T:=110) (z:=3) (cs:=rowsL Ac (FS ts)) (n:=(FS ts).length)) S w):=by
 have lx:=Da (W:=w) hx
 refine Ah (args:=[(qz pp N pc),(qz x.p ts.length x.c)]) (L:=[AF x.p (rowsL Ac ts)]) func56 O O (BA O) (Db hx A7) (zM (sL [0,1] O) (q4 (asg' O (oNl' (q1 (q4 (AL O (AL O (AD (v:=(vN N)) (AE O underlying28) O (DH (args:=[(qz x.p ts.length x.c),(vN N)]) (v:=(qa true)) call110 (λw hw=>(by have h9:=RE N ts x Z w (Co hw 0 O lx);rw [hn] at h9;exact h9)) O (AD (BK (c:=false) O O) O ?_)))))))))))
 refine oNl' (zB (sL [1,4,18] O) (zA (zT O (zC (q2 (yn Jp vN (AI O) O λb1=>asg' O (q6 (sL [1,4,5] O) (q4 (AL O (AD (v:=(vN ts.length)) (AE O underlying23) O ?_))))))))))
 refine AL O (oNl' (zA (zJ ?_)))
 refine zw (tg λ(t:Nat)=>t<=ts.length) (tg λ(t:Nat)=>[(1,(qz x.p ts.length x.c)),(4,jj),(5,(Value.map (some b1))),(20,(qz x.p ts.length x.c)),(21,(vN ts.length)),(22,(vN t))]) (tg λ(t:Nat)=>[Ds b1 Jp vN (C1 ts (3*t+0)),AF x.p (rowsL Ac ts)]) (tg λ(t:Nat)=>ts.length-t) 0 (xJ _) (sF O) sr (λt hJ=>?_)
 have ht:=hJ
 refine q4 (AD (Aa (c:=(decide (t<ts.length))) O O (DB (a:=t) (b:=ts.length))) O (oNl' (q1 ?_)))
 refine zL O (λhc1=>?_) (λhc1=>?_)
 ·replace hc1:=xT hc1
  obtain ⟨T,hT⟩:∃q,q=ts.getD t (0,0,0):=⟨_,rfl⟩
  obtain ⟨g1,g2,g3⟩:=DQ (Cb hn hc1)
  rw [<-hT] at g1 g2 g3
  refine zC (q1 (zJ (q4 (AD (v:=(pP (pB x.p) (pO x.p+t*3))) (AM (j:=t) O O x.ok underlying23 sizeOf105 O Z) O (AD (v:=(aG (Ac (ts.getD t jJ)))) (AO (vs:=Ac (ts.getD t jJ)) (i:=1) O O (Ay.ne x.ok Z) C8 (Af Aq _ _ _ Z) (Aq _)) O (zI (k:=25) (u:=(aG (Ac T))) O (by rw [hT]) (al HA O λb2=>Ag O sizeOf105 O (q3 (sL [1,4,5,20,21,22,7] O) (AL O (oNl' ?_))))))))))
  refine zA (zJ (yC 4 (zf (q4 (AD (Aa (c:=true) O O jY) O (oNl' (q1 (zV O (zC (q1 (zJ ?_)))))))))))
  refine q4 (AL O (asg' O (q6 (sL [1,4,5,20,21,22,7,26,8] O) (DC (Er 10) sr (By O (Am (v:=(pP b2 0)) O (AB (j:=0) O O underlying105 sizeOf3 O jY O) (BU 0 (vN T.1) Bm O (By O (Am O (AT (c:=(1:Int)) O O jY) (Am O (CB (c:=(1:Int)) O O jY jY) (Am (v:=(pP b2 1)) O (AB (j:=1) O O underlying105 sizeOf3 O jY O) ?_)))))))))))
  refine BU 0 (vN T.2.1) Bm O (pS' O (pS' O (zQ (zB (sL [1,4,5,20,21,22,7,26,9,10] O) (zA ?_)))))
  obtain ⟨vq1,hvq1⟩:∃q,q=(BW (C1 ts (3*t+0)) ((min T.1 T.2.1,max T.1 T.2.1):P2)).getD 0:=⟨_,rfl⟩
  refine cF [(0,true),(1,true),(2,true),(3,true),(4,true),(5,true),(6,true),(7,true),(8,true),(9,true),(10,false),(11,true)] 12 [] (dI 1 (x:=((min T.1 T.2.1,max T.1 T.2.1):P2)) (v:=vq1) O O) (List.nil_sublist _) jV (λ_ _ d _ _ h=>by cases d<;>exact h) (vM O O O (vM O O O (vM O O O (vE O (Gx (c:=((min T.1 T.2.1:Nat):Int)) O O (by split<;>omega)) O (vM O O O (vM O O O (vE O (GJ (c:=((max T.1 T.2.1:Nat):Int)) O O (by split<;>omega)) O (vE (v:=(aG ([(vN (min T.1 T.2.1)),(vN (max T.1 T.2.1))]))) O (AP (zs:=A6 ((0,0):P2)) (vs:=[(vN (min T.1 T.2.1)),(vN (max T.1 T.2.1))]) (pv:=[(0,(vN (min T.1 T.2.1))),(1,(vN (max T.1 T.2.1)))]) (places:=[(0,1),(1,1)]) zeroValue192 underlying192 (λw=>by simp [sizeOf3]) O O) O (vE (v:=(vN vq1)) O (Hw Hz 1 (kvs:=C1 ts (3*t+0)) (x:=((min T.1 T.2.1,max T.1 T.2.1):P2)) (z0:=0) O O underlying190 zeroValue3 O (Fa hn hN _ Z) (EE Z Z) hvq1) O ?_)))))))))
  have hmq:=Nk (ts:=ts) (3*t+0) ((min T.1 T.2.1,max T.1 T.2.1):P2)
  refine vE O (AT (c:=((vq1+1:Nat):Int)) O O (AV (a:=vq1) (b:=1) Z)) O (zx O (yh Hz 1 (kvs:=C1 ts (3*t+0)) (x:=((min T.1 T.2.1,max T.1 T.2.1):P2)) (z0:=0) (v:=vq1) O O underlying190 zeroValue3 O (Fa hn hN _ Z) (EE Z Z) hvq1 O (yj (aK 1 O O) (vE O (AK (v:=(vN (DF (C1 ts (3*t+0)) ((min T.1 T.2.1,max T.1 T.2.1):P2)))) O O) O (yJ O (yV 1 (kvs:=C1 ts (3*t+0)) (x:=((min T.1 T.2.1,max T.1 T.2.1):P2)) (u:=vq1) (y:=vq1+1) O O O O ?_))))))
  rw [show Bl (C1 ts (3*t+0)) ((min T.1 T.2.1,max T.1 T.2.1):P2) (vq1+1)=C1 ts (3*t+1) from by rw [hvq1,hT];exact (I8 (ts:=ts) (t:=t) (i:=0) Z).symm]
  refine zD (List.nil_sublist _) (zQ (zB (sL [1,4,5,20,21,22,7,26] O) (zG (zA (zH (AD (AT (c:=(1:Int)) O O jY) O (AL O (oNl' (zB (sL [1,4,5,20,21,22,7,26] O) (zk (zf ?_)))))))))))
  refine q4 (AD (Aa (c:=true) O O jY) O (oNl' (q1 (zV O (zC (q1 (zJ (q4 (AL O (asg' O (q6 (sL [1,4,5,20,21,22,7,26,8] O) ?_)))))))))))
  refine DC (Er 10) sr (By O (Am (v:=(pP b2 1)) O (AB (j:=1) O O underlying105 sizeOf3 O jY O) (BU 0 (vN T.2.1) Bm O (By O (Am O (AT (c:=(2:Int)) O O jY) (Am O (CB (c:=(2:Int)) O O jY jY) (Am (v:=(pP b2 2)) O (AB (j:=2) O O underlying105 sizeOf3 O jY O) (BU 0 (vN T.2.2) Bm O (pS' O (pS' O (zQ ?_)))))))))))
  refine zB (sL [1,4,5,20,21,22,7,26,9,10] O) (zA ?_)
  obtain ⟨vq2,hvq2⟩:∃q,q=(BW (C1 ts (3*t+1)) ((min T.2.1 T.2.2,max T.2.1 T.2.2):P2)).getD 0:=⟨_,rfl⟩
  refine cF [(0,true),(1,true),(2,true),(3,true),(4,true),(5,true),(6,true),(7,true),(8,true),(9,true),(10,false),(11,true)] 12 [] (dI 1 (x:=((min T.2.1 T.2.2,max T.2.1 T.2.2):P2)) (v:=vq2) O O) (List.nil_sublist _) jV (λ_ _ d _ _ h=>by cases d<;>exact h) (vM O O O (vM O O O (vM O O O (vE O (Gx (c:=((min T.2.1 T.2.2:Nat):Int)) O O (by split<;>omega)) O (vM O O O (vM O O O (vE O (GJ (c:=((max T.2.1 T.2.2:Nat):Int)) O O (by split<;>omega)) O (vE (v:=(aG ([(vN (min T.2.1 T.2.2)),(vN (max T.2.1 T.2.2))]))) O (AP (zs:=A6 ((0,0):P2)) (vs:=[(vN (min T.2.1 T.2.2)),(vN (max T.2.1 T.2.2))]) (pv:=[(0,(vN (min T.2.1 T.2.2))),(1,(vN (max T.2.1 T.2.2)))]) (places:=[(0,1),(1,1)]) zeroValue192 underlying192 (λw=>by simp [sizeOf3]) O O) O (vE (v:=(vN vq2)) O (Hw Hz 1 (kvs:=C1 ts (3*t+1)) (x:=((min T.2.1 T.2.2,max T.2.1 T.2.2):P2)) (z0:=0) O O underlying190 zeroValue3 O (Fa hn hN _ Z) (EE Z Z) hvq2) O ?_)))))))))
  have hmq:=Nk (ts:=ts) (3*t+1) ((min T.2.1 T.2.2,max T.2.1 T.2.2):P2)
  refine vE O (AT (c:=((vq2+1:Nat):Int)) O O (AV (a:=vq2) (b:=1) Z)) O (zx O (yh Hz 1 (kvs:=C1 ts (3*t+1)) (x:=((min T.2.1 T.2.2,max T.2.1 T.2.2):P2)) (z0:=0) (v:=vq2) O O underlying190 zeroValue3 O (Fa hn hN _ Z) (EE Z Z) hvq2 O (yj (aK 1 O O) (vE O (AK (v:=(vN (DF (C1 ts (3*t+1)) ((min T.2.1 T.2.2,max T.2.1 T.2.2):P2)))) O O) O (yJ O (yV 1 (kvs:=C1 ts (3*t+1)) (x:=((min T.2.1 T.2.2,max T.2.1 T.2.2):P2)) (u:=vq2) (y:=vq2+1) O O O O ?_))))))
  rw [show Bl (C1 ts (3*t+1)) ((min T.2.1 T.2.2,max T.2.1 T.2.2):P2) (vq2+1)=C1 ts (3*t+2) from by rw [hvq2,hT];exact (I8 (ts:=ts) (t:=t) (i:=1) Z).symm]
  refine zD (List.nil_sublist _) (zQ (zB (sL [1,4,5,20,21,22,7,26] O) (zG (zA (zH (AD (AT (c:=(2:Int)) O O jY) O (AL O (oNl' (zB (sL [1,4,5,20,21,22,7,26] O) (zk (zf ?_)))))))))))
  refine q4 (AD (Aa (c:=true) O O jY) O (oNl' (q1 (zV O (zC (q1 (zJ (q4 (AL O (asg' O (q6 (sL [1,4,5,20,21,22,7,26,8] O) ?_)))))))))))
  refine DC (Er 10) sr (By O (Am (v:=(pP b2 2)) O (AB (j:=2) O O underlying105 sizeOf3 O jY O) (BU 0 (vN T.2.2) Bm O (By O (Am O (AT (c:=(3:Int)) O O jY) (Am O (CB (c:=(0:Int)) O O jY jY) (Am (v:=(pP b2 0)) O (AB (j:=0) O O underlying105 sizeOf3 O jY O) (BU 0 (vN T.1) Bm O (pS' O (pS' O (zQ ?_)))))))))))
  refine zB (sL [1,4,5,20,21,22,7,26,9,10] O) (zA ?_)
  obtain ⟨vq3,hvq3⟩:∃q,q=(BW (C1 ts (3*t+2)) ((min T.2.2 T.1,max T.2.2 T.1):P2)).getD 0:=⟨_,rfl⟩
  refine cF [(0,true),(1,true),(2,true),(3,true),(4,true),(5,true),(6,true),(7,true),(8,true),(9,true),(10,false),(11,true)] 12 [] (dI 1 (x:=((min T.2.2 T.1,max T.2.2 T.1):P2)) (v:=vq3) O O) (List.nil_sublist _) jV (λ_ _ d _ _ h=>by cases d<;>exact h) (vM O O O (vM O O O (vM O O O (vE O (Gx (c:=((min T.2.2 T.1:Nat):Int)) O O (by split<;>omega)) O (vM O O O (vM O O O (vE O (GJ (c:=((max T.2.2 T.1:Nat):Int)) O O (by split<;>omega)) O (vE (v:=(aG ([(vN (min T.2.2 T.1)),(vN (max T.2.2 T.1))]))) O (AP (zs:=A6 ((0,0):P2)) (vs:=[(vN (min T.2.2 T.1)),(vN (max T.2.2 T.1))]) (pv:=[(0,(vN (min T.2.2 T.1))),(1,(vN (max T.2.2 T.1)))]) (places:=[(0,1),(1,1)]) zeroValue192 underlying192 (λw=>by simp [sizeOf3]) O O) O (vE (v:=(vN vq3)) O (Hw Hz 1 (kvs:=C1 ts (3*t+2)) (x:=((min T.2.2 T.1,max T.2.2 T.1):P2)) (z0:=0) O O underlying190 zeroValue3 O (Fa hn hN _ Z) (EE Z Z) hvq3) O ?_)))))))))
  have hmq:=Nk (ts:=ts) (3*t+2) ((min T.2.2 T.1,max T.2.2 T.1):P2)
  refine vE O (AT (c:=((vq3+1:Nat):Int)) O O (AV (a:=vq3) (b:=1) Z)) O (zx O (yh Hz 1 (kvs:=C1 ts (3*t+2)) (x:=((min T.2.2 T.1,max T.2.2 T.1):P2)) (z0:=0) (v:=vq3) O O underlying190 zeroValue3 O (Fa hn hN _ Z) (EE Z Z) hvq3 O (yj (aK 1 O O) (vE O (AK (v:=(vN (DF (C1 ts (3*t+2)) ((min T.2.2 T.1,max T.2.2 T.1):P2)))) O O) O (yJ O (yV 1 (kvs:=C1 ts (3*t+2)) (x:=((min T.2.2 T.1,max T.2.2 T.1):P2)) (u:=vq3) (y:=vq3+1) O O O O ?_))))))
  rw [show Bl (C1 ts (3*t+2)) ((min T.2.2 T.1,max T.2.2 T.1):P2) (vq3+1)=C1 ts (3*t+3) from by rw [hvq3,hT];exact (I8 (ts:=ts) (t:=t) (i:=2) Z).symm]
  refine zD (List.nil_sublist _) (zQ (zB (sL [1,4,5,20,21,22,7,26] O) (zG (zA (zH (AD (AT (c:=(3:Int)) O O jY) O (AL O (oNl' (zB (sL [1,4,5,20,21,22,7,26] O) (zk (zf ?_)))))))))))
  refine q4 (AD (Aa (c:=false) O O jY) O (oNl' (q1 (zT O (zU (zO (zO (zP (zG (zA (zH ?_)))))))))))
  refine AD (AT (c:=((t+1:Nat):Int)) O O (AV (a:=t) (b:=1) Z)) O (AL O (oNl' (zB (sL [1,4,5,20,21,22,7,26] O) ?_)))
  rw [show 3*t+3=3*(t+1)+0 by omega]
  exact zl (t+1) Z Z (sF O) (sl sr)
 ·replace hc1:=xS hc1
  have htl:t=ts.length:=by omega
  refine zU (zO (zW (zP (q2 (asg' O (zo 110 3 (oNl' (q1 (q4 (AL O ?_))))))))))
  rw [show C1 ts (3*t+0)=(C1 ts (3*ts.length)) by rw [htl,Nat.add_zero]]
  refine cX (S:=S) (cs:=rowsL Bg (BR ts)) (k:=(BR ts).length) (args:=[(qz x.p ts.length x.c)]) call101 (λw hw=>UR ts x N hn hN hl w (Co hw 2 O lx)) O O O λo lo=>AD (v:=(vN ((BR ts).length))) (AE O underlying46) O (AL O (oNl' (zB (sL [1,4,5,20,21,22,11,52,53,54] O) (zA (zJ ?_)))))
  refine yS (tg λ(i:Nat) (p1:Option Addr) (c1:Nat) (out:List T3)=>i<=(BR ts).length/\OwnOk p1 out.length c1/\out=Js ts i) (tg λ(i:Nat) (p1:Option Addr) (c1:Nat) (out:List T3)=>[(4,jj),(5,(Value.map (some b1))),(52,(qz o.p ((BR ts).length) o.c)),(53,(vN ((BR ts).length))),(54,(vN i)),(11,(qz p1 out.length c1))]) (tg λ(i:Nat) (p1:Option Addr) (c1:Nat) (out:List T3)=>[AF o.p (rowsL Bg (BR ts)),rowW p1 110 3 out.length c1 (rowsL Ac out),Ds b1 Jp vN (C1 ts (3*ts.length)),AF x.p (rowsL Ac ts)]) (tg λ(i:Nat) (p1:Option Addr) (c1:Nat) (out:List T3)=>(BR ts).length-i) 0 none 0 ([]:List T3) (⟨xJ _,OwnOk.none,rfl⟩) (sF O) sr (λi p1 c1 out hJ=>?_)
  obtain ⟨hi,ho,hou⟩:=hJ
  have hol:=Vn (ts:=ts) i
  rw [<-hou] at hol
  refine q4 (AD (Aa (c:=(decide (i<((BR ts).length)))) O O (DB (a:=i) (b:=(BR ts).length))) O (oNl' (q1 ?_)))
  refine zL O (λhc3=>?_) (λhc3=>?_)
  ·replace hc3:=xT hc3
   have hel:=KB (ts:=ts) (3*ts.length)
   rw [<-IL] at hel
   have hmem:((BR ts).getD i jA)∈BR ts:=by rw [List.getD,xP hc3];exact List.getElem_mem hc3
   obtain ⟨hea,heb⟩:=UQ hn hN _ hmem
   refine zC (q1 (zJ (q4 (AD (v:=(pP (pB o.p) (pO o.p+i*4))) (AM (j:=i) O O o.ok underlying46 sizeOf49 O Z) O (AD (v:=(aG (Bg ((BR ts).getD i jA)))) (AO (vs:=Bg ((BR ts).getD i jA)) (i:=0) O O (Ay.ne o.ok Z) Hg (Af DD _ _ _ Z) (DD _)) O (al Io O λb2=>Ag O sizeOf49 O (q3 (sL [4,5,52,53,54,11,13] O) (AL O (AD (v:=(pP b2 0)) (AA O underlying49 O sizeOf3 O) O (BF 0 (vN (((BR ts).getD i jA).a)) Bm O ?_))))))))))
   refine AD (v:=(pP b2 1)) (AA O underlying49 O sizeOf3 O) O (BF 0 (vN (((BR ts).getD i jA).b)) Bm O (AD (v:=(aG ([(vN (((BR ts).getD i jA).a)),(vN (((BR ts).getD i jA).b))]))) (AP (zs:=A6 ((0,0):P2)) (vs:=[(vN (((BR ts).getD i jA).a)),(vN (((BR ts).getD i jA).b))]) (pv:=[(0,(vN (((BR ts).getD i jA).a))),(1,(vN (((BR ts).getD i jA).b)))]) (places:=[(0,1),(1,1)]) zeroValue192 underlying192 (λw=>by simp [sizeOf3]) O O) O (AD (v:=(vN ((BW (C1 ts (3*ts.length)) ((((BR ts).getD i jA).a,((BR ts).getD i jA).b):P2)).getD 0))) (HN Hz 3 (eV:=vN) (kvs:=(C1 ts (3*ts.length))) (x:=((((BR ts).getD i jA).a,((BR ts).getD i jA).b):P2)) (z0:=0) (co:=false) O O underlying190 zeroValue3 O (Fa hn hN _ Z) (Zp Z Z)) O (AD (BL (c:=(decide (((BW (C1 ts (3*ts.length)) ((((BR ts).getD i jA).a,((BR ts).getD i jA).b):P2)).getD 0)=1))) O O (N9 (a:=(BW (C1 ts (3*ts.length)) ((((BR ts).getD i jA).a,((BR ts).getD i jA).b):P2)).getD 0) (b:=1))) O (oNl' (zB (sL [4,5,52,53,54,11,13,65] O) (zA ?_)))))))
   refine zL O (λhc4=>?_) (λhc4=>?_)
   ·replace hc4:=xT hc4
    refine zH (AL O (AD (v:=(pP b2 0)) (AA O underlying49 O sizeOf3 O) O (BF 0 (vN (((BR ts).getD i jA).a)) Bm O (AD (v:=(pP b2 1)) (AA O underlying49 O sizeOf3 O) O (BF 0 (vN (((BR ts).getD i jA).b)) Bm O (AD (v:=(aG ([(vN (((BR ts).getD i jA).a)),(vN (((BR ts).getD i jA).b)),(vI 0)]))) (AP (zs:=Ac jJ) (vs:=[(vN (((BR ts).getD i jA).a)),(vN (((BR ts).getD i jA).b)),(vI 0)]) (pv:=[(0,(vN (((BR ts).getD i jA).a))),(1,(vN (((BR ts).getD i jA).b)))]) (places:=[(0,1),(1,1),(2,1)]) zeroValue110 underlying110 (λw=>by simp [sizeOf3]) O O) O (zZ (V:=λb3=>(qz (jk b3) 1 1)) (T:=110) (cs:=Ac (((BR ts).getD i jA).a,((BR ts).getD i jA).b,0)) (AI O) (Az (z:=.agg (Ac jJ).toArray) (cs:=Ac (((BR ts).getD i jA).a,((BR ts).getD i jA).b,0)) (pv:=[(0,(aG ([(vN (((BR ts).getD i jA).a)),(vN (((BR ts).getD i jA).b)),(vI 0)])))]) underlying24 sizeOf110 zeroValue110 jY jY O (J1 (((BR ts).getD i jA).a,((BR ts).getD i jA).b,0))) O (BA O) λb3=>zr 3 (j:=0) (cs2:=rowsL Ac (out++[(((BR ts).getD i jA).a,((BR ts).getD i jA).b,0)])) Yd O ho (AS Aq _) O O O O O jY (LG Z) Z (by rw [Bd];rfl) O λp_1 c_1 ho_1 hne_1=>asg' O (oNl' (zB (sL [4,5,52,53,54,11,13] O) ?_)))))))))
    refine zG (zA (zH (AD (AT (c:=((i+1:Nat):Int)) O O (AV (a:=i) (b:=1) Z)) O (AL O (oNl' (zB (sL [4,5,52,53,54,11,13] O) ?_))))))
    rw [show out.length+1=(out++[(((BR ts).getD i jA).a,((BR ts).getD i jA).b,0)]).length by simp]
    exact z7 (i+1) p_1 c_1 (out++[(((BR ts).getD i jA).a,((BR ts).getD i jA).b,0)]) (⟨Z,(by simpa using ho_1),by rw [hou];exact (Vo Z hc4).symm⟩) Z (sF O) (sl (sl sr))
   ·replace hc4:=xS hc4
    exact zC (zG (zA (zH (AD (AT (c:=((i+1:Nat):Int)) O O (AV (a:=i) (b:=1) Z)) O (AL O (oNl' (zB (sL [4,5,52,53,54,11,13] O) (z7 (i+1) p1 c1 out (⟨Z,ho,by rw [hou];exact (YP Z hc4).symm⟩) Z (sF O) (sl sr)))))))))
  ·replace hc3:=xS hc3
   exact zU (zO (yB (zP (q2 (AL O (ck' call102 (Ki p1 out.length c1 ho.row.le) O (asg' O (oNl' (zB (sL [4,5,52,53,54,11] O) (zA (zF (ret_one O (rd_tmp (v:=(qz p1 out.length out.length)) O) (λw hw=>(by rw [show FS ts=out by rw [hou,show i=(BR ts).length by omega];rfl];exact JJ hw (OX.mk p1 c1 ho) (sl (sk (sl (sl sr)))) (Fq.own O Fq.nil) O))))))))))))))
end
end Go.Proofs.YtpolhpjiahbidaaGreatDoor
