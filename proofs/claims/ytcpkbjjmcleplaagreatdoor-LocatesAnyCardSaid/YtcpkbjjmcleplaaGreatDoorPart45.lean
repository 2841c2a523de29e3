import Derived.Test.YtcpkbjjmcleplaaGreatDoorTie
import Derived.Test.YtcpkbjjmcleplaaGreatDoorCards
import Derived.ProofKit
import Derived.Carry
import Derived.Stop.Joined
import Derived.SevenTiedAt
import Derived.Test.YtcpkbjjmcleplaaGreatDoorPart43
import Derived.Test.YtcpkbjjmcleplaaGreatDoorPart44
namespace Go.Proofs.YtcpkbjjmcleplaaGreatDoor
open Go Go.RowKit Go.Proofs.Tryz
open Go.Value renaming slice→qz,bool→qa
set_option linter.unusedVariables false
set_option linter.unusedSimpArgs false
section
set_option maxRecDepth 100000
theorem fK:ElemT prog 39 86 6 112:=⟨underlying39,DP jV⟩
def Ek (q:QD):Bool:=decide (-1000000<=q.n)&&(decide (q.n<=1000000)&&decide (q.d<=1000000))
def JH (r:RW):Bool:=decide (24<r.ds.length)||(decide (24<r.ts.length)||(decide (60<r.ss.length)||r.ds.any λd=>!(Ek d.x&&Ek d.y)))
theorem VH {r:RW} (h:JH r=false):r.ds.length<=24/\r.ts.length<=24/\r.ss.length<=60:=by
 unfold JH at h
 simp only [xW,xS] at h
 omega
theorem VG {r:RW} {i:Nat} (hi:i<r.ds.length) (h:(!Ek (r.ds.getD i FZ).x||!Ek (r.ds.getD i FZ).y)=true):JH r=true:=by
 unfold JH
 have:(r.ds.any λd=>!(Ek d.x&&Ek d.y))=true:=List.any_eq_true.2 ⟨_,List.getElem_mem hi,by
  rw [List.getD,xN hi] at h
  simpa using h⟩
 rw [this];simp
theorem S1 {r:RW} (h:24<r.ds.length\/24<r.ts.length\/60<r.ss.length):JH r=true:=by
 unfold JH
 rcases h with h|h|h<;>simp [h]
theorem S2 {r:RW} (h:¬(24<r.ds.length\/24<r.ts.length\/60<r.ss.length)) (hs:∀i,i<r.ds.length->(Ek (r.ds.getD i FZ).x&&Ek (r.ds.getD i FZ).y)=true):JH r=false:=by
 unfold JH
 have:(r.ds.any λd=>!(Ek d.x&&Ek d.y))=false:=by
  rw [List.any_eq_false]
  intro d hd
  obtain ⟨i,hi,rfl⟩:=List.getElem_of_mem hd
  have:=hs i hi
  rw [List.getD,xN hi] at this
  simpa using this
 rw [this]
 simp only [xW,xS]
 exact ⟨Z,Z,Z,trivial⟩
theorem NA (q:QD) (w:World)  :Calls prog 12 #[(aG (IE q))] w (AY w (qa (Ek q))):=by
 refine AS (args:=[(aG (IE q))]) func12 O O (leB O) (zG (sL [0] O) (q4 (A9 (cs:=IE q) O λb1=>asg' O (q3 (sL [1,2] O) (st' (v:=(pP b1 0)) (AA O underlying29 O sizeOf2 O) O (BZ 0 (vI q.n) dw O (st' (CW (c:=(decide ((-1000000:Int)<=q.n))) O O O) O (AL O ?_))))))))
 refine zg (FM:=[(1,(pP b1 0)),(2,(qa false)),(3,(pP b1 0)),(4,(vI q.n)),(5,(qa (decide ((-1000000:Int)<=q.n)))),(6,(qa (decide ((-1000000:Int)<=q.n)))),(10,(qa ((decide ((-1000000:Int)<=q.n))&&(decide (q.n<=(1000000:Int))))))]) (LM:=[AQ b1 29 (IE q)]) 4 ?_ ?_
 ·rcases xO (decide ((-1000000:Int)<=q.n)) with hg1|hg1
  ·refine zJ (k:=6) (u:=qa true) O (by rw [hg1]) ?_
   have hg1':=xR hg1
   exact BN (v:=(pP b1 0)) O (AA O underlying29 O sizeOf2 O) (BN (v:=(vI q.n)) O (AP (i:=0) (v:=(vI q.n)) O O dw.a O) (BN (v:=(qa (decide (q.n<=(1000000:Int))))) O (D6 (c:=(decide (q.n<=(1000000:Int)))) O O O) (st' (v:=(qa (decide (q.n<=(1000000:Int))))) (ex_pick_true O O) O (oNl' (zS CK (xP _))))))
  ·refine zJ (k:=6) (u:=qa false) O (by rw [hg1]) ?_
   have hg1':=xQ hg1
   exact BF O (BF O (BF O (st' (v:=(qa false)) (AN O O) O (oNl' (zS CK (xP _))))))
 refine AL O ?_
 refine zg (FM:=[(1,(pP b1 0)),(2,(qa false)),(3,(pP b1 0)),(4,(vI q.n)),(5,(qa (decide ((-1000000:Int)<=q.n)))),(6,(qa (decide ((-1000000:Int)<=q.n)))),(10,(qa ((decide ((-1000000:Int)<=q.n))&&(decide (q.n<=(1000000:Int)))))),(11,(qa ((decide ((-1000000:Int)<=q.n))&&(decide (q.n<=(1000000:Int)))))),(15,(qa (((decide ((-1000000:Int)<=q.n))&&(decide (q.n<=(1000000:Int))))&&(decide (q.d<=1000000)))))]) (LM:=[AQ b1 29 (IE q)]) 4 ?_ ?_
 ·rcases xO ((decide ((-1000000:Int)<=q.n))&&(decide (q.n<=(1000000:Int)))) with hg2|hg2
  ·refine zJ (k:=11) (u:=qa true) O (by rw [hg2]) ?_
   have hg2':=hg2
   simp only [jK] at hg2'
   exact BN (v:=(pP b1 1)) O (AA O underlying29 O sizeOf27 O) (BN (v:=(vK .u32 q.d)) O (AP (i:=0) (v:=(vK .u32 q.d)) O O bB.a O) (BN (v:=(qa (decide (q.d<=1000000)))) O (D6 (c:=(decide (q.d<=1000000))) O O (Rp (a:=q.d) (b:=1000000))) (st' (v:=(qa (decide (q.d<=1000000)))) (ex_pick_true O O) O (oNl' (zS Hw (xP _))))))
  ·refine zJ (k:=11) (u:=qa false) O (by rw [hg2]) ?_
   have hg2':=hg2
   simp only [jK] at hg2'
   exact BF O (BF O (BF O (st' (v:=(qa false)) (AN O O) O (oNl' (zS Hw (xP _))))))
 exact asg' O (oNl' (zB (sL [2] O) (zA (zF (ret_one O (rd_tmp (v:=(qa (((decide ((-1000000:Int)<=q.n))&&(decide (q.n<=(1000000:Int))))&&(decide (q.d<=1000000))))) O) (λw hw=>⟨by unfold Ek;simp [Bool.and_assoc],hw.out⟩))))))
theorem UL (r:RW) (w:World) {S:Nat->Prop} (hr:Ro S w r):Calls prog 5 #[(aG (Iy r))] w (AY w (qa (JH r))):=by
 have lr:=Bs (W:=w) hr
 refine AX (args:=[(aG (Iy r))]) (L:=[AI r.a.p (rowsL Cn r.ds),AI r.b.p (rowsL BB r.ts),AI r.c.p (rowsL BB r.ss)]) func5 O O (leB O) (GN hr Al) (zG (sL [0] O) (q4 (A9 (cs:=Iy r) O λb1=>asg' O (q6 (sL [1,2] O) (q4 (st' (v:=(pP b1 0)) (AA O underlying26 O sizeOf22 O) O (BZ 0 (qz r.a.p r.ds.length r.a.c) PV O (st' (v:=(vN r.ds.length)) (AD O underlying22) O (st' (Bu (c:=(decide (24<r.ds.length))) O O (DL (a:=24) (b:=r.ds.length))) O (AL O ?_))))))))))
 refine zg (FM:=[(1,(pP b1 0)),(2,(qa false)),(4,(pP b1 0)),(5,(qz r.a.p r.ds.length r.a.c)),(6,(vN r.ds.length)),(7,(qa (decide (24<r.ds.length)))),(8,(qa (decide (24<r.ds.length)))),(13,(qa ((decide (24<r.ds.length))||(decide (24<r.ts.length)))))]) (LM:=[AQ b1 26 (Iy r),AI r.a.p (rowsL Cn r.ds),AI r.b.p (rowsL BB r.ts),AI r.c.p (rowsL BB r.ss)]) 5 ?_ ?_
 ·rcases xO (decide (24<r.ds.length)) with hg1|hg1
  ·refine zJ (k:=8) (u:=qa true) O (by rw [hg1]) ?_
   have hg1':=xR hg1
   exact BF O (BF O (BF O (BF O (st' (v:=(qa true)) (ex_pick_true O O) O (oNl' (zS CK (xP _)))))))
  ·refine zJ (k:=8) (u:=qa false) O (by rw [hg1]) ?_
   have hg1':=xQ hg1
   exact BN (v:=(pP b1 1)) O (AA O underlying26 O sizeOf23 O) (BN (v:=(qz r.b.p r.ts.length r.b.c)) O (AP (i:=0) (v:=(qz r.b.p r.ts.length r.b.c)) O O HY.a O) (BN (v:=(vN r.ts.length)) O (AD O underlying23) (BN (v:=(qa (decide (24<r.ts.length)))) O (Bu (c:=(decide (24<r.ts.length))) O O (DL (a:=24) (b:=r.ts.length))) (st' (v:=(qa (decide (24<r.ts.length)))) (AN O O) O (oNl' (zS CK (xP _)))))))
 refine AL O ?_
 refine zg (FM:=[(1,(pP b1 0)),(2,(qa false)),(4,(pP b1 0)),(5,(qz r.a.p r.ds.length r.a.c)),(6,(vN r.ds.length)),(7,(qa (decide (24<r.ds.length)))),(8,(qa (decide (24<r.ds.length)))),(13,(qa ((decide (24<r.ds.length))||(decide (24<r.ts.length))))),(14,(qa ((decide (24<r.ds.length))||(decide (24<r.ts.length))))),(19,(qa (((decide (24<r.ds.length))||(decide (24<r.ts.length)))||(decide (60<r.ss.length)))))]) (LM:=[AQ b1 26 (Iy r),AI r.a.p (rowsL Cn r.ds),AI r.b.p (rowsL BB r.ts),AI r.c.p (rowsL BB r.ss)]) 5 ?_ ?_
 ·rcases xO ((decide (24<r.ds.length))||(decide (24<r.ts.length))) with hg2|hg2
  ·refine zJ (k:=14) (u:=qa true) O (by rw [hg2]) ?_
   have hg2':=hg2
   simp only [jK] at hg2'
   exact BF O (BF O (BF O (BF O (st' (v:=(qa true)) (ex_pick_true O O) O (oNl' (zS Hw (xP _)))))))
  ·refine zJ (k:=14) (u:=qa false) O (by rw [hg2]) ?_
   have hg2':=hg2
   simp only [jK] at hg2'
   exact BN (v:=(pP b1 2)) O (AA O underlying26 O sizeOf24 O) (BN (v:=(qz r.c.p r.ss.length r.c.c)) O (AP (i:=0) (v:=(qz r.c.p r.ss.length r.c.c)) O O Tv.a O) (BN (v:=(vN r.ss.length)) O (AD O underlying24) (BN (v:=(qa (decide (60<r.ss.length)))) O (Bu (c:=(decide (60<r.ss.length))) O O (DL (a:=60) (b:=r.ss.length))) (st' (v:=(qa (decide (60<r.ss.length)))) (AN O O) O (oNl' (zS Hw (xP _)))))))
 refine oNl' (zB (sL [1,2,19] O) (zA ?_))
 refine zK O (λhc0=>?_) (λhc0=>?_)
 ·simp only [jK] at hc0
  have hgr:JH r=true:=S1 (by grind)
  exact q4 (asg' O (oNl' (zA (zF (zH (ret_one O (rd_tmp (v:=(qa true)) O) (λw hw=>⟨by rw [hgr],hw.out⟩)))))))
 ·simp only [jK] at hc0
  have hgl:¬(24<r.ds.length\/24<r.ts.length\/60<r.ss.length):=by grind
  refine zI (q1 (q4 (asg' O (oNl' (zA (zN ?_))))))
  refine yO (tg λ(i:Nat)=>i<=r.ds.length/\∀j,j<i->(Ek (r.ds.getD j FZ).x&&Ek (r.ds.getD j FZ).y)=true) (tg λ(i:Nat)=>[(1,(pP b1 0)),(3,(vN i))]) (tg λ(i:Nat)=>[AQ b1 26 (Iy r),AI r.a.p (rowsL Cn r.ds),AI r.b.p (rowsL BB r.ts),AI r.c.p (rowsL BB r.ss)]) (tg λ(i:Nat)=>r.ds.length-i) 0 (⟨xH _,λj h=>absurd h (Nat.not_lt_zero _)⟩) (sF O) sr (λi hJ=>?_)
  obtain ⟨hi,hs⟩:=hJ
  refine zV (q4 (AL O (st' (v:=(pP b1 0)) (AA O underlying26 O sizeOf22 O) O (BZ 0 (qz r.a.p r.ds.length r.a.c) PV O (st' (v:=(vN r.ds.length)) (AD O underlying22) O (st' (Ag (c:=(decide (i<r.ds.length))) O O (DL (a:=i) (b:=r.ds.length))) O (oNl' (zB (sL [1,3,24] O) (zA ?_)))))))))
  refine zK O (λhc1=>?_) (λhc1=>?_)
  ·replace hc1:=xR hc1
   refine zI (q1 (zN (q4 (st' (v:=(pP b1 0)) (AA O underlying26 O sizeOf22 O) O (BZ 0 (qz r.a.p r.ds.length r.a.c) PV O (AL O (st' (v:=(pP (pB r.a.p) (pO r.a.p+i*4))) (AU (j:=i) O O r.a.ok underlying22 sizeOf31 O Z) O (st' (v:=(pP (pB r.a.p) (pO r.a.p+(i*4+0)))) (AA O underlying31 O sizeOf29 (Nat.add_assoc _ _ _)) O (st' (v:=(aG (IE ((r.ds.getD i FZ).x)))) (Af (vs:=IE ((r.ds.getD i FZ).x)) (i:=1) O O (BI.ne r.a.ok Z) Tt (C2 Gg FZ _ _ 0 2 Z jY O) O) O (ck' call12 (NA ((r.ds.getD i FZ).x)) O (st' (Bh (c:=(!(Ek ((r.ds.getD i FZ).x)))) O O) O ?_)))))))))))
   refine AL O ?_
   refine zg (FM:=[(1,(pP b1 0)),(3,(vN i)),(27,(pP b1 0)),(28,(qz r.a.p r.ds.length r.a.c)),(29,(vN i)),(30,(pP (pB r.a.p) (pO r.a.p+i*4))),(31,(pP (pB r.a.p) (pO r.a.p+(i*4+0)))),(32,(aG (IE ((r.ds.getD i FZ).x)))),(33,(qa (Ek ((r.ds.getD i FZ).x)))),(34,(qa (!(Ek ((r.ds.getD i FZ).x))))),(35,(qa (!(Ek ((r.ds.getD i FZ).x))))),(44,(qa ((!(Ek ((r.ds.getD i FZ).x)))||(!(Ek ((r.ds.getD i FZ).y))))))]) (LM:=[AQ b1 26 (Iy r),AI r.a.p (rowsL Cn r.ds),AI r.b.p (rowsL BB r.ts),AI r.c.p (rowsL BB r.ss)]) 9 ?_ ?_
   ·rcases xO (!(Ek ((r.ds.getD i FZ).x))) with hg3|hg3
    ·refine zJ (k:=35) (u:=qa true) O (by rw [hg3]) ?_
     have hg3':=hg3
     simp only [jK] at hg3'
     exact BF O (BF O (BF O (BF O (BF O (BF O (BF O (BF O (st' (v:=(qa true)) (ex_pick_true O O) O (oNl' (zS Mc (xP _)))))))))))
    ·refine zJ (k:=35) (u:=qa false) O (by rw [hg3]) ?_
     have hg3':=hg3
     simp only [jK] at hg3'
     exact BN (v:=(pP b1 0)) O (AA O underlying26 O sizeOf22 O) (BN (v:=(qz r.a.p r.ds.length r.a.c)) O (AP (i:=0) (v:=(qz r.a.p r.ds.length r.a.c)) O O PV.a O) (FV O (BN (v:=(pP (pB r.a.p) (pO r.a.p+i*4))) O (AU (j:=i) O O r.a.ok underlying22 sizeOf31 O Z) (BN (v:=(pP (pB r.a.p) (pO r.a.p+(i*4+2)))) O (AA O underlying31 O sizeOf29 (Nat.add_assoc _ _ _)) (BN (v:=(aG (IE ((r.ds.getD i FZ).y)))) O (Af (vs:=IE ((r.ds.getD i FZ).y)) (i:=1) O O (BI.ne r.a.ok Z) Tt (C2 Gg FZ _ _ 2 2 Z jY O) O) (zc (v:=(qa (Ek ((r.ds.getD i FZ).y)))) (AE O) (Ac (args:=[(aG (IE ((r.ds.getD i FZ).y)))]) O O call12) (λw hw=>NA ((r.ds.getD i FZ).y) w) O (leB O) (BN (v:=(qa (!(Ek ((r.ds.getD i FZ).y))))) O (Bh (c:=(!(Ek ((r.ds.getD i FZ).y)))) O O) (st' (v:=(qa (!(Ek ((r.ds.getD i FZ).y))))) (AN O O) O (oNl' (zS Mc (xP _)))))))))))
   refine oNl' (zB (sL [1,3,44] O) (zA ?_))
   refine zK O (λhc2=>?_) (λhc2=>?_)
   ·simp only [jK] at hc2
    have hgr:JH r=true:=VG Z (by grind)
    exact q4 (asg' O (oNl' (zA (zF (zT (zH (zy (zT (zH (ret_one O (rd_tmp (v:=(qa true)) O) (λw hw=>⟨by rw [hgr],hw.out⟩)))))))))))
   ·simp only [jK] at hc2
    have hsj:(Ek (r.ds.getD i FZ).x&&Ek (r.ds.getD i FZ).y)=true:=by grind
    exact zI (zM (zA (zL (AL O (st' (Ad (c:=((i+1:Nat):Int)) O O (Ab (a:=i) (b:=1) Z)) O (asg' O (oNl' (zB (sL [1,3] O) (yC (i+1) (⟨Z,λj hj=>by rcases Nat.lt_or_ge j i with k|k;exact hs j k;rw [show j=i by omega];exact hsj⟩) Z (sF O) sr)))))))))
  ·replace hc1:=xQ hc1
   have hgr:JH r=false:=S2 hgl λj hj=>hs j Z
   exact zW (zO (zn (zR (q2 (asg' O (oNl' (zA (zF (ret_one O (rd_tmp (v:=(qa false)) O) (λw hw=>⟨by rw [hgr],hw.out⟩))))))))))
theorem Lq (x0:Pt):Instr.fill (λi=>some (i*10,10)) ((Array.range (1*10)).map ((Value.agg (Ae (⟨0,0⟩:Pt)).toArray).cells[·%(Value.agg (Ae (⟨0,0⟩:Pt)).toArray).cells.size]!)) [(0,.agg (Ae x0).toArray)]=some (Ae x0).toArray:=by kernel_rfl
set_option maxHeartbeats 1000000 in
theorem UR (r:RW) (hl1:r.ds.length<=24) (hl2:r.ts.length<=24) (hl3:r.ss.length<=60) (w:World) {S:Nat->Prop} (hr:Ro S w r):Calls prog 8 #[(aG (Iy r))] w (Ai (MZ r.ps r.ts r.ss) S w):=by
 have lr:=Bs (W:=w) hr
 refine AX (args:=[(aG (Iy r))]) (L:=[AI r.a.p (rowsL Cn r.ds),AI r.b.p (rowsL BB r.ts),AI r.c.p (rowsL BB r.ss)]) func8 O O (leB O) (GN hr Al) (zG (sL [0] O) (q4 (A9 (cs:=Iy r) O λb1=>al bC O λb2=>q6 (sL [1,2] O) (rN [(0,true),(1,true),(3,true),(4,true),(2,false),(5,false),(6,true)] [⟨7,3,37,[jj,jj,jj]⟩] [(8,false)] sr jV (λ_ _ d _ _ h=>by cases d<;>exact h) (FY O O bC O (Fj)) O (GI (v:=(pP b1 1)) O (AA O underlying26 O sizeOf23 O) O (dY 1 (qz r.b.p r.ts.length r.b.c) HY O (GI (v:=(pP b1 2)) O (AA O underlying26 O sizeOf24 O) O (dY 1 (qz r.c.p r.ss.length r.c.c) Tv O (ze O λEF EL=>?_)))))))))
 refine zk 64 3 (yJ dR O OwnOk.none O (ZD (k:=4) O r.b.ok) (AV Cy _) (Co OC _) (G8 Z) Z O λptb ctb otb=>xA (sl sr) O (ze O λEF EL=>zk 96 3 (yJ fI O OwnOk.none O (ZD (k:=6) O r.c.ok) (AV Cy _) (Co OC _) (G8 Z) Z O λpsb csb osb=>xA (sl (sl sr)) O (GI (v:=(aG ([jj,(qz ptb r.ts.length ctb),(qz psb r.ss.length csb)]))) O (AR (zs:=[jj,jj,jj]) (vs:=[jj,(qz ptb r.ts.length ctb),(qz psb r.ss.length csb)]) (pv:=[(1,(qz ptb r.ts.length ctb)),(2,(qz psb r.ss.length csb))]) (places:=[(0,1),(1,1),(2,1)]) zeroValue37 underlying37 (λw=>by simp [sizeOf23,sizeOf24,sizeOf35]) O O) O (zm λb3=>zD O (Am O sizeOf37 O (zk 62 10 ?_)))))))
 refine zC (sl (sl (sl (sl sr)))) (zP (zB (sL [1,2,3] O) (q1 (q4 (asg' O (oNl' (zA (zN ?_))))))))
 refine yn (tg λ(i:Nat) (p1:Option Addr) (c1:Nat) (ps:List Pt)=>i<=r.ds.length/\OwnOk p1 ps.length c1/\ps=r.ps.take i) (tg λ(i:Nat) (p1:Option Addr) (c1:Nat) (ps:List Pt)=>[(1,(pP b1 0)),(2,(pP b2 0)),(3,(pP b3 0)),(4,(vN i))]) (tg λ(i:Nat) (p1:Option Addr) (c1:Nat) (ps:List Pt)=>[rowW p1 62 10 ps.length c1 (rowsL Ae ps),AQ b3 37 ([(qz p1 ps.length c1),(qz ptb r.ts.length ctb),(qz psb r.ss.length csb)]),rowW psb 96 3 r.ss.length csb (rowsL BB r.ss),rowW ptb 64 3 r.ts.length ctb (rowsL BB r.ts),AQ b2 37 ([jj,jj,jj]),AQ b1 26 (Iy r),AI r.a.p (rowsL Cn r.ds),AI r.b.p (rowsL BB r.ts),AI r.c.p (rowsL BB r.ss)]) (tg λ(i:Nat) (p1:Option Addr) (c1:Nat) (ps:List Pt)=>r.ds.length-i) 0 none 0 ([]:List Pt) (⟨xH _,OwnOk.none,rfl⟩) (sF O) sr (λi p1 c1 ps hJ=>?_)
 obtain ⟨hi,h1,hps⟩:=hJ
 have hpl:ps.length<=24:=by rw [hps,List.length_take];omega
 refine zV (q4 (AL O (st' (v:=(pP b1 0)) (AA O underlying26 O sizeOf22 O) O (BZ 5 (qz r.a.p r.ds.length r.a.c) PV O (st' (v:=(vN r.ds.length)) (AD O underlying22) O (st' (Ag (c:=(decide (i<r.ds.length))) O O (DL (a:=i) (b:=r.ds.length))) O (oNl' (zB (sL [1,2,3,4,16] O) (zA ?_)))))))))
 refine zK O (λhc0=>?_) (λhc0=>?_)
 ·replace hc0:=xR hc0
  refine zI (q1 (zN (rC [(0,true),(1,true),(2,true),(3,true),(4,true),(5,true),(6,true),(7,false),(8,false),(9,false),(10,true)] 11 [] (sl sr) (sl sr) jV (λ_ _ d _ _ h=>by cases d<;>exact h) (vE (v:=(pP b3 0)) O (AA O underlying37 O sizeOf35 O) O (vE O (AP (i:=0) (v:=(qz p1 ps.length c1)) O O KA.a O) O (vE (v:=(pP b1 0)) O (AA O underlying26 O sizeOf22 O) O (vE O (AP (i:=4) (v:=(qz r.a.p r.ds.length r.a.c)) O O PV.a O) O (vM O O O (vE (v:=(pP (pB r.a.p) (pO r.a.p+i*4))) O (AU (j:=i) O O r.a.ok underlying22 sizeOf31 O Z) O (vE (v:=(aG (Cn (r.ds.getD i FZ)))) O (Af (vs:=Cn (r.ds.getD i FZ)) (i:=5) O O (BI.ne r.a.ok Z) IH (BG Gg _ _ _ Z) (Gg _)) O (yV O ?_)))))))))))
  refine ck' call20 (Kb (r.ds.getD i FZ) (r.ok Z)) O (yN (sl sr) (yV O (zf (V:=λb4=>(qz (jk b4) 1 1)) (T:=62) (cs:=Ae (Gh (r.ds.getD i FZ))) (AJ O) (Ar (z:=.agg (Ae (⟨0,0⟩:Pt)).toArray) (cs:=Ae (Gh (r.ds.getD i FZ))) (pv:=[(0,(aG (Ae (Gh (r.ds.getD i FZ)))))]) underlying35 sizeOf62 zeroValue62 jY jY O (Lq (Gh (r.ds.getD i FZ)))) O (leB O) λb4=>yN (sl (sl sr)) (yV O (z8 (j:=0) (cs2:=rowsL Ae (ps++[Gh (r.ds.getD i FZ)])) fJ O h1 (AV C6 _) O O O O jY (G8 Z) Z (by rw [BM];rfl) O λp_1 c_1 ho_1 hne_1=>yN (sl (sl sr)) (vE (v:=(pP b3 0)) O (AA O underlying37 O sizeOf35 O) O (yp O (EV 2 (off:=0) (vs:=[(qz p_1 (ps.length+1) c_1)]) (cs':=[(qz p_1 (ps.length+1) c_1),(qz ptb r.ts.length ctb),(qz psb r.ss.length csb)]) (AJ O) O sizeOf35 O (zC (sl (sl (sl sr))) ?_)))))))))
  refine zP (zB (sL [1,2,3,4] O) (zM (zA (zL (AL O (st' (Ad (c:=((i+1:Nat):Int)) O O (Ab (a:=i) (b:=1) Z)) O (asg' O (oNl' (zB (sL [1,2,3,4] O) ?_)))))))))
  rw [show ps.length+1=(ps++[Gh (r.ds.getD i FZ)]).length by simp]
  exact yA (i+1) p_1 c_1 (ps++[Gh (r.ds.getD i FZ)]) (⟨Z,(by simpa using ho_1),by rw [hps,PB r Z]⟩) Z (sF O) (sl sr)
 ·replace hc0:=xQ hc0
  exact zW (zO (yH (zR (q2 (Ah 1 Fy O (EV 4 (off:=0) (vs:=[(qz p1 ps.length c1),(qz ptb r.ts.length ctb),(qz psb r.ss.length csb)]) (cs':=[(qz p1 ps.length c1),(qz ptb r.ts.length ctb),(qz psb r.ss.length csb)]) (AJ O) O sizeOf37 O (oNl' (zB (sL [1,2,3,4] O) (zA (zF (ret_one O (Aa (i:=4) (cs:=[(qz p1 ps.length c1),(qz ptb r.ts.length ctb),(qz psb r.ss.length csb)]) O O isAgg37 sizeOf37 O) (λw hw=>(by have hpf:ps=r.ps:=(by rw [hps,show i=r.ds.length by omega,<-r.pl,List.take_length]);subst hpf;exact cv hw 0 3 2 O O O h1 otb osb O O O O)))))))))))))
theorem Lr (x0:Z3):Instr.fill (λi=>some (i*3,3)) ((Array.range (1*3)).map ((Value.agg (BB ((0,0,0):Z3)).toArray).cells[·%(Value.agg (BB ((0,0,0):Z3)).toArray).cells.size]!)) [(0,.agg (BB x0).toArray)]=some (BB x0).toArray:=by kernel_rfl
set_option maxHeartbeats 1000000 in
theorem XJ (r:RW) (hl1:r.ds.length<=24) (hl2:r.ts.length<=24) (hl3:r.ss.length<=60) (w:World) {S:Nat->Prop} (hr:Ro S w r):Calls prog 9 #[(aG (Iy r))] w (Ai (Ji r.ps r.ts r.ss) S w):=by
 have lr:=Bs (W:=w) hr
 refine AX (args:=[(aG (Iy r))]) (L:=[AI r.a.p (rowsL Cn r.ds),AI r.b.p (rowsL BB r.ts),AI r.c.p (rowsL BB r.ss)]) func9 O O (leB O) (GN hr Al) (zG (sL [0] O) (q4 (A9 (cs:=Iy r) O λb1=>al dV O λb2=>q3 (sL [1,2] O) (st' (v:=(pP b1 1)) (AA O underlying26 O sizeOf23 O) O (BZ 1 (qz r.b.p r.ts.length r.b.c) HY O (zk 64 3 (yJ dR O OwnOk.none O (ZD (k:=4) O r.b.ok) (AV Cy _) (Co OC _) (G8 Z) Z O λptb ctb otb=>st' (v:=(aG ([jj,(qz ptb r.ts.length ctb),jj]))) (AR (zs:=[jj,jj,jj]) (vs:=[jj,(qz ptb r.ts.length ctb),jj]) (pv:=[(1,(qz ptb r.ts.length ctb))]) (places:=[(0,1),(1,1),(2,1)]) zeroValue42 underlying42 (λw=>by simp [sizeOf23,sizeOf39,sizeOf40]) O O) O (al dV O λb3=>?_))))))))
 refine Am O sizeOf42 O (zk 86 6 (zk 97 3 (q6 (sL [1,2,3] O) (q4 (asg' O (oNl' (zA (zN ?_))))))))
 refine yn (tg λ(i:Nat) (p2:Option Addr) (c2:Nat) (ss:List Z3)=>i<=r.ss.length/\OwnOk p2 ss.length c2/\ss=r.ss.take i) (tg λ(i:Nat) (p2:Option Addr) (c2:Nat) (ss:List Z3)=>[(1,(pP b1 0)),(2,(pP b2 0)),(3,(pP b3 0)),(4,(vN i))]) (tg λ(i:Nat) (p2:Option Addr) (c2:Nat) (ss:List Z3)=>[rowW p2 97 3 ss.length c2 (rowsL BB ss),rowW none 86 6 0 0 (rowsL Dp ([]:List RP)),AQ b3 42 ([jj,(qz ptb r.ts.length ctb),(qz p2 ss.length c2)]),rowW ptb 64 3 r.ts.length ctb (rowsL BB r.ts),AQ b2 42 ([jj,jj,jj]),AQ b1 26 (Iy r),AI r.a.p (rowsL Cn r.ds),AI r.b.p (rowsL BB r.ts),AI r.c.p (rowsL BB r.ss)]) (tg λ(i:Nat) (p2:Option Addr) (c2:Nat) (ss:List Z3)=>r.ss.length-i) 0 none 0 ([]:List Z3) (⟨xH _,OwnOk.none,rfl⟩) (sF O) sr (λi p2 c2 ss hJ=>?_)
 obtain ⟨hi,h2,hss⟩:=hJ
 have hsl:ss.length<=60:=by rw [hss,List.length_take];omega
 refine zV (q4 (AL O (st' (v:=(pP b1 2)) (AA O underlying26 O sizeOf24 O) O (BZ 5 (qz r.c.p r.ss.length r.c.c) Tv O (st' (v:=(vN r.ss.length)) (AD O underlying24) O (st' (Ag (c:=(decide (i<r.ss.length))) O O (DL (a:=i) (b:=r.ss.length))) O (oNl' (zB (sL [1,2,3,4,14] O) (zA ?_)))))))))
 refine zK O (λhc0=>?_) (λhc0=>?_)
 ·replace hc0:=xR hc0
  refine zI (q1 (zN (rC [(0,true),(1,true),(2,true),(3,true),(4,true),(5,true),(6,true),(7,true),(8,true),(9,true),(10,true),(11,true),(12,true),(13,true),(14,true),(15,true),(16,true),(17,true),(18,true),(19,true),(20,true),(21,false),(22,false),(23,true)] 24 [] (sl sr) (sk (sl sr)) jV (λ_ _ d _ _ h=>by cases d<;>exact h) (vE (v:=(pP b3 2)) O (AA O underlying42 O sizeOf40 O) O (vE O (AP (i:=1) (v:=(qz p2 ss.length c2)) O O fL.a O) O (vE (v:=(pP b1 2)) O (AA O underlying26 O sizeOf24 O) O (vE O (AP (i:=4) (v:=(qz r.c.p r.ss.length r.c.c)) O O Tv.a O) O (vM O O O (vE (v:=(pP (pB r.c.p) (pO r.c.p+i*3))) O (AU (j:=i) O O r.c.ok underlying24 sizeOf96 O Z) O (vE (v:=(pP (pB r.c.p) (pO r.c.p+(i*3+0)))) O (AA O underlying96 O sizeOf3 (Nat.add_assoc _ _ _)) O (vE O (Aj (v:=(vI ((r.ss.getD i ((0,0,0):Z3)).1))) (i:=7) O O (BI.ne r.c.ok Z) Dr (EU Cy ((0,0,0):Z3) _ _ 0 Z jY O)) O ?_)))))))))))
  refine vE (v:=(pP b1 2)) O (AA O underlying26 O sizeOf24 O) O (vE O (AP (i:=4) (v:=(qz r.c.p r.ss.length r.c.c)) O O Tv.a O) O (vM O O O (vE (v:=(pP (pB r.c.p) (pO r.c.p+i*3))) O (AU (j:=i) O O r.c.ok underlying24 sizeOf96 O Z) O (vE (v:=(pP (pB r.c.p) (pO r.c.p+(i*3+1)))) O (AA O underlying96 O sizeOf3 (Nat.add_assoc _ _ _)) O (vE O (Aj (v:=(vI ((r.ss.getD i ((0,0,0):Z3)).2.1))) (i:=7) O O (BI.ne r.c.ok Z) Dr (EU Cy ((0,0,0):Z3) _ _ 1 Z jY O)) O (vE (v:=(pP b1 2)) O (AA O underlying26 O sizeOf24 O) O (vE O (AP (i:=4) (v:=(qz r.c.p r.ss.length r.c.c)) O O Tv.a O) O (vM O O O (vE (v:=(pP (pB r.c.p) (pO r.c.p+i*3))) O (AU (j:=i) O O r.c.ok underlying24 sizeOf96 O Z) O (vE (v:=(pP (pB r.c.p) (pO r.c.p+(i*3+2)))) O (AA O underlying96 O sizeOf3 (Nat.add_assoc _ _ _)) O (vE O (Aj (v:=(vI ((r.ss.getD i ((0,0,0):Z3)).2.2))) (i:=7) O O (BI.ne r.c.ok Z) Dr (EU Cy ((0,0,0):Z3) _ _ 2 Z jY O)) O ?_)))))))))))
  refine vE (v:=(aG ([(vI ((r.ss.getD i ((0,0,0):Z3)).1)),(vI ((r.ss.getD i ((0,0,0):Z3)).2.1)),(vI ((r.ss.getD i ((0,0,0):Z3)).2.2))]))) O (AR (zs:=BB ((0,0,0):Z3)) (vs:=[(vI ((r.ss.getD i ((0,0,0):Z3)).1)),(vI ((r.ss.getD i ((0,0,0):Z3)).2.1)),(vI ((r.ss.getD i ((0,0,0):Z3)).2.2))]) (pv:=[(0,(vI ((r.ss.getD i ((0,0,0):Z3)).1))),(1,(vI ((r.ss.getD i ((0,0,0):Z3)).2.1))),(2,(vI ((r.ss.getD i ((0,0,0):Z3)).2.2)))]) (places:=[(0,1),(1,1),(2,1)]) zeroValue97 underlying97 (λw=>by simp [sizeOf3]) O O) O (yV O (zf (V:=λb4=>(qz (jk b4) 1 1)) (T:=97) (cs:=BB ((((r.ss.getD i ((0,0,0):Z3)).1),((r.ss.getD i ((0,0,0):Z3)).2.1),((r.ss.getD i ((0,0,0):Z3)).2.2)):Z3)) (AJ O) (Ar (z:=.agg (BB ((0,0,0):Z3)).toArray) (cs:=BB ((((r.ss.getD i ((0,0,0):Z3)).1),((r.ss.getD i ((0,0,0):Z3)).2.1),((r.ss.getD i ((0,0,0):Z3)).2.2)):Z3)) (pv:=[(0,(aG ([(vI ((r.ss.getD i ((0,0,0):Z3)).1)),(vI ((r.ss.getD i ((0,0,0):Z3)).2.1)),(vI ((r.ss.getD i ((0,0,0):Z3)).2.2))])))]) underlying40 sizeOf97 zeroValue97 jY jY O (Lr ((((r.ss.getD i ((0,0,0):Z3)).1),((r.ss.getD i ((0,0,0):Z3)).2.1),((r.ss.getD i ((0,0,0):Z3)).2.2)):Z3))) O (leB O) λb4=>yN (sl (sl sr)) (yV O (z8 (j:=0) (cs2:=rowsL BB (ss++[((((r.ss.getD i ((0,0,0):Z3)).1),((r.ss.getD i ((0,0,0):Z3)).2.1),((r.ss.getD i ((0,0,0):Z3)).2.2)):Z3)])) dS O h2 (AV Cy _) O O O O jY (G8 Z) Z (by rw [BM];rfl) O λp_1 c_1 ho_1 hne_1=>yN (sl (sl sr)) (vE (v:=(pP b3 2)) O (AA O underlying42 O sizeOf40 O) O (yp O (EV 3 (off:=2) (vs:=[(qz p_1 (ss.length+1) c_1)]) (cs':=[jj,(qz ptb r.ts.length ctb),(qz p_1 (ss.length+1) c_1)]) (AJ O) O sizeOf40 O (zC (sl (sl (sk (sl sr)))) (zP ?_)))))))))
  refine zB (sL [1,2,3,4] O) (zM (zA (zL (AL O (st' (Ad (c:=((i+1:Nat):Int)) O O (Ab (a:=i) (b:=1) Z)) O (asg' O (oNl' (zB (sL [1,2,3,4] O) ?_))))))))
  rw [show ss.length+1=(ss++[((((r.ss.getD i ((0,0,0):Z3)).1),((r.ss.getD i ((0,0,0):Z3)).2.1),((r.ss.getD i ((0,0,0):Z3)).2.2)):Z3)]).length by simp]
  exact yA (i+1) p_1 c_1 (ss++[((((r.ss.getD i ((0,0,0):Z3)).1),((r.ss.getD i ((0,0,0):Z3)).2.1),((r.ss.getD i ((0,0,0):Z3)).2.2)):Z3)]) (⟨Z,(by simpa using ho_1),by rw [hss,Fe (d:=(0,0,0)) Z]⟩) Z (sF O) (sl sr)
 ·replace hc0:=xQ hc0
  have hsf:ss=r.ss:=by rw [hss,show i=r.ss.length by omega,List.take_length]
  refine zW (zO (yH (zR (q1 (q4 (asg' O (oNl' (zA (zN ?_)))))))))
  refine yn (tg λ(i:Nat) (p1:Option Addr) (c1:Nat) (rs:List RP)=>i<=r.ds.length/\OwnOk p1 rs.length c1/\rs.map (·.p)=r.ps.take i/\∀y∈DE rs,∀b,y.foot=some b->Nw ⟨w,none⟩ S b) (tg λ(i:Nat) (p1:Option Addr) (c1:Nat) (rs:List RP)=>[(1,(pP b1 0)),(2,(pP b2 0)),(3,(pP b3 0)),(5,(vN i))]) (tg λ(i:Nat) (p1:Option Addr) (c1:Nat) (rs:List RP)=>(rowW p2 97 3 ss.length c2 (rowsL BB ss)::rowW p1 86 6 rs.length c1 (rowsL Dp rs)::AQ b3 42 ([(qz p1 rs.length c1),(qz ptb r.ts.length ctb),(qz p2 ss.length c2)])::rowW ptb 64 3 r.ts.length ctb (rowsL BB r.ts)::AQ b2 42 ([jj,jj,jj])::AQ b1 26 (Iy r)::AI r.a.p (rowsL Cn r.ds)::AI r.b.p (rowsL BB r.ts)::AI r.c.p (rowsL BB r.ss)::DE rs)) (tg λ(i:Nat) (p1:Option Addr) (c1:Nat) (rs:List RP)=>r.ds.length-i) 0 none 0 ([]:List RP) (⟨xH _,OwnOk.none,rfl,(λy hy=>by cases hy)⟩) (sF O) sr (λi p1 c1 rs hJ=>?_)
  obtain ⟨hi,h1,hps,hat⟩:=hJ
  have hpl:rs.length<=24:=by rw [<-xI (f:=(·.p)),hps,List.length_take];omega
  refine zV (q4 (AL O (st' (v:=(pP b1 0)) (AA O underlying26 O sizeOf22 O) O (BZ 5 (qz r.a.p r.ds.length r.a.c) PV O (st' (v:=(vN r.ds.length)) (AD O underlying22) O (st' (Ag (c:=(decide (i<r.ds.length))) O O (DL (a:=i) (b:=r.ds.length))) O (oNl' (zB (sL [1,2,3,5,45] O) (zA ?_)))))))))
  refine zK O (λhc1=>?_) (λhc1=>?_)
  ·replace hc1:=xR hc1
   refine zI (q1 (zN (rC [(0,true),(1,true),(2,true),(3,true),(4,true),(5,true),(6,true),(7,false),(8,false),(9,false),(10,true)] 11 [] (sk (sl sr)) (sk (sl sr)) jV (λ_ _ d _ _ h=>by cases d<;>exact h) (vE (v:=(pP b3 0)) O (AA O underlying42 O sizeOf39 O) O (vE O (AP (i:=1) (v:=(qz p1 rs.length c1)) O O Tw.a O) O (vE (v:=(pP b1 0)) O (AA O underlying26 O sizeOf22 O) O (vE O (AP (i:=4) (v:=(qz r.a.p r.ds.length r.a.c)) O O PV.a O) O (vM O O O (vE (v:=(pP (pB r.a.p) (pO r.a.p+i*4))) O (AU (j:=i) O O r.a.ok underlying22 sizeOf31 O Z) O (vE (v:=(aG (Cn (r.ds.getD i FZ)))) O (Af (vs:=Cn (r.ds.getD i FZ)) (i:=5) O O (BI.ne r.a.ok Z) IH (BG Gg _ _ _ Z) (Gg _)) O (yV O ?_)))))))))))
   refine cP (S:=S) (x:=(Gh (r.ds.getD i FZ))) (args:=[(aG (Cn (r.ds.getD i FZ)))]) call22 (λw hw=>IR (r.ds.getD i FZ) (r.ok Z) w) O O O λg1 lg1=>yN (sl (sl (sl (sl (sk (sl sr)))))) (yV O (zf (V:=λb4=>(qz (jk b4) 1 1)) (T:=86) (cs:=AZ g1) (AJ O) (Ar (z:=.agg #[(qa false),jj,jj,(qa false),jj,jj]) (cs:=AZ g1) (pv:=[(0,(aG (AZ g1)))]) underlying39 sizeOf86 zeroValue86 jY jY O (Kv g1)) O (leB O) λb4=>yN (sl (sl (sl (sl (sl (sk (sl sr))))))) (yV O (yF 6 (j:=0) (cs2:=rowsL Dp (rs++[(⟨_,g1⟩:RP)])) fK O h1 (AV Bl _) O O O O O jY (G8 Z) Z (by rw [BM];rfl) O λp_2 c_2 ho_2 hne_2=>yN (sl (sl (sl (sl (sl (sk (sl sr))))))) (vE (v:=(pP b3 0)) O (AA O underlying42 O sizeOf39 O) O (yp O (EV 7 (off:=0) (vs:=[(qz p_2 (rs.length+1) c_2)]) (cs':=[(qz p_2 (rs.length+1) c_2),(qz ptb r.ts.length ctb),(qz p2 ss.length c2)]) (AJ O) O sizeOf39 O (zC (sl (sl (sl (sl (sl (sk (sl (sl sr)))))))) ?_))))))))
   refine zP (zB (sL [1,2,3,5] O) (zM (zA (zL (AL O (yT (sl sr) (yQ (show List.Perm _ (rowW p2 97 3 ss.length c2 (rowsL BB ss)::rowW p_2 86 6 (rs.length+1) c_2 (rowsL Dp (rs++[(⟨_,g1⟩:RP)]))::AQ b3 42 ([(qz p_2 (rs.length+1) c_2),(qz ptb r.ts.length ctb),(qz p2 ss.length c2)])::rowW ptb 64 3 r.ts.length ctb (rowsL BB r.ts)::AQ b2 42 ([jj,jj,jj])::AQ b1 26 (Iy r)::AI r.a.p (rowsL Cn r.ds)::AI r.b.p (rowsL BB r.ts)::AI r.c.p (rowsL BB r.ss)::DE (rs++[(⟨_,g1⟩:RP)])) from ae (⟨_,g1⟩:RP) [rowW p2 97 3 ss.length c2 (rowsL BB ss),rowW p_2 86 6 (rs.length+1) c_2 (rowsL Dp (rs++[(⟨_,g1⟩:RP)])),AQ b3 42 ([(qz p_2 (rs.length+1) c_2),(qz ptb r.ts.length ctb),(qz p2 ss.length c2)]),rowW ptb 64 3 r.ts.length ctb (rowsL BB r.ts),AQ b2 42 ([jj,jj,jj]),AQ b1 26 (Iy r),AI r.a.p (rowsL Cn r.ds),AI r.b.p (rowsL BB r.ts),AI r.c.p (rowsL BB r.ss)] rs) (st' (Ad (c:=((i+1:Nat):Int)) O O (Ab (a:=i) (b:=1) Z)) O (asg' O (oNl' (zB (sL [1,2,3,5] O) ?_)))))))))))
   rw [show rs.length+1=(rs++[(⟨_,g1⟩:RP)]).length by simp]
   exact yA (i+1) p_2 c_2 (rs++[(⟨_,g1⟩:RP)]) (⟨Z,(by simpa using ho_2),by rw [List.map_append,hps,PB r Z];rfl,At.snoc hat lg1⟩) Z (sF O) sr
  ·replace hc1:=xQ hc1
   exact zW (zO (yH (zR (q2 (Ah 2 EW O (EV 4 (off:=0) (vs:=[(qz p1 rs.length c1),(qz ptb r.ts.length ctb),(qz p2 ss.length c2)]) (cs':=[(qz p1 rs.length c1),(qz ptb r.ts.length ctb),(qz p2 ss.length c2)]) (AJ O) O sizeOf42 O (oNl' (zB (sL [1,2,3,5] O) (zA (zF (ret_one O (Aa (i:=4) (cs:=[(qz p1 rs.length c1),(qz ptb r.ts.length ctb),(qz p2 ss.length c2)]) O O isAgg42 sizeOf42 O) (λw hw=>(by rw [<-hsf];exact ar (A:=[rowW p2 97 3 ss.length c2 (rowsL BB ss),rowW p1 86 6 rs.length c1 (rowsL Dp rs),AQ b3 42 ([(qz p1 rs.length c1),(qz ptb r.ts.length ctb),(qz p2 ss.length c2)]),rowW ptb 64 3 r.ts.length ctb (rowsL BB r.ts),AQ b2 42 ([(qz p1 rs.length c1),(qz ptb r.ts.length ctb),(qz p2 ss.length c2)]),AQ b1 26 (Iy r),AI r.a.p (rowsL Cn r.ds),AI r.b.p (rowsL BB r.ts),AI r.c.p (rowsL BB r.ss)]) hw 1 3 0 O O O h1 otb h2 O O O (by rw [hps,show i=r.ds.length by omega,<-r.pl,List.take_length]) hat O)))))))))))))
end
section
set_option maxRecDepth 100000
theorem an (r:RW) (i:Nat):BD (BJ r.ps i)<=4:=by
 show BD (r.ps.getD i ⟨0,0⟩)<=4
 rcases Nat.lt_or_ge i r.ps.length with h|h
 ·exact r.sz i h
 ·rw [List.getD,List.getElem?_eq_none h];decide +kernel
set_option maxHeartbeats 4000000 in
theorem MC (r:RW) (l0 l1 l2:PD) (k0:l0.ok) (k1:l1.ok) (k2:l2.ok) (w:World) {S:Nat->Prop} (hr:Ro S w r) (hT:ON w):Calls prog 3 #[(aG (Iy r)),(aG (Cn l0++Cn l1++Cn l2))] w (G9 w (qa true)):=by
 have hT:=Jc hT
 have lr:=Bs (W:=z0 w) hr
 refine H6 (args:=[(aG (Iy r)),(aG (Cn l0++Cn l1++Cn l2))]) (L:=[AI r.a.p (rowsL Cn r.ds),AI r.b.p (rowsL BB r.ts),AI r.c.p (rowsL BB r.ss)]) func3 O O (leB O) (GN hr Al) (zG (sL [0,1] O) (q4 (A9 (cs:=Iy r) O λb1=>A9 (cs:=Cn l0++Cn l1++Cn l2) O λb2=>asg' O (q6 (sL [2,3,4] O) (q4 (Ah 1 a_ O (CC call5 (λw hw=>UL r w (inS hw 2 O lr)) O (oNl' (zB (sL [2,3,4,6] O) ?_)))))))))
 refine zA ?_
 refine zK O (λhc0=>?_) (λhc0=>?_)
 ·exact q4 (ck' call6 (K4) O (asg' O (oNl' (zB (sL [2,3,4] O) (zA (zF (zH (ret_one O (rd_tmp (v:=(qa true)) O) (λw hw=>⟨rfl,hw.outB⟩)))))))))
 ·have hgr:JH r=false:=hc0
  obtain ⟨hr1,hr2,hr3⟩:=VH (r:=r) hgr
  refine zI (q1 (B8 [(0,true),(2,true),(4,true),(5,true),(6,true),(7,true),(8,true),(9,true),(1,false),(3,false),(10,false),(11,true),(12,false),(13,true),(14,true)] sr (Bv 1 a_ O (Bv 1 a_ O (Ao (v:=(pP b2 0)) O (AC (j:=0) O O underlying32 sizeOf31 O jY O) (Dd 0 (Cn l0) IH O (Ao (v:=(pP b2 4)) O (AC (j:=1) O O underlying32 sizeOf31 O jY O) (Dd 0 (Cn l1) IH O (Ao (v:=(pP b2 8)) O (AC (j:=2) O O underlying32 sizeOf31 O jY O) (Dd 0 (Cn l2) IH O (zD O ?_)))))))))))
  refine zu (S:=S) (α:=MZ r.ps r.ts r.ss) (args:=[(aG (Iy r))]) call8 (λw hw=>UR r hr1 hr2 hr3 w (inS hw 2 O lr)) O O O λm lm=>zC (sl (sl (sl sr))) (zD O (zu (S:=S) (α:=Ji r.ps r.ts r.ss) (args:=[(aG (Iy r))]) call9 (λw hw=>XJ r hr1 hr2 hr3 w (inS hw 5 O lr)) O O O λo lo=>yQ (L2:=(AI o.a.p (rowsL Dp o.rs)::AI o.b.p (rowsL BB r.ts)::AI o.c.p (rowsL BB r.ss)::AI m.a.p (rowsL Ae r.ps)::AI m.b.p (rowsL BB r.ts)::AI m.c.p (rowsL BB r.ss)::AQ b2 32 (Cn l0++Cn l1++Cn l2)::AQ b1 26 (Iy r)::AI r.a.p (rowsL Cn r.ds)::AI r.b.p (rowsL BB r.ts)::AI r.c.p (rowsL BB r.ss)::DE o.rs)) (show List.Perm _ (AI o.a.p (rowsL Dp o.rs)::AI o.b.p (rowsL BB r.ts)::AI o.c.p (rowsL BB r.ss)::AI m.a.p (rowsL Ae r.ps)::AI m.b.p (rowsL BB r.ts)::AI m.c.p (rowsL BB r.ss)::AQ b2 32 (Cn l0++Cn l1++Cn l2)::AQ b1 26 (Iy r)::AI r.a.p (rowsL Cn r.ds)::AI r.b.p (rowsL BB r.ts)::AI r.c.p (rowsL BB r.ss)::DE o.rs) from V2 [AI o.a.p (rowsL Dp o.rs),AI o.b.p (rowsL BB r.ts),AI o.c.p (rowsL BB r.ss)] (DE o.rs) [AI m.a.p (rowsL Ae r.ps),AI m.b.p (rowsL BB r.ts),AI m.c.p (rowsL BB r.ss),AQ b2 32 (Cn l0++Cn l1++Cn l2),AQ b1 26 (Iy r),AI r.a.p (rowsL Cn r.ds),AI r.b.p (rowsL BB r.ts),AI r.c.p (rowsL BB r.ss)]) (zC (sl (sl (sl (sl (sl (sl (sk (sk (sk (sk (sk (List.nil_sublist _)))))))))))) (zD O (Ob O call7 (λw hw=>Tz m o l0 l1 l2 k0 k1 k2 Z (by rw [r.pl];omega) (an r) w (inS hw 3 O lm) (Mt (x:=o) hw 0 O 11 (λz hz=>hz) lo) (hT.below hw.out)) O (zC (sl (sl (sl (sl (sl (sl (sk (sk (sk (sk (sk (List.nil_sublist _)))))))))))) (Bq O (zD O (zc (v:=(qa true)) (AE O) (Ac (args:=[]) O O call6) (λw hw=>K4 w) O (leB O) ?_)))))))))
  exact zC (sl (sl (sl (sl (sl (sl (sk (sk (sk (sk (sk (List.nil_sublist _)))))))))))) (Ao (v:=(qa true)) O (ex_pick_true O O) (pS' O (zP (zB (sL [2,4] O) (zA (zF (ret_one O (rd_tmp (v:=(qa true)) O) (λw hw=>⟨rfl,hw.outB⟩))))))))
end
section
open Go Go.RowKit Go.ChangeShapes Go.WideShapes Go.ChangeAt
theorem YA:laidOutB Tryz.prog=true:=by kernel_rfl
theorem Vv:ownKnob Tryz.prog.godebug=none:=by kernel_rfl
theorem H1 {H:Type} {enc:TypeId×Value->H} {P:Program} (hl:laidOutB P=true) {W W':World} {sp:Nat->Bool} (hb:Below W.heap.size W W') :
    ∀{ts:List TypeId} {vs:List Value} {ds:List (DataW H)} {ps:List MemPlace},(∀t∈ts,P.readableRec t=true/\t<P.types.size)->DataW.TrodAll enc P W 0 (λ_=>true) true ts vs ds ps ->
      (∀p∈ps,p.block<W.heap.size)->(∀p∈ps,sp p.block=true)->DataW.TrodAll enc P W' 0 sp true ts vs ds ps
  | [],_,_,_,_,h,_,_=>by
    obtain ⟨rfl,rfl,rfl⟩:=trodAll_nil h
    exact trodAll_mk0
  | t::ts,_,_,_,hr,h,hlt,hs=>by
    obtain ⟨v,vs1,d,ds1,a,b,rfl,rfl,rfl,h1,h2⟩:=trodAll_cons h
    exact ⟨a,b,WideElems.Trod_stays hl (hr t jX).1 (hr t jX).2 h1 (λx hx=>hb.same (hlt x (by simp [hx]))) (λx hx=>hs x (by simp [hx])),
      H1 hl hb (λu hu=>hr u (by simp [hu])) h2 (λp hp=>hlt p (by simp [hp])) (λp hp=>hs p (by simp [hp])),rfl⟩
theorem VW {H:Type} {enc:TypeId×Value->H} {P:Program} {f:Func} {s:ChangeSpec} {apart fresh handsOn again:Bool} {W W':World} {args:Array Value} {ds:List (DataW H)} {CV:List MemPlace} {tb:TypeId}
    (hW:DataW.Whole enc P f.params.toList s.vars apart W args.toList ds [] CV) (hv:s.vars=[]) (hfn:s.fn H ds=({ results:=[.lit (.bool true)],args:=ds }:Left H))
    (hrt:f.resultTypes=#[tb]) (hu:P.underlying tb=some .bool) (hb:Below W.heap.size W W') (hl:laidOutB P=true) (hr:∀t∈f.params.toList,P.readableRec t=true/\t<P.types.size) :
    s.post enc P f apart fresh handsOn again W args (.bool true) W':=by
  have hlt:∀p∈CV,p.block<W.heap.size:=λp hp=>hW.lt p hp
  have hW2:=hW
  obtain ⟨pa,q,hA,hV,he,hz,hn⟩:=hW2
  rw [hv] at hV
  obtain ⟨_,rfl⟩:=trodVars_none hV
  simp only [List.append_nil] at he
  subst he
  have hres:∀(b:Nat) (sp:Nat->Bool) (hd:Bool),DataW.TrodAll enc P W' b sp hd f.resultTypes.toList ((qa true).resultList f.resultTypes.size) (s.fn H (ds++[])).results []:=λb sp hd=>by
    rw [hrt,List.append_nil,hfn]
    exact trodAll_mk1 (shut_bool hu _)
  have hargs:∀sp:Nat->Bool,(∀p∈CV,sp p.block=true)->DataW.TrodAll enc P W' 0 sp true f.params.toList args.toList (s.fn H (ds++[])).args CV:=λsp hs=>by
    rw [List.append_nil,hfn]
    exact H1 hl hb hr hA hlt hs
  have hvars:∀sp:Nat->Bool,DataW.TrodVars enc P W' sp s.vars (s.fn H (ds++[])).vars []:=λsp=>by
    rw [List.append_nil,hfn,hv];rfl
  have hold:∀p∈CV,(λb=>decide (b<W.heap.size)) p.block=true:=λp hp=>by simpa using hlt p hp
  refine ⟨ds,[],CV,[],CV,[],hW,hres _ _ _,hargs _ hold,hvars _,World.keptBut_mono (λp hp=>⟨hp,Or.inr (by simpa using hp)⟩) (hb.frame (·∈CV)),λ_=>⟨?_,_,_,([]++CV)++[],⟨[]++CV,[],trodAll_append (hargs _ (λ_ _=>rfl)) (hres _ _ _),hvars _,rfl,?_,?_⟩,?_⟩⟩
  · exact ok_one hrt O (okWide_bool_mk hu _)
  · intro b off hp
    have hp':MemPlace.cell b off∈CV:=by simpa using hp
    rw [hb.frozen (hlt _ hp')]
    exact hz b off hp'
  · intro ha
    have:=hn ha
    simpa using this
  · intro p hp _
    simpa using hp
end
section
open Go Go.RowKit Go.WideShapes
section
variable {P:Program} {w:World} {r:Reach} {base:Nat}
theorem QB {u e:TypeId} {v:Value} (hu:P.underlying u=some (.slice e)) (h:Cell.okWide P w r base u v) :
    v=.slice none 0 0\/∃a len cap,v=.slice (some a) len cap/\len<=cap/\a.spot=none/\∃cur T fr,w.heap[a.block]?=some (.cells cur T fr):=by
  simp only [Cell.okWide,hu] at h
  unfold Cell.ok at h
  rw [hu] at h
  cases v with
  | slice p len cap =>
    cases p with
    | none =>
      left
      split at h<;>simp_all
    | some a =>
      right
      have h':len<=cap/\(cap:Int)<=IntKind.i64.max/\w.has P r base a e cap:=h
      obtain ⟨h1,_,_,h2,row,cells,h3,_⟩:=h'
      refine ⟨a,len,cap,rfl,h1,h2,?_⟩
      unfold World.shape? at h3
      split at h3
      · rename_i cur T fr e;exact ⟨cur,T,fr,e⟩
      · cases h3
  | _=>simp at h
end
end
end Go.Proofs.YtcpkbjjmcleplaaGreatDoor
