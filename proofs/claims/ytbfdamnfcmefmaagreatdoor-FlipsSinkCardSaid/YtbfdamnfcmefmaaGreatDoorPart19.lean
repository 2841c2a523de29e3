import Derived.Test.YtbfdamnfcmefmaaGreatDoorPart17
import Derived.Test.YtbfdamnfcmefmaaGreatDoorPart18
namespace Go.Proofs.YtbfdamnfcmefmaaGreatDoor
open Go Go.RowKit Go.Proofs.Tryz
open Go.Value renaming slice→qz,bool→qa
set_option linter.unusedVariables false
set_option linter.unusedSimpArgs false
section
set_option maxRecDepth 100000
theorem Wh:ElemT prog 152 72 2 16:=⟨underlying152,FC jV⟩
theorem am:ElemT prog 28 71 3 24:=⟨underlying28,FC jV⟩
theorem ao:ElemT prog 85 90 2 16:=⟨underlying85,FC jV⟩
theorem VD (t:Tq3) (x:Nat) (w:World)  :Calls prog 42 #[(aG (Ad t)),(vN x)] w (Ag w (qa (Gh t x))):=by
 refine AW (args:=[(aG (Ad t)),(vN x)]) func42 O O (BE O) (zM (sL [0,1] O) (q4 (BZ (cs:=Ad t) O λb1=>asg' O (q3 (sL [1,2,4] O) (AC (v:=(pP b1 0)) (AB (j:=0) O O underlying71 sizeOf3 O jY O) O (BA 0 (vN t.1) BP O (AM O (AC (BM (c:=(decide (t.1=x))) O O (Mz (a:=t.1) (b:=x))) O (AM O ?_)))))))))
 refine zi (FM:=[(1,(vN x)),(2,(pP b1 0)),(4,(qa false)),(5,(pP b1 0)),(6,(vN t.1)),(7,(vN x)),(8,(qa (decide (t.1=x)))),(9,(qa (decide (t.1=x)))),(14,(qa ((decide (t.1=x))||(decide (t.2.1=x)))))]) (LM:=[AX b1 71 (Ad t)]) 5 ?_ ?_
 ·rcases xR (decide (t.1=x)) with hg1|hg1
  ·refine zK (k:=9) (u:=qa true) O (by rw [hg1]) ?_
   have hg1':=xU hg1
   exact BD O (BD O (BD O (BD O (AC (v:=(qa true)) (AQ O O) O (oNl' (zT Cc (xS _)))))))
  ·refine zK (k:=9) (u:=qa false) O (by rw [hg1]) ?_
   have hg1':=xT hg1
   exact Av (v:=(pP b1 1)) O (AB (j:=1) O O underlying71 sizeOf3 O jY O) (Av (v:=(vN t.2.1)) O (AD (i:=0) (v:=(vN t.2.1)) O O BP.a O) (F0 O (Av (v:=(qa (decide (t.2.1=x)))) O (BM (c:=(decide (t.2.1=x))) O O (Mz (a:=t.2.1) (b:=x))) (AC (v:=(qa (decide (t.2.1=x)))) (AL O O) O (oNl' (zT Cc (xS _)))))))
 refine AM O ?_
 refine zi (FM:=[(1,(vN x)),(2,(pP b1 0)),(4,(qa false)),(5,(pP b1 0)),(6,(vN t.1)),(7,(vN x)),(8,(qa (decide (t.1=x)))),(9,(qa (decide (t.1=x)))),(14,(qa ((decide (t.1=x))||(decide (t.2.1=x))))),(15,(qa ((decide (t.1=x))||(decide (t.2.1=x))))),(20,(qa (((decide (t.1=x))||(decide (t.2.1=x)))||(decide (t.2.2=x)))))]) (LM:=[AX b1 71 (Ad t)]) 5 ?_ ?_
 ·rcases xR ((decide (t.1=x))||(decide (t.2.1=x))) with hg2|hg2
  ·refine zK (k:=15) (u:=qa true) O (by rw [hg2]) ?_
   have hg2':=hg2
   simp only [jK] at hg2'
   exact BD O (BD O (BD O (BD O (AC (v:=(qa true)) (AQ O O) O (oNl' (zT Hl (xS _)))))))
  ·refine zK (k:=15) (u:=qa false) O (by rw [hg2]) ?_
   have hg2':=hg2
   simp only [jK] at hg2'
   exact Av (v:=(pP b1 2)) O (AB (j:=2) O O underlying71 sizeOf3 O jY O) (Av (v:=(vN t.2.2)) O (AD (i:=0) (v:=(vN t.2.2)) O O BP.a O) (F0 O (Av (v:=(qa (decide (t.2.2=x)))) O (BM (c:=(decide (t.2.2=x))) O O (Mz (a:=t.2.2) (b:=x))) (AC (v:=(qa (decide (t.2.2=x)))) (AL O O) O (oNl' (zT Hl (xS _)))))))
 exact asg' O (oNl' (zB (sL [4] O) (zA (zH (ret_one O (rd_tmp (v:=(qa (((decide (t.1=x))||(decide (t.2.1=x)))||(decide (t.2.2=x))))) O) (λw hw=>⟨by first|rfl|simp [Gh,Bool.or_assoc],hw.out⟩))))))
theorem FO (x0:P2):Instr.fill (λi=>some (i*2,2)) ((Array.range (1*2)).map ((Value.agg (Ay ((0,0):P2)).toArray).cells[·%(Value.agg (Ay ((0,0):P2)).toArray).cells.size]!)) [(0,.agg (Ay x0).toArray)]=some (Ay x0).toArray:=by kernel_rfl
theorem FP (x0:Int×Int):Instr.fill (λi=>some (i*2,2)) ((Array.range (1*2)).map ((Value.agg (CZ ((0,0):Int×Int)).toArray).cells[·%(Value.agg (CZ ((0,0):Int×Int)).toArray).cells.size]!)) [(0,.agg (CZ x0).toArray)]=some (CZ x0).toArray:=by kernel_rfl
theorem HD (x0:Tq3):Instr.fill (λi=>some (i*3,3)) ((Array.range (1*3)).map ((Value.agg (Ad jJ).toArray).cells[·%(Value.agg (Ad jJ).toArray).cells.size]!)) [(0,.agg (Ad x0).toArray)]=some (Ad x0).toArray:=by kernel_rfl
theorem L0 (x0 x1 x2:Nat):Instr.fill (λi=>some (i*1,1)) (Ad jJ).toArray [(0,vN x0),(1,vN x1),(2,vN x2)]=some (Ad (x0,x1,x2)).toArray:=by kernel_rfl
set_option maxHeartbeats 2000000 in
theorem Qc (m:MQ) (w:World) {S:Nat->Prop} (hm:Ro S w m):Calls prog 29 #[(aG (Ef m))] w (BS (Zh m) (λ_=>False) w):=by
 have hf:=m.hfst
 have hf3:m.fst/3<=85:=by omega
 have lm:=Db (W:=w) hm
 refine Ak (args:=[(aG (Ef m))]) (L:=[AP m.p (Ct m.cs)]) func29 O O (BE O) (De hm A_) (zM (sL [0] O) (q4 (BZ (cs:=Ef m) O λb1=>al aq O λb2=>q3 (sL [1,2] O) (al aq O λb3=>zy 90 2 (zy 71 3 (zy 71 3 (oNl' (q2 ?_))))))))
 refine asg' O (zy 72 2 (oNl' (q2 (Ai 6 OR O (cX (S:=S) (cs:=rowsL A9 (A6 m)) (k:=(A6 m).length) (args:=[(aG (Ef m))]) call81 (λw hw=>Sv m w (Cd hw 7 O lm)) O O O λgc lgc=>asg' O (q6 (sL [1,2,3,4,5] O) (q4 (asg' O (oNl' (zA ?_))))))))))
 refine zI ?_
 refine OkC.lp5 (tg λ(i:Nat) (s:WS) (p3:Option Addr) (c3:Nat) (ts:List (Tq3))=>i<=(A6 m).length/\WS.Ok s/\OwnOk p3 ts.length c3/\NW m i (WS.pl s) ts) (tg λ(i:Nat) (s:WS) (p3:Option Addr) (c3:Nat) (ts:List (Tq3))=>[(1,(pP b1 0)),(2,(pP b2 0)),(3,(pP b3 0)),(5,(qz gc.p ((A6 m).length) gc.c)),(6,(vN i)),(4,(qz s.p1 s.pl.length s.c1))]) (tg λ(i:Nat) (s:WS) (p3:Option Addr) (c3:Nat) (ts:List (Tq3))=>[AP gc.p (rowsL A9 (A6 m)),rowW s.p1 72 2 s.pl.length s.c1 (rowsL Ay s.pl),rowW none 71 3 0 0 (rowsL Ad ([])),rowW p3 71 3 ts.length c3 (rowsL Ad ts),rowW s.p2 90 2 s.pl.length s.c2 (rowsL CZ (s.pts m)),AX b3 87 ([(qz s.p2 s.pl.length s.c2),(qz p3 ts.length c3),jj]),AX b2 87 ([jj,jj,jj]),AX b1 26 (Ef m),AP m.p (Ct m.cs)]) (tg λ(i:Nat) (s:WS) (p3:Option Addr) (c3:Nat) (ts:List (Tq3))=>(A6 m).length-i) 0 (WS.mk [] none 0 none 0) none 0 ([]:List (Tq3)) (⟨xK _,⟨OwnOk.none,OwnOk.none,(λp hp=>by cases hp),Xk⟩,OwnOk.none,cZ m⟩) (sF O) sr (λi s p3 c3 ts hJ=>?_)
 obtain ⟨hi,hs,h3,hv⟩:=hJ
 have hpl:=hv.pll
 have htl:=hv.tl
 have hcl:=Hx m
 refine zY (q4 (AM O (AM O (AC (v:=(vN ((A6 m).length))) (AE O underlying153) O (AC (Aa (c:=(decide (i<((A6 m).length)))) O O (DF (a:=i) (b:=(A6 m).length))) O (oNl' (zB (sL [1,2,3,5,6,4,21] O) (zA ?_))))))))
 refine zL O (λhc0=>?_) (λhc0=>?_)
 ·replace hc0:=xU hc0
  refine zC (q1 (zI (q4 (al Hk O λb4=>oNl' (q1 (q4 (asg' O (oNl' (zA (zI ?_))))))))))
  refine yC 4 (zZ (zY (q4 (AM O (AC (Aa (c:=true) O O jY) O (oNl' (zB (sL [1,2,3,5,6,4,7,8,25] O) (zA (zV O (zC (q1 ?_)))))))))))
  refine zI (zY (C_ (Ek 18++[(18,false),(19,false)]) sr (Bx O (Bx O (Bx O (Aj (v:=(pP b1 8)) O (AA O underlying26 O sizeOf5 O) (BK 8 (vK .u8 m.fst) Wl O (Aj O (Ar (c:=((m.fst:Nat):Int)) O underlying5 underlying3 (CC Z)) (Aj O (AR (c:=((0+m.fst:Nat):Int)) O O (AS (a:=0) (b:=m.fst) Z)) (Bx O (Aj (v:=(pP b1 8)) O (AA O underlying26 O sizeOf5 O) ?_)))))))))))
  refine BK 8 (vK .u8 m.fst) Wl O (Aj O (Gu (c:=((m.fst/3:Nat):Int)) O O Z (OL (a:=m.fst) (b:=3) Z)) (Aj O (Ar (c:=((m.fst/3:Nat):Int)) O underlying5 underlying3 (CC Z)) ?_))
  have hmul:i*(m.fst/3)<=36*85:=Nat.mul_le_mul Z hf3
  refine Aj O (Bv (c:=((i*(m.fst/3):Nat):Int)) O O (DO (a:=i) (b:=m.fst/3) Z)) (Aj O (AR (c:=(((0+m.fst)+(i*(m.fst/3)):Nat):Int)) O O (AS (a:=0+m.fst) (b:=i*(m.fst/3)) Z)) ?_)
  obtain ⟨r9,hr9⟩:∃r,r=JR m i 0:=⟨_,rfl⟩
  have hr3:r9<3:=by rw [hr9];exact Nat.mod_lt _ jY
  refine Aj O (B7 (c:=((r9:Nat):Int)) O O jY (by rw [hr9];exact IE (a:=0+m.fst+i*(m.fst/3)) (b:=3))) (Aj (v:=(pP (pB gc.p) (pO gc.p+i*6))) O (AO (j:=i) O O gc.ok underlying153 sizeOf155 O Z) (Aj (v:=(pP (pB gc.p) (pO gc.p+(i*6+r9*2)))) O (AB (j:=r9) O O underlying155 sizeOf72 O hr3 (Nat.add_assoc _ _ _)) (Aj (v:=(aG (Ay (Al m i 0)))) O (AI (vs:=Ay (Al m i 0)) (i:=1) O O (Aw.ne gc.ok Z) Cp (JW _ i r9 Z hr3 _ O _ (by rw [hr9];rfl)) O) (zN O (al OT O λb5=>zG (sl sr) (zN O (Ah O sizeOf72 O (zG (sl sr) (zQ (zB (sL [1,2,3,5,6,4,7,8,9] O) ?_))))))))))
  refine q2 (asg' O (oNl' (q1 (q4 (asg' O (oNl' (zA (zI ?_))))))))
  refine yG (tg λ(k:Nat) (a:Int)=>k<=s.pl.length/\((a = -1/\∀j,j<k->s.pl.getD j (0,0)≠Al m i 0)\/0<=a/\a<(k:Int)/\s.pl.getD (Int.toNat a) (0,0)=Al m i 0)) (tg λ(k:Nat) (a:Int)=>[(1,(pP b1 0)),(2,(pP b2 0)),(3,(pP b3 0)),(5,(qz gc.p ((A6 m).length) gc.c)),(6,(vN i)),(4,(qz s.p1 s.pl.length s.c1)),(7,(pP b4 0)),(8,(vI 0)),(9,(pP b5 0)),(11,(vN k)),(10,(vI a))]) (tg λ(k:Nat) (a:Int)=>[AX b5 72 (Ay (Al m i 0)),AX b4 71 (Ad jJ),AP gc.p (rowsL A9 (A6 m)),rowW s.p1 72 2 s.pl.length s.c1 (rowsL Ay s.pl),rowW none 71 3 0 0 (rowsL Ad ([])),rowW p3 71 3 ts.length c3 (rowsL Ad ts),rowW s.p2 90 2 s.pl.length s.c2 (rowsL CZ (s.pts m)),AX b3 87 ([(qz s.p2 s.pl.length s.c2),(qz p3 ts.length c3),jj]),AX b2 87 ([jj,jj,jj]),AX b1 26 (Ef m),AP m.p (Ct m.cs)]) (tg λ(k:Nat) (a:Int)=>s.pl.length-k) 0 (-1:Int) (⟨xK _,.inl ⟨rfl,λj hj=>absurd hj (Nat.not_lt_zero _)⟩⟩) (sF O) sr (λk a hJ=>?_)
  obtain ⟨hk,ha⟩:=hJ
  refine zY (q4 (AM O (AM O (AC (v:=(vN s.pl.length)) (AE O underlying152) O (AC (Aa (c:=(decide (k<s.pl.length))) O O (DF (a:=k) (b:=s.pl.length))) O (oNl' (zB (sL [1,2,3,5,6,4,7,8,9,11,10,49] O) (zA ?_))))))))
  refine zL O (λhc2=>?_) (λhc2=>?_)
  ·replace hc2:=xU hc2
   refine zC (q1 (zI (zY (C_ (Ek 6) sr (Bx O (Bx O (Aj (v:=(pP (pB s.p1) (pO s.p1+k*2))) O (AO (j:=k) O O hs.o1.row underlying152 sizeOf72 O Z) (Aj (v:=(aG (Ay (s.pl.getD k ((0,0):P2))))) O (Cv (vs:=Ay (s.pl.getD k ((0,0):P2))) (i:=3) O O hs.o1 (Ac C9 _) (Aw.ne hs.o1.row Z) Cp (Ae C9 _ _ _ Z) (C9 _)) (Es 0 Cp O (Aj O (By (c:=decide (s.pl.getD k ((0,0):P2)=(Al m i 0))) O O eqGuardType72 (Nn 9998 (s.pl.getD k ((0,0):P2)) (Al m i 0))) (zQ ?_)))))))))))
   refine zB (sL [1,2,3,5,6,4,7,8,9,11,10,57] O) (zA ?_)
   refine zL O (λhc3=>?_) (λhc3=>?_)
   ·replace hc3:=xU hc3
    refine zD (AM O (asg' O (oNl' (zB (sL [1,2,3,5,6,4,7,8,9,11,10] O) (zF (zA (zD (AM O (AC (AR (c:=((k+1:Nat):Int)) O O (AS (a:=k) (b:=1) Z)) O (asg' O (oNl' ?_)))))))))))
    exact zB (sL [1,2,3,5,6,4,7,8,9,11,10] O) (zn (k+1) (k:Int) (⟨Z,.inr ⟨Z,Z,by simpa using hc3⟩⟩) Z (sF O) sr)
   ·replace hc3:=xT hc3
    exact zC (zF (zA (zD (AM O (AC (AR (c:=((k+1:Nat):Int)) O O (AS (a:=k) (b:=1) Z)) O (asg' O (oNl' (zB (sL [1,2,3,5,6,4,7,8,9,11,10] O) (zn (k+1) a (⟨Z,ha.elim (λh=>.inl ⟨h.1,λj hj=>by rcases Nat.lt_or_ge j k with h1|h1;exact h.2 j h1;(obtain rfl:j=k:=by omega);simpa using hc3⟩) (λh=>.inr ⟨h.1,Z,h.2.2⟩)⟩) Z (sF O) sr)))))))))
  ·replace hc2:=xT hc2
   refine zU (zO (zm (zR (q1 (q4 (AM O (AC (Aa (c:=(decide (a<(0:Int)))) O O O) O (oNl' (zB (sL [1,2,3,5,6,4,7,8,9,11,10,60] O) (zA ?_))))))))))
   refine yh (tg λ(s1:WS) (n1:Nat)=>WS.Ok s1/\GE s.pl (WS.pl s1)/\(WS.pl s1).length<=s.pl.length+1/\n1<(WS.pl s1).length/\(WS.pl s1).getD n1 (0,0)=Al m i 0/\(∀a,a<(WS.pl s1).length->a<s.pl.length\/a=n1)/\(WS.pl s1,n1)=GT s.pl (Al m i 0)) (tg λ(s1:WS) (n1:Nat)=>[(1,(pP b1 0)),(2,(pP b2 0)),(3,(pP b3 0)),(5,(qz gc.p ((A6 m).length) gc.c)),(6,(vN i)),(7,(pP b4 0)),(8,(vI 0)),(10,(vN n1)),(4,(qz s1.p1 s1.pl.length s1.c1))]) (tg λ(s1:WS) (n1:Nat)=>[AX b5 72 (Ay (Al m i 0)),AX b4 71 (Ad jJ),AP gc.p (rowsL A9 (A6 m)),rowW s1.p1 72 2 s1.pl.length s1.c1 (rowsL Ay s1.pl),rowW none 71 3 0 0 (rowsL Ad ([])),rowW p3 71 3 ts.length c3 (rowsL Ad ts),rowW s1.p2 90 2 s1.pl.length s1.c2 (rowsL CZ (s1.pts m)),AX b3 87 ([(qz s1.p2 s1.pl.length s1.c2),(qz p3 ts.length c3),jj]),AX b2 87 ([jj,jj,jj]),AX b1 26 (Ef m),AP m.p (Ct m.cs)]) ?_ ?_
   ·refine zL O (λhc4=>?_) (λhc4=>?_)
    ·replace hc4:=xU hc4
     refine q4 (AM O (AC (v:=(vN s.pl.length)) (AE O underlying152) O (asg' O (q3 (sL [1,2,3,5,6,4,7,8,9,11,10] O) (AM O (Ai 0 Cp O (ze (V:=λb6=>(qz (jk b6) 1 1)) (T:=72) (cs:=Ay (Al m i 0)) (AK O) (A7 (z:=.agg (Ay ((0,0):P2)).toArray) (cs:=Ay (Al m i 0)) (pv:=[(0,(aG (Ay (Al m i 0))))]) underlying152 sizeOf72 zeroValue72 jY jY O (FO (Al m i 0))) O (BE O) λb6=>zu 4 (j:=0) (cs2:=rowsL Ay (s.pl++[(Al m i 0)])) Wh O hs.o1 (Ac C9 _) O O O O O jY (Mb Z) Z (by rw [Ba];rfl) O λp_1 c_1 ho_1 hne_1=>asg' O (oNl' (zB (sL [1,2,3,5,6,4,7,8,9,11,10] O) ?_)))))))))
     refine zA (rC [(0,true),(1,true),(2,true),(3,true),(4,false),(5,false),(6,false),(7,true)] 8 [] (sk (sk (sk (sk (sk (sk (sk (sl sr)))))))) (sk (sk (sk (sk (sk (sk (sk (sl sr)))))))) jV (λ_ _ d _ _ h=>by cases d<;>exact h) (vE (v:=(pP b3 0)) O (AA O underlying87 O sizeOf85 O) O (vE O (AD (i:=7) (v:=(qz s.p2 s.pl.length s.c2)) O O TT.a O) O (vE (v:=(aG (Ef m))) O (Ab (i:=9) (vs:=Ef m) O O OR.a OR.s O O) O (vE (v:=(aG (Ay (Al m i 0)))) O (Ab (i:=1) (vs:=Ay (Al m i 0)) O O Cp.a Cp.s O O) O (zr O (C7 call82 (λw hw=>JG m (Al m i 0) (EK Z) w (Cd hw 11 O lm)) O (zp (sk (sk (sk (sk (sk (sk (sk (sl sr)))))))) (zr O (ze (V:=λb7=>(qz (jk b7) 1 1)) (T:=90) (cs:=CZ ((mapM m).at_ (Al m i 0))) (AK O) (A7 (z:=.agg (CZ ((0,0):Int×Int)).toArray) (cs:=CZ ((mapM m).at_ (Al m i 0))) (pv:=[(0,(aG (CZ ((mapM m).at_ (Al m i 0)))))]) underlying85 sizeOf90 zeroValue90 jY jY O (FP ((mapM m).at_ (Al m i 0)))) O (BE O) λb7=>zp (sl (sk (sk (sk (sk (sk (sk (sk (sl sr))))))))) ?_))))))))))
     refine zr O (zu 8 (j:=0) (cs2:=rowsL CZ ((s.pts m)++[((mapM m).at_ (Al m i 0))])) ao O hs.o2 (by rw [Ac F5];simp [WS.pts]) O O O O O jY (Mb Z) Z (by rw [Ba];rfl) O λp_2 c_2 ho_2 hne_2=>zp (sl (sk (sk (sk (sk (sk (sk (sk (sl sr))))))))) (vE (v:=(pP b3 0)) O (AA O underlying87 O sizeOf85 O) O (yJ O (Fm 9 (off:=0) (vs:=[(qz p_2 (s.pl.length+1) c_2)]) (cs':=[(qz p_2 (s.pl.length+1) c_2),(qz p3 ts.length c3),jj]) (AK O) O sizeOf85 O (zG (sl (sk (sk (sk (sk (sk (sk (sk (sl (sl sr)))))))))) (zQ (zB (sL [1,2,3,5,6,4,7,8,9,11,10] O) ?_)))))))
     rw [show s.pl.length+1=(s.pl++[Al m i 0]).length by simp]
     rw [show s.pts m++[(mapM m).at_ (Al m i 0)]=WS.pts (WS.mk (s.pl++[Al m i 0]) p_1 c_1 p_2 c_2) m by simp [WS.pts]]
     exact yI (WS.mk (s.pl++[Al m i 0]) p_1 c_1 p_2 c_2) s.pl.length (⟨⟨(by simpa using ho_1),(by simpa using ho_2),λp hp=>(List.mem_append.1 hp).elim (hs.small p) (λe=>by rw [xP.1 e];exact EK Z),Kx hs.dst (λj hj=>(ha.elim id (λh=>absurd h.1 Z)).2 j Z)⟩,GE.snoc _ _,by simp,by simp,DM _ _,λa ha=>by simp only [xM,List.length_singleton] at ha;omega,Lp λj hj=>(ha.elim id (λh=>absurd h.1 Z)).2 j Z⟩) (sF O) (sl (sl sr))
    ·replace hc4:=xT hc4
     refine yN (k:=10) (u:=(vN a.toNat)) O (by show Value.int _ _=Value.int _ _;congr 1;omega) (zC ?_)
     obtain ⟨ha1,ha2,ha3⟩:=ha.resolve_left (λh=>by have:=h.1;omega)
     exact yI s a.toNat (⟨hs,GE.refl _,Z,Z,ha3,(λa ha=>.inl ha),Lq hs.dst Z ha3⟩) (sF O) sr
   ·intro s1 n1 hJ
    obtain ⟨hs1,hm1,hl1,hn1,hg1,hu1,hf1⟩:=hJ
    refine zA (zD (AM O (AM O (AC (v:=(pP b4 0)) (AB (j:=0) O O underlying71 sizeOf3 O jY O) O (Fm 1 (off:=0) (vs:=[(vN n1)]) (cs':=[(vN n1),(vI 0),(vI 0)]) (AK O) O sizeOf3 O (oNl' (zB (sL [1,2,3,5,6,7,8,10,4] O) (zF (zA (zD (AM O ?_)))))))))))
    refine AC (AR (c:=(1:Int)) O O jY) O (asg' O (oNl' (zB (sL [1,2,3,5,6,7,8,10,4] O) (zl (zZ (zY (q4 (AM O (AC (Aa (c:=true) O O jY) O (oNl' (zB (sL [1,2,3,5,6,7,8,10,4,25] O) ?_)))))))))))
    refine zA (zV O (zC (q1 (zI (zY (C_ (Ek 18++[(18,false),(19,false)]) sr (Bx O (Bx O (Bx O (Aj (v:=(pP b1 8)) O (AA O underlying26 O sizeOf5 O) (BK 9 (vK .u8 m.fst) Wl O ?_)))))))))))
    refine Aj O (Ar (c:=((m.fst:Nat):Int)) O underlying5 underlying3 (CC Z)) (Aj O (AR (c:=((1+m.fst:Nat):Int)) O O (AS (a:=1) (b:=m.fst) Z)) (Bx O (Aj (v:=(pP b1 8)) O (AA O underlying26 O sizeOf5 O) (BK 9 (vK .u8 m.fst) Wl O (Aj O (Gu (c:=((m.fst/3:Nat):Int)) O O Z (OL (a:=m.fst) (b:=3) Z)) (Aj O (Ar (c:=((m.fst/3:Nat):Int)) O underlying5 underlying3 (CC Z)) ?_))))))
    have hmul:i*(m.fst/3)<=36*85:=Nat.mul_le_mul Z hf3
    refine Aj O (Bv (c:=((i*(m.fst/3):Nat):Int)) O O (DO (a:=i) (b:=m.fst/3) Z)) (Aj O (AR (c:=(((1+m.fst)+(i*(m.fst/3)):Nat):Int)) O O (AS (a:=1+m.fst) (b:=i*(m.fst/3)) Z)) ?_)
    obtain ⟨r9,hr9⟩:∃r,r=JR m i 1:=⟨_,rfl⟩
    have hr3:r9<3:=by rw [hr9];exact Nat.mod_lt _ jY
    refine Aj O (B7 (c:=((r9:Nat):Int)) O O jY (by rw [hr9];exact IE (a:=1+m.fst+i*(m.fst/3)) (b:=3))) (Aj (v:=(pP (pB gc.p) (pO gc.p+i*6))) O (AO (j:=i) O O gc.ok underlying153 sizeOf155 O Z) (Aj (v:=(pP (pB gc.p) (pO gc.p+(i*6+r9*2)))) O (AB (j:=r9) O O underlying155 sizeOf72 O hr3 (Nat.add_assoc _ _ _)) (Aj (v:=(aG (Ay (Al m i 1)))) O (AI (vs:=Ay (Al m i 1)) (i:=2) O O (Aw.ne gc.ok Z) Cp (JW _ i r9 Z hr3 _ O _ (by rw [hr9];rfl)) O) (zN O (al OT O λb6=>zG (sl sr) (zN O (Ah O sizeOf72 O (zG (sl sr) (zQ (zB (sL [1,2,3,5,6,7,8,10,4,9] O) ?_))))))))))
    refine q2 (asg' O (oNl' (q1 (q4 (asg' O (oNl' (zA (zI ?_))))))))
    refine yG (tg λ(k:Nat) (a:Int)=>k<=s1.pl.length/\((a = -1/\∀j,j<k->s1.pl.getD j (0,0)≠Al m i 1)\/0<=a/\a<(k:Int)/\s1.pl.getD (Int.toNat a) (0,0)=Al m i 1)) (tg λ(k:Nat) (a:Int)=>[(1,(pP b1 0)),(2,(pP b2 0)),(3,(pP b3 0)),(5,(qz gc.p ((A6 m).length) gc.c)),(6,(vN i)),(7,(pP b4 0)),(8,(vI 1)),(4,(qz s1.p1 s1.pl.length s1.c1)),(9,(pP b6 0)),(11,(vN k)),(10,(vI a))]) (tg λ(k:Nat) (a:Int)=>[AX b6 72 (Ay (Al m i 1)),AX b5 72 (Ay (Al m i 0)),AX b4 71 ([(vN n1),(vI 0),(vI 0)]),AP gc.p (rowsL A9 (A6 m)),rowW s1.p1 72 2 s1.pl.length s1.c1 (rowsL Ay s1.pl),rowW none 71 3 0 0 (rowsL Ad ([])),rowW p3 71 3 ts.length c3 (rowsL Ad ts),rowW s1.p2 90 2 s1.pl.length s1.c2 (rowsL CZ (s1.pts m)),AX b3 87 ([(qz s1.p2 s1.pl.length s1.c2),(qz p3 ts.length c3),jj]),AX b2 87 ([jj,jj,jj]),AX b1 26 (Ef m),AP m.p (Ct m.cs)]) (tg λ(k:Nat) (a:Int)=>s1.pl.length-k) 0 (-1:Int) (⟨xK _,.inl ⟨rfl,λj hj=>absurd hj (Nat.not_lt_zero _)⟩⟩) (sF O) sr (λk a hJ=>?_)
    obtain ⟨hk,ha⟩:=hJ
    refine zY (q4 (AM O (AM O (AC (v:=(vN s1.pl.length)) (AE O underlying152) O (AC (Aa (c:=(decide (k<s1.pl.length))) O O (DF (a:=k) (b:=s1.pl.length))) O (oNl' (zB (sL [1,2,3,5,6,7,8,4,9,11,10,49] O) (zA ?_))))))))
    refine zL O (λhc2=>?_) (λhc2=>?_)
    ·replace hc2:=xU hc2
     refine zC (q1 (zI (zY (C_ (Ek 6) sr (Bx O (Bx O (Aj (v:=(pP (pB s1.p1) (pO s1.p1+k*2))) O (AO (j:=k) O O hs1.o1.row underlying152 sizeOf72 O Z) (Aj (v:=(aG (Ay (s1.pl.getD k ((0,0):P2))))) O (Cv (vs:=Ay (s1.pl.getD k ((0,0):P2))) (i:=4) O O hs1.o1 (Ac C9 _) (Aw.ne hs1.o1.row Z) Cp (Ae C9 _ _ _ Z) (C9 _)) (Es 0 Cp O (Aj O (By (c:=decide (s1.pl.getD k ((0,0):P2)=(Al m i 1))) O O eqGuardType72 (Nn 9998 (s1.pl.getD k ((0,0):P2)) (Al m i 1))) (zQ ?_)))))))))))
     refine zB (sL [1,2,3,5,6,7,8,4,9,11,10,57] O) (zA ?_)
     refine zL O (λhc3=>?_) (λhc3=>?_)
     ·replace hc3:=xU hc3
      refine zD (AM O (asg' O (oNl' (zB (sL [1,2,3,5,6,7,8,4,9,11,10] O) (zF (zA (zD (AM O (AC (AR (c:=((k+1:Nat):Int)) O O (AS (a:=k) (b:=1) Z)) O (asg' O (oNl' ?_)))))))))))
      exact zB (sL [1,2,3,5,6,7,8,4,9,11,10] O) (zn (k+1) (k:Int) (⟨Z,.inr ⟨Z,Z,by simpa using hc3⟩⟩) Z (sF O) sr)
     ·replace hc3:=xT hc3
      exact zC (zF (zA (zD (AM O (AC (AR (c:=((k+1:Nat):Int)) O O (AS (a:=k) (b:=1) Z)) O (asg' O (oNl' (zB (sL [1,2,3,5,6,7,8,4,9,11,10] O) (zn (k+1) a (⟨Z,ha.elim (λh=>.inl ⟨h.1,λj hj=>by rcases Nat.lt_or_ge j k with h1|h1;exact h.2 j h1;(obtain rfl:j=k:=by omega);simpa using hc3⟩) (λh=>.inr ⟨h.1,Z,h.2.2⟩)⟩) Z (sF O) sr)))))))))
    ·replace hc2:=xT hc2
     refine zU (zO (zm (zR (q1 (q4 (AM O (AC (Aa (c:=(decide (a<(0:Int)))) O O O) O (oNl' (zB (sL [1,2,3,5,6,7,8,4,9,11,10,60] O) (zA ?_))))))))))
     refine yh (tg λ(s2:WS) (n2:Nat)=>WS.Ok s2/\GE s1.pl (WS.pl s2)/\(WS.pl s2).length<=s1.pl.length+1/\n2<(WS.pl s2).length/\(WS.pl s2).getD n2 (0,0)=Al m i 1/\(∀a,a<(WS.pl s2).length->a<s1.pl.length\/a=n2)/\(WS.pl s2,n2)=GT s1.pl (Al m i 1)) (tg λ(s2:WS) (n2:Nat)=>[(1,(pP b1 0)),(2,(pP b2 0)),(3,(pP b3 0)),(5,(qz gc.p ((A6 m).length) gc.c)),(6,(vN i)),(7,(pP b4 0)),(8,(vI 1)),(10,(vN n2)),(4,(qz s2.p1 s2.pl.length s2.c1))]) (tg λ(s2:WS) (n2:Nat)=>[AX b6 72 (Ay (Al m i 1)),AX b5 72 (Ay (Al m i 0)),AX b4 71 ([(vN n1),(vI 0),(vI 0)]),AP gc.p (rowsL A9 (A6 m)),rowW s2.p1 72 2 s2.pl.length s2.c1 (rowsL Ay s2.pl),rowW none 71 3 0 0 (rowsL Ad ([])),rowW p3 71 3 ts.length c3 (rowsL Ad ts),rowW s2.p2 90 2 s2.pl.length s2.c2 (rowsL CZ (s2.pts m)),AX b3 87 ([(qz s2.p2 s2.pl.length s2.c2),(qz p3 ts.length c3),jj]),AX b2 87 ([jj,jj,jj]),AX b1 26 (Ef m),AP m.p (Ct m.cs)]) ?_ ?_
     ·refine zL O (λhc4=>?_) (λhc4=>?_)
      ·replace hc4:=xU hc4
       refine q4 (AM O (AC (v:=(vN s1.pl.length)) (AE O underlying152) O (asg' O (q3 (sL [1,2,3,5,6,7,8,4,9,11,10] O) (AM O (Ai 0 Cp O (ze (V:=λb7=>(qz (jk b7) 1 1)) (T:=72) (cs:=Ay (Al m i 1)) (AK O) (A7 (z:=.agg (Ay ((0,0):P2)).toArray) (cs:=Ay (Al m i 1)) (pv:=[(0,(aG (Ay (Al m i 1))))]) underlying152 sizeOf72 zeroValue72 jY jY O (FO (Al m i 1))) O (BE O) λb7=>zu 5 (j:=0) (cs2:=rowsL Ay (s1.pl++[(Al m i 1)])) Wh O hs1.o1 (Ac C9 _) O O O O O jY (Mb Z) Z (by rw [Ba];rfl) O λp_3 c_3 ho_3 hne_3=>asg' O (oNl' (zB (sL [1,2,3,5,6,7,8,4,9,11,10] O) ?_)))))))))
       refine zA (rC [(0,true),(1,true),(2,true),(3,true),(4,false),(5,false),(6,false),(7,true)] 8 [] (sk (sk (sk (sk (sk (sk (sk (sk (sl sr))))))))) (sk (sk (sk (sk (sk (sk (sk (sk (sl sr))))))))) jV (λ_ _ d _ _ h=>by cases d<;>exact h) (vE (v:=(pP b3 0)) O (AA O underlying87 O sizeOf85 O) O (vE O (AD (i:=8) (v:=(qz s1.p2 s1.pl.length s1.c2)) O O TT.a O) O (vE (v:=(aG (Ef m))) O (Ab (i:=10) (vs:=Ef m) O O OR.a OR.s O O) O (vE (v:=(aG (Ay (Al m i 1)))) O (Ab (i:=1) (vs:=Ay (Al m i 1)) O O Cp.a Cp.s O O) O (zr O (C7 call82 (λw hw=>JG m (Al m i 1) (EK Z) w (Cd hw 12 O lm)) O (zp (sk (sk (sk (sk (sk (sk (sk (sk (sl sr))))))))) (zr O (ze (V:=λb8=>(qz (jk b8) 1 1)) (T:=90) (cs:=CZ ((mapM m).at_ (Al m i 1))) (AK O) (A7 (z:=.agg (CZ ((0,0):Int×Int)).toArray) (cs:=CZ ((mapM m).at_ (Al m i 1))) (pv:=[(0,(aG (CZ ((mapM m).at_ (Al m i 1)))))]) underlying85 sizeOf90 zeroValue90 jY jY O (FP ((mapM m).at_ (Al m i 1)))) O (BE O) λb8=>zp (sl (sk (sk (sk (sk (sk (sk (sk (sk (sl sr)))))))))) ?_))))))))))
       refine zr O (zu 9 (j:=0) (cs2:=rowsL CZ ((s1.pts m)++[((mapM m).at_ (Al m i 1))])) ao O hs1.o2 (by rw [Ac F5];simp [WS.pts]) O O O O O jY (Mb Z) Z (by rw [Ba];rfl) O λp_4 c_4 ho_4 hne_4=>zp (sl (sk (sk (sk (sk (sk (sk (sk (sk (sl sr)))))))))) (vE (v:=(pP b3 0)) O (AA O underlying87 O sizeOf85 O) O (yJ O (Fm 10 (off:=0) (vs:=[(qz p_4 (s1.pl.length+1) c_4)]) (cs':=[(qz p_4 (s1.pl.length+1) c_4),(qz p3 ts.length c3),jj]) (AK O) O sizeOf85 O (zG (sl (sk (sk (sk (sk (sk (sk (sk (sk (sl (sl sr))))))))))) (zQ (zB (sL [1,2,3,5,6,7,8,4,9,11,10] O) ?_)))))))
       rw [show s1.pl.length+1=(s1.pl++[Al m i 1]).length by simp]
       rw [show s1.pts m++[(mapM m).at_ (Al m i 1)]=WS.pts (WS.mk (s1.pl++[Al m i 1]) p_3 c_3 p_4 c_4) m by simp [WS.pts]]
       exact yI (WS.mk (s1.pl++[Al m i 1]) p_3 c_3 p_4 c_4) s1.pl.length (⟨⟨(by simpa using ho_3),(by simpa using ho_4),λp hp=>(List.mem_append.1 hp).elim (hs1.small p) (λe=>by rw [xP.1 e];exact EK Z),Kx hs1.dst (λj hj=>(ha.elim id (λh=>absurd h.1 Z)).2 j Z)⟩,GE.snoc _ _,by simp,by simp,DM _ _,λa ha=>by simp only [xM,List.length_singleton] at ha;omega,Lp λj hj=>(ha.elim id (λh=>absurd h.1 Z)).2 j Z⟩) (sF O) (sl (sl sr))
      ·replace hc4:=xT hc4
       refine yN (k:=10) (u:=(vN a.toNat)) O (by show Value.int _ _=Value.int _ _;congr 1;omega) (zC ?_)
       obtain ⟨ha1,ha2,ha3⟩:=ha.resolve_left (λh=>by have:=h.1;omega)
       exact yI s1 a.toNat (⟨hs1,GE.refl _,Z,Z,ha3,(λa ha=>.inl ha),Lq hs1.dst Z ha3⟩) (sF O) sr
     ·intro s2 n2 hJ
      obtain ⟨hs2,hm2,hl2,hn2,hg2,hu2,hf2⟩:=hJ
      refine zA (zD (AM O (AM O (AC (v:=(pP b4 1)) (AB (j:=1) O O underlying71 sizeOf3 O jY O) O (Fm 2 (off:=1) (vs:=[(vN n2)]) (cs':=[(vN n1),(vN n2),(vI 0)]) (AK O) O sizeOf3 O (oNl' (zB (sL [1,2,3,5,6,7,8,10,4] O) (zF (zA (zD (AM O ?_)))))))))))
      refine AC (AR (c:=(2:Int)) O O jY) O (asg' O (oNl' (zB (sL [1,2,3,5,6,7,8,10,4] O) (zl (zZ (zY (q4 (AM O (AC (Aa (c:=true) O O jY) O (oNl' (zB (sL [1,2,3,5,6,7,8,10,4,25] O) ?_)))))))))))
      refine zA (zV O (zC (q1 (zI (zY (C_ (Ek 18++[(18,false),(19,false)]) sr (Bx O (Bx O (Bx O (Aj (v:=(pP b1 8)) O (AA O underlying26 O sizeOf5 O) (BK 10 (vK .u8 m.fst) Wl O ?_)))))))))))
      refine Aj O (Ar (c:=((m.fst:Nat):Int)) O underlying5 underlying3 (CC Z)) (Aj O (AR (c:=((2+m.fst:Nat):Int)) O O (AS (a:=2) (b:=m.fst) Z)) (Bx O (Aj (v:=(pP b1 8)) O (AA O underlying26 O sizeOf5 O) (BK 10 (vK .u8 m.fst) Wl O (Aj O (Gu (c:=((m.fst/3:Nat):Int)) O O Z (OL (a:=m.fst) (b:=3) Z)) (Aj O (Ar (c:=((m.fst/3:Nat):Int)) O underlying5 underlying3 (CC Z)) ?_))))))
      have hmul:i*(m.fst/3)<=36*85:=Nat.mul_le_mul Z hf3
      refine Aj O (Bv (c:=((i*(m.fst/3):Nat):Int)) O O (DO (a:=i) (b:=m.fst/3) Z)) (Aj O (AR (c:=(((2+m.fst)+(i*(m.fst/3)):Nat):Int)) O O (AS (a:=2+m.fst) (b:=i*(m.fst/3)) Z)) ?_)
      obtain ⟨r9,hr9⟩:∃r,r=JR m i 2:=⟨_,rfl⟩
      have hr3:r9<3:=by rw [hr9];exact Nat.mod_lt _ jY
      refine Aj O (B7 (c:=((r9:Nat):Int)) O O jY (by rw [hr9];exact IE (a:=2+m.fst+i*(m.fst/3)) (b:=3))) (Aj (v:=(pP (pB gc.p) (pO gc.p+i*6))) O (AO (j:=i) O O gc.ok underlying153 sizeOf155 O Z) (Aj (v:=(pP (pB gc.p) (pO gc.p+(i*6+r9*2)))) O (AB (j:=r9) O O underlying155 sizeOf72 O hr3 (Nat.add_assoc _ _ _)) (Aj (v:=(aG (Ay (Al m i 2)))) O (AI (vs:=Ay (Al m i 2)) (i:=3) O O (Aw.ne gc.ok Z) Cp (JW _ i r9 Z hr3 _ O _ (by rw [hr9];rfl)) O) (zN O (al OT O λb7=>zG (sl sr) (zN O (Ah O sizeOf72 O (zG (sl sr) (zQ (zB (sL [1,2,3,5,6,7,8,10,4,9] O) ?_))))))))))
      refine q2 (asg' O (oNl' (q1 (q4 (asg' O (oNl' (zA (zI ?_))))))))
      refine yG (tg λ(k:Nat) (a:Int)=>k<=s2.pl.length/\((a = -1/\∀j,j<k->s2.pl.getD j (0,0)≠Al m i 2)\/0<=a/\a<(k:Int)/\s2.pl.getD (Int.toNat a) (0,0)=Al m i 2)) (tg λ(k:Nat) (a:Int)=>[(1,(pP b1 0)),(2,(pP b2 0)),(3,(pP b3 0)),(5,(qz gc.p ((A6 m).length) gc.c)),(6,(vN i)),(7,(pP b4 0)),(8,(vI 2)),(4,(qz s2.p1 s2.pl.length s2.c1)),(9,(pP b7 0)),(11,(vN k)),(10,(vI a))]) (tg λ(k:Nat) (a:Int)=>[AX b7 72 (Ay (Al m i 2)),AX b6 72 (Ay (Al m i 1)),AX b5 72 (Ay (Al m i 0)),AX b4 71 ([(vN n1),(vN n2),(vI 0)]),AP gc.p (rowsL A9 (A6 m)),rowW s2.p1 72 2 s2.pl.length s2.c1 (rowsL Ay s2.pl),rowW none 71 3 0 0 (rowsL Ad ([])),rowW p3 71 3 ts.length c3 (rowsL Ad ts),rowW s2.p2 90 2 s2.pl.length s2.c2 (rowsL CZ (s2.pts m)),AX b3 87 ([(qz s2.p2 s2.pl.length s2.c2),(qz p3 ts.length c3),jj]),AX b2 87 ([jj,jj,jj]),AX b1 26 (Ef m),AP m.p (Ct m.cs)]) (tg λ(k:Nat) (a:Int)=>s2.pl.length-k) 0 (-1:Int) (⟨xK _,.inl ⟨rfl,λj hj=>absurd hj (Nat.not_lt_zero _)⟩⟩) (sF O) sr (λk a hJ=>?_)
      obtain ⟨hk,ha⟩:=hJ
      refine zY (q4 (AM O (AM O (AC (v:=(vN s2.pl.length)) (AE O underlying152) O (AC (Aa (c:=(decide (k<s2.pl.length))) O O (DF (a:=k) (b:=s2.pl.length))) O (oNl' (zB (sL [1,2,3,5,6,7,8,4,9,11,10,49] O) (zA ?_))))))))
      refine zL O (λhc2=>?_) (λhc2=>?_)
      ·replace hc2:=xU hc2
       refine zC (q1 (zI (zY (C_ (Ek 6) sr (Bx O (Bx O (Aj (v:=(pP (pB s2.p1) (pO s2.p1+k*2))) O (AO (j:=k) O O hs2.o1.row underlying152 sizeOf72 O Z) (Aj (v:=(aG (Ay (s2.pl.getD k ((0,0):P2))))) O (Cv (vs:=Ay (s2.pl.getD k ((0,0):P2))) (i:=5) O O hs2.o1 (Ac C9 _) (Aw.ne hs2.o1.row Z) Cp (Ae C9 _ _ _ Z) (C9 _)) (Es 0 Cp O (Aj O (By (c:=decide (s2.pl.getD k ((0,0):P2)=(Al m i 2))) O O eqGuardType72 (Nn 9998 (s2.pl.getD k ((0,0):P2)) (Al m i 2))) (zQ ?_)))))))))))
       refine zB (sL [1,2,3,5,6,7,8,4,9,11,10,57] O) (zA ?_)
       refine zL O (λhc3=>?_) (λhc3=>?_)
       ·replace hc3:=xU hc3
        refine zD (AM O (asg' O (oNl' (zB (sL [1,2,3,5,6,7,8,4,9,11,10] O) (zF (zA (zD (AM O (AC (AR (c:=((k+1:Nat):Int)) O O (AS (a:=k) (b:=1) Z)) O (asg' O (oNl' ?_)))))))))))
        exact zB (sL [1,2,3,5,6,7,8,4,9,11,10] O) (zn (k+1) (k:Int) (⟨Z,.inr ⟨Z,Z,by simpa using hc3⟩⟩) Z (sF O) sr)
       ·replace hc3:=xT hc3
        exact zC (zF (zA (zD (AM O (AC (AR (c:=((k+1:Nat):Int)) O O (AS (a:=k) (b:=1) Z)) O (asg' O (oNl' (zB (sL [1,2,3,5,6,7,8,4,9,11,10] O) (zn (k+1) a (⟨Z,ha.elim (λh=>.inl ⟨h.1,λj hj=>by rcases Nat.lt_or_ge j k with h1|h1;exact h.2 j h1;(obtain rfl:j=k:=by omega);simpa using hc3⟩) (λh=>.inr ⟨h.1,Z,h.2.2⟩)⟩) Z (sF O) sr)))))))))
      ·replace hc2:=xT hc2
       refine zU (zO (zm (zR (q1 (q4 (AM O (AC (Aa (c:=(decide (a<(0:Int)))) O O O) O (oNl' (zB (sL [1,2,3,5,6,7,8,4,9,11,10,60] O) (zA ?_))))))))))
       refine yh (tg λ(s3:WS) (n3:Nat)=>WS.Ok s3/\GE s2.pl (WS.pl s3)/\(WS.pl s3).length<=s2.pl.length+1/\n3<(WS.pl s3).length/\(WS.pl s3).getD n3 (0,0)=Al m i 2/\(∀a,a<(WS.pl s3).length->a<s2.pl.length\/a=n3)/\(WS.pl s3,n3)=GT s2.pl (Al m i 2)) (tg λ(s3:WS) (n3:Nat)=>[(1,(pP b1 0)),(2,(pP b2 0)),(3,(pP b3 0)),(5,(qz gc.p ((A6 m).length) gc.c)),(6,(vN i)),(7,(pP b4 0)),(8,(vI 2)),(10,(vN n3)),(4,(qz s3.p1 s3.pl.length s3.c1))]) (tg λ(s3:WS) (n3:Nat)=>[AX b7 72 (Ay (Al m i 2)),AX b6 72 (Ay (Al m i 1)),AX b5 72 (Ay (Al m i 0)),AX b4 71 ([(vN n1),(vN n2),(vI 0)]),AP gc.p (rowsL A9 (A6 m)),rowW s3.p1 72 2 s3.pl.length s3.c1 (rowsL Ay s3.pl),rowW none 71 3 0 0 (rowsL Ad ([])),rowW p3 71 3 ts.length c3 (rowsL Ad ts),rowW s3.p2 90 2 s3.pl.length s3.c2 (rowsL CZ (s3.pts m)),AX b3 87 ([(qz s3.p2 s3.pl.length s3.c2),(qz p3 ts.length c3),jj]),AX b2 87 ([jj,jj,jj]),AX b1 26 (Ef m),AP m.p (Ct m.cs)]) ?_ ?_
       ·refine zL O (λhc4=>?_) (λhc4=>?_)
        ·replace hc4:=xU hc4
         refine q4 (AM O (AC (v:=(vN s2.pl.length)) (AE O underlying152) O (asg' O (q3 (sL [1,2,3,5,6,7,8,4,9,11,10] O) (AM O (Ai 0 Cp O (ze (V:=λb8=>(qz (jk b8) 1 1)) (T:=72) (cs:=Ay (Al m i 2)) (AK O) (A7 (z:=.agg (Ay ((0,0):P2)).toArray) (cs:=Ay (Al m i 2)) (pv:=[(0,(aG (Ay (Al m i 2))))]) underlying152 sizeOf72 zeroValue72 jY jY O (FO (Al m i 2))) O (BE O) λb8=>zu 6 (j:=0) (cs2:=rowsL Ay (s2.pl++[(Al m i 2)])) Wh O hs2.o1 (Ac C9 _) O O O O O jY (Mb Z) Z (by rw [Ba];rfl) O λp_5 c_5 ho_5 hne_5=>asg' O (oNl' (zB (sL [1,2,3,5,6,7,8,4,9,11,10] O) ?_)))))))))
         refine zA (rC [(0,true),(1,true),(2,true),(3,true),(4,false),(5,false),(6,false),(7,true)] 8 [] (sk (sk (sk (sk (sk (sk (sk (sk (sk (sl sr)))))))))) (sk (sk (sk (sk (sk (sk (sk (sk (sk (sl sr)))))))))) jV (λ_ _ d _ _ h=>by cases d<;>exact h) (vE (v:=(pP b3 0)) O (AA O underlying87 O sizeOf85 O) O (vE O (AD (i:=9) (v:=(qz s2.p2 s2.pl.length s2.c2)) O O TT.a O) O (vE (v:=(aG (Ef m))) O (Ab (i:=11) (vs:=Ef m) O O OR.a OR.s O O) O (vE (v:=(aG (Ay (Al m i 2)))) O (Ab (i:=1) (vs:=Ay (Al m i 2)) O O Cp.a Cp.s O O) O (zr O (C7 call82 (λw hw=>JG m (Al m i 2) (EK Z) w (Cd hw 13 O lm)) O (zp (sk (sk (sk (sk (sk (sk (sk (sk (sk (sl sr)))))))))) (zr O (ze (V:=λb9=>(qz (jk b9) 1 1)) (T:=90) (cs:=CZ ((mapM m).at_ (Al m i 2))) (AK O) (A7 (z:=.agg (CZ ((0,0):Int×Int)).toArray) (cs:=CZ ((mapM m).at_ (Al m i 2))) (pv:=[(0,(aG (CZ ((mapM m).at_ (Al m i 2)))))]) underlying85 sizeOf90 zeroValue90 jY jY O (FP ((mapM m).at_ (Al m i 2)))) O (BE O) λb9=>zp (sl (sk (sk (sk (sk (sk (sk (sk (sk (sk (sl sr))))))))))) ?_))))))))))
         refine zr O (zu 10 (j:=0) (cs2:=rowsL CZ ((s2.pts m)++[((mapM m).at_ (Al m i 2))])) ao O hs2.o2 (by rw [Ac F5];simp [WS.pts]) O O O O O jY (Mb Z) Z (by rw [Ba];rfl) O λp_6 c_6 ho_6 hne_6=>zp (sl (sk (sk (sk (sk (sk (sk (sk (sk (sk (sl sr))))))))))) (vE (v:=(pP b3 0)) O (AA O underlying87 O sizeOf85 O) O (yJ O (Fm 11 (off:=0) (vs:=[(qz p_6 (s2.pl.length+1) c_6)]) (cs':=[(qz p_6 (s2.pl.length+1) c_6),(qz p3 ts.length c3),jj]) (AK O) O sizeOf85 O (zG (sl (sk (sk (sk (sk (sk (sk (sk (sk (sk (sl (sl sr)))))))))))) (zQ (zB (sL [1,2,3,5,6,7,8,4,9,11,10] O) ?_)))))))
         rw [show s2.pl.length+1=(s2.pl++[Al m i 2]).length by simp]
         rw [show s2.pts m++[(mapM m).at_ (Al m i 2)]=WS.pts (WS.mk (s2.pl++[Al m i 2]) p_5 c_5 p_6 c_6) m by simp [WS.pts]]
         exact yI (WS.mk (s2.pl++[Al m i 2]) p_5 c_5 p_6 c_6) s2.pl.length (⟨⟨(by simpa using ho_5),(by simpa using ho_6),λp hp=>(List.mem_append.1 hp).elim (hs2.small p) (λe=>by rw [xP.1 e];exact EK Z),Kx hs2.dst (λj hj=>(ha.elim id (λh=>absurd h.1 Z)).2 j Z)⟩,GE.snoc _ _,by simp,by simp,DM _ _,λa ha=>by simp only [xM,List.length_singleton] at ha;omega,Lp λj hj=>(ha.elim id (λh=>absurd h.1 Z)).2 j Z⟩) (sF O) (sl (sl sr))
        ·replace hc4:=xT hc4
         refine yN (k:=10) (u:=(vN a.toNat)) O (by show Value.int _ _=Value.int _ _;congr 1;omega) (zC ?_)
         obtain ⟨ha1,ha2,ha3⟩:=ha.resolve_left (λh=>by have:=h.1;omega)
         exact yI s2 a.toNat (⟨hs2,GE.refl _,Z,Z,ha3,(λa ha=>.inl ha),Lq hs2.dst Z ha3⟩) (sF O) sr
       ·intro s3 n3 hJ
        obtain ⟨hs3,hm3,hl3,hn3,hg3,hu3,hf3⟩:=hJ
        refine zA (zD (AM O (AM O (AC (v:=(pP b4 2)) (AB (j:=2) O O underlying71 sizeOf3 O jY O) O (Fm 3 (off:=2) (vs:=[(vN n3)]) (cs':=[(vN n1),(vN n2),(vN n3)]) (AK O) O sizeOf3 O (oNl' (zB (sL [1,2,3,5,6,7,8,10,4] O) (zF (zA (zD (AM O ?_)))))))))))
        refine AC (AR (c:=(3:Int)) O O jY) O (asg' O (oNl' (zB (sL [1,2,3,5,6,7,8,10,4] O) (zl (zZ (zY (q4 (AM O (AC (Aa (c:=false) O O jY) O (oNl' (zB (sL [1,2,3,5,6,7,8,10,4,25] O) ?_)))))))))))
        refine zA (zP O (zU (zO (zO (zR (zA (zD (AC (v:=(pP b3 1)) (AA O underlying87 O sizeOf28 O) O (BA 9 (qz p3 ts.length c3) CM O (Ai 3 Bm O (ze (V:=λb8=>(qz (jk b8) 1 1)) (T:=71) (cs:=Ad (n1,n2,n3)) (AK O) (A7 (z:=.agg (Ad jJ).toArray) (cs:=Ad (n1,n2,n3)) (pv:=[(0,(aG ([(vN n1),(vN n2),(vN n3)])))]) underlying28 sizeOf71 zeroValue71 jY jY O (HD (n1,n2,n3))) O (BE O) λb8=>?_)))))))))))
        refine zu 8 (j:=0) (cs2:=rowsL Ad (ts++[(n1,n2,n3)])) am O h3 (Ac An _) O O O O O jY (Mb Z) Z (by rw [Ba];rfl) O λp_7 c_7 ho_7 hne_7=>AC (v:=(pP b3 1)) (AA O underlying87 O sizeOf28 O) O (Fm 10 (off:=1) (vs:=[(qz p_7 (ts.length+1) c_7)]) (cs':=[(qz s3.p2 s3.pl.length s3.c2),(qz p_7 (ts.length+1) c_7),jj]) (AK O) O sizeOf28 O (oNl' (zB (sL [1,2,3,5,6,7,8,10,4] O) (zF (zA (zD (AM O (AC (AR (c:=((i+1:Nat):Int)) O O (AS (a:=i) (b:=1) Z)) O (asg' O (oNl' ?_))))))))))
        refine zB (sL [1,2,3,5,6,7,8,10,4] O) ?_
        rw [show ts.length+1=(ts++[(n1,n2,n3)]).length by simp]
        exact OkQ.round5 (i+1) s3 p_7 c_7 (ts++[(n1,n2,n3)]) (⟨Z,hs3,(by simpa using ho_7),hv.step ((hm1.trans hm2).trans hm3) Z hs3.small ⟨⟨by show n1<_;have:=hm2.1;have:=hm3.1;omega,(hm3.2 _ (by have:=hm2.1;omega)).trans ((hm2.2 _ Z).trans hg1)⟩,⟨by show n2<_;have:=hm3.1;omega,(hm3.2 _ Z).trans hg2⟩,⟨by show n3<_;omega,hg3⟩⟩ (λa ha=>by rcases hu3 a ha with h|h;(rcases hu2 a h with h|h;(rcases hu1 a h with h|h;exact .inl h;exact .inr (.inl h.symm));exact .inr (.inr (.inl h.symm)));exact .inr (.inr (.inr h.symm))) (W0 hv.fn hf1 hf2 hf3)⟩) Z (sF O) (sl (sl (sl (sl (sl sr)))))
 ·replace hc0:=xT hc0
  have hi9:i=(A6 m).length:=by omega
  rw [hi9] at hv
  refine zU (zO (OkQ.round5_exit (zR (q1 (q4 (asg' O (oNl' (zA (zI ?_)))))))))
  refine yR (tg λ(ai:Nat) (p4:Option Addr) (c4:Nat) (ss:List (Tq3))=>ai<=s.pl.length/\OwnOk p4 ss.length c4/\ss.length<=ai*108/\ss=FN m ts s.pl.length ai) (tg λ(ai:Nat) (p4:Option Addr) (c4:Nat) (ss:List (Tq3))=>[(1,(pP b1 0)),(2,(pP b2 0)),(3,(pP b3 0)),(4,(qz s.p1 s.pl.length s.c1)),(12,(vN ai))]) (tg λ(ai:Nat) (p4:Option Addr) (c4:Nat) (ss:List (Tq3))=>[AP gc.p (rowsL A9 (A6 m)),rowW s.p1 72 2 s.pl.length s.c1 (rowsL Ay s.pl),rowW p4 71 3 ss.length c4 (rowsL Ad ss),rowW p3 71 3 ts.length c3 (rowsL Ad ts),rowW s.p2 90 2 s.pl.length s.c2 (rowsL CZ (s.pts m)),AX b3 87 ([(qz s.p2 s.pl.length s.c2),(qz p3 ts.length c3),(qz p4 ss.length c4)]),AX b2 87 ([jj,jj,jj]),AX b1 26 (Ef m),AP m.p (Ct m.cs)]) (tg λ(ai:Nat) (p4:Option Addr) (c4:Nat) (ss:List (Tq3))=>s.pl.length-ai) 0 none 0 ([]:List (Tq3)) (⟨xK _,OwnOk.none,by simp,rfl⟩) (sF O) sr (λai p4 c4 ss hJ=>?_)
  obtain ⟨hai,h4,hsl,hsd⟩:=hJ
  refine zY (q4 (AM O (AM O (AC (v:=(vN s.pl.length)) (AE O underlying152) O (AC (Aa (c:=(decide (ai<s.pl.length))) O O (DF (a:=ai) (b:=s.pl.length))) O (oNl' (zB (sL [1,2,3,4,12,87] O) (zA ?_))))))))
  refine zL O (λhc5=>?_) (λhc5=>?_)
  ·replace hc5:=xU hc5
   refine zC (q1 (zI (q4 (AM O (AC (AR (c:=((ai+1:Nat):Int)) O O (AS (a:=ai) (b:=1) Z)) O (asg' O (oNl' (zB (sL [1,2,3,4,12,13] O) (zA (zI ?_))))))))))
   refine yR (tg λ(bi:Nat) (p5:Option Addr) (c5:Nat) (sq9:List (Tq3))=>bi<=s.pl.length/\ai+1<=bi/\OwnOk p5 sq9.length c5/\sq9.length<=ai*108+bi/\sq9=FN m ts s.pl.length ai++J7 m ts ai (bi-(ai+1))) (tg λ(bi:Nat) (p5:Option Addr) (c5:Nat) (sq9:List (Tq3))=>[(1,(pP b1 0)),(2,(pP b2 0)),(3,(pP b3 0)),(4,(qz s.p1 s.pl.length s.c1)),(12,(vN ai)),(13,(vN bi))]) (tg λ(bi:Nat) (p5:Option Addr) (c5:Nat) (sq9:List (Tq3))=>[AP gc.p (rowsL A9 (A6 m)),rowW s.p1 72 2 s.pl.length s.c1 (rowsL Ay s.pl),rowW p5 71 3 sq9.length c5 (rowsL Ad sq9),rowW p3 71 3 ts.length c3 (rowsL Ad ts),rowW s.p2 90 2 s.pl.length s.c2 (rowsL CZ (s.pts m)),AX b3 87 ([(qz s.p2 s.pl.length s.c2),(qz p3 ts.length c3),(qz p5 sq9.length c5)]),AX b2 87 ([jj,jj,jj]),AX b1 26 (Ef m),AP m.p (Ct m.cs)]) (tg λ(bi:Nat) (p5:Option Addr) (c5:Nat) (sq9:List (Tq3))=>s.pl.length-bi) (ai+1) p4 c4 ss (⟨Z,Nat.le_refl _,h4,Z,by rw [hsd,Nat.sub_self];exact (List.append_nil _).symm⟩) (sF O) sr (λbi p5 c5 sq9 hJ=>?_)
   obtain ⟨hbi,hba,h5,hsr,hsq⟩:=hJ
   refine zY (q4 (AM O (AM O (AC (v:=(vN s.pl.length)) (AE O underlying152) O (AC (Aa (c:=(decide (bi<s.pl.length))) O O (DF (a:=bi) (b:=s.pl.length))) O (oNl' (zB (sL [1,2,3,4,12,13,95] O) (zA ?_))))))))
   refine zL O (λhc6=>?_) (λhc6=>?_)
   ·replace hc6:=xU hc6
    refine zC (q1 (zI (q4 (asg' O (oNl' (q1 (q4 (asg' O (oNl' (zA (zI ?_)))))))))))
    refine yG (tg λ(ti:Nat) (cn:Nat)=>ti<=ts.length/\cn<=ti/\cn=Hz ts ai bi ti) (tg λ(ti:Nat) (cn:Nat)=>[(1,(pP b1 0)),(2,(pP b2 0)),(3,(pP b3 0)),(4,(qz s.p1 s.pl.length s.c1)),(12,(vN ai)),(13,(vN bi)),(15,(vN ti)),(14,(vN cn))]) (tg λ(ti:Nat) (cn:Nat)=>[AP gc.p (rowsL A9 (A6 m)),rowW s.p1 72 2 s.pl.length s.c1 (rowsL Ay s.pl),rowW p5 71 3 sq9.length c5 (rowsL Ad sq9),rowW p3 71 3 ts.length c3 (rowsL Ad ts),rowW s.p2 90 2 s.pl.length s.c2 (rowsL CZ (s.pts m)),AX b3 87 ([(qz s.p2 s.pl.length s.c2),(qz p3 ts.length c3),(qz p5 sq9.length c5)]),AX b2 87 ([jj,jj,jj]),AX b1 26 (Ef m),AP m.p (Ct m.cs)]) (tg λ(ti:Nat) (cn:Nat)=>ts.length-ti) 0 0 (⟨xK _,Nat.le_refl _,rfl⟩) (sF O) sr (λti cn hJ=>?_)
    obtain ⟨hti,hcn,hcw⟩:=hJ
    refine zY (q4 (AM O (AC (v:=(pP b3 1)) (AA O underlying87 O sizeOf28 O) O (BA 5 (qz p3 ts.length c3) CM O (AC (v:=(vN ts.length)) (AE O underlying28) O (AC (Aa (c:=(decide (ti<ts.length))) O O (DF (a:=ti) (b:=ts.length))) O (oNl' (zB (sL [1,2,3,4,12,13,15,14,102] O) (zA ?_)))))))))
    refine zL O (λhc7=>?_) (λhc7=>?_)
    ·replace hc7:=xU hc7
     refine zC (q1 (zI (q4 (AC (v:=(pP b3 1)) (AA O underlying87 O sizeOf28 O) O (BA 5 (qz p3 ts.length c3) CM O (AM O (AC (v:=(pP (pB p3) (pO p3+ti*3))) (AO (j:=ti) O O h3.row underlying28 sizeOf71 O Z) O (AC (v:=(aG (Ad (ts.getD ti jJ)))) (Cv (vs:=Ad (ts.getD ti jJ)) (i:=3) O O h3 (Ac An _) (Aw.ne h3.row Z) Bm (Ae An _ _ _ Z) (An _)) O (AM O (ck' call42 (VD (ts.getD ti jJ) ai) O (AM O ?_)))))))))))
     refine zi (FM:=[(1,(pP b1 0)),(2,(pP b2 0)),(3,(pP b3 0)),(4,(qz s.p1 s.pl.length s.c1)),(12,(vN ai)),(13,(vN bi)),(15,(vN ti)),(14,(vN cn)),(105,(pP b3 1)),(106,(qz p3 ts.length c3)),(107,(vN ti)),(108,(pP (pB p3) (pO p3+ti*3))),(109,(aG (Ad (ts.getD ti jJ)))),(110,(vN ai)),(111,(qa (Gh (ts.getD ti jJ) ai))),(112,(qa (Gh (ts.getD ti jJ) ai))),(120,(qa ((Gh (ts.getD ti jJ) ai)&&(Gh (ts.getD ti jJ) bi))))]) (LM:=[AP gc.p (rowsL A9 (A6 m)),rowW s.p1 72 2 s.pl.length s.c1 (rowsL Ay s.pl),rowW p5 71 3 sq9.length c5 (rowsL Ad sq9),rowW p3 71 3 ts.length c3 (rowsL Ad ts),rowW s.p2 90 2 s.pl.length s.c2 (rowsL CZ (s.pts m)),AX b3 87 ([(qz s.p2 s.pl.length s.c2),(qz p3 ts.length c3),(qz p5 sq9.length c5)]),AX b2 87 ([jj,jj,jj]),AX b1 26 (Ef m),AP m.p (Ct m.cs)]) 8 ?_ ?_
     ·rcases xR (Gh (ts.getD ti jJ) ai) with hg1|hg1
      ·refine zK (k:=112) (u:=qa true) O (by rw [hg1]) ?_
       have hg1':=hg1
       skip
       exact Av (v:=(pP b3 1)) O (AA O underlying87 O sizeOf28 O) (Av (v:=(qz p3 ts.length c3)) O (AD (i:=5) (v:=(qz p3 ts.length c3)) O O CM.a O) (F0 O (Av (v:=(pP (pB p3) (pO p3+ti*3))) O (AO (j:=ti) O O h3.row underlying28 sizeOf71 O Z) (Av (v:=(aG (Ad (ts.getD ti jJ)))) O (Cv (vs:=Ad (ts.getD ti jJ)) (i:=3) O O h3 (Ac An _) (Aw.ne h3.row Z) Bm (Ae An _ _ _ Z) (An _)) (F0 O (zg (v:=(qa (Gh (ts.getD ti jJ) bi))) (AY O) (Ao (args:=[(aG (Ad (ts.getD ti jJ))),(vN bi)]) O O call42) (λw hw=>VD (ts.getD ti jJ) bi w) O (BE O) (AC (v:=(qa (Gh (ts.getD ti jJ) bi))) (AQ O O) O (oNl' (zT Cc (xS _))))))))))
      ·refine zK (k:=112) (u:=qa false) O (by rw [hg1]) ?_
       have hg1':=hg1
       skip
       exact BD O (BD O (BD O (BD O (BD O (BD O (BD O (AC (v:=(qa false)) (AL O O) O (oNl' (zT Cc (xS _))))))))))
     refine oNl' (zB (sL [1,2,3,4,12,13,15,14,120] O) (zA ?_))
     refine zL O (λhc8=>?_) (λhc8=>?_)
     ·simp only [jK] at hc8
      refine zD (AM O (AC (AR (c:=((cn+1:Nat):Int)) O O (AS (a:=cn) (b:=1) Z)) O (asg' O (oNl' (zB (sL [1,2,3,4,12,13,15,14] O) (zF (zA (zD (AM O (AC (AR (c:=((ti+1:Nat):Int)) O O (AS (a:=ti) (b:=1) Z)) O (asg' O ?_)))))))))))
      exact oNl' (zB (sL [1,2,3,4,12,13,15,14] O) (zn (ti+1) (cn+1) (⟨Z,Z,by rw [hcw];exact (Ug hc8).symm⟩) Z (sF O) sr))
     ·simp only [jK] at hc8
      exact zC (zF (zA (zD (AM O (AC (AR (c:=((ti+1:Nat):Int)) O O (AS (a:=ti) (b:=1) Z)) O (asg' O (oNl' (zB (sL [1,2,3,4,12,13,15,14] O) (zn (ti+1) cn (⟨Z,Z,by rw [hcw];exact (Xg hc8).symm⟩) Z (sF O) sr)))))))))
    ·replace hc7:=xT hc7
     have hte:ti=ts.length:=by omega
     rw [hte] at hcw
     refine zU (zO (zm (zR (q2 (AM O (AC (BM (c:=(decide (cn=1))) O O (Mz (a:=cn) (b:=1))) O (oNl' (zB (sL [1,2,3,4,12,13,15,14,124] O) (zA ?_)))))))))
     refine zL O (λhc9=>?_) (λhc9=>?_)
     ·replace hc9:=xU hc9
      refine zD (AC (v:=(pP b3 2)) (AA O underlying87 O sizeOf28 O) O (BA 5 (qz p5 sq9.length c5) CM O (AM O (AM O (AM O (AM O (AC (Bv (c:=((3*bi:Nat):Int)) O O (DO (a:=3) (b:=bi) Z)) O (AC (AR (c:=((ai+(3*bi):Nat):Int)) O O (AS (a:=ai) (b:=3*bi) Z)) O (AC (v:=(pP b1 8)) (AA O underlying26 O sizeOf5 O) O (BA 7 (vK .u8 m.fst) Wl O (AC (Ar (c:=((m.fst:Nat):Int)) O underlying5 underlying3 (CC Z)) O ?_)))))))))))
      refine AC (AR (c:=(((ai+(3*bi))+m.fst:Nat):Int)) O O (AS (a:=ai+(3*bi)) (b:=m.fst) Z)) O (AC (B7 (c:=((((ai+(3*bi))+m.fst)%5:Nat):Int)) O O Z (IE (a:=(ai+(3*bi))+m.fst) (b:=5))) O (AC (v:=(aG (Ad (ai,bi,((ai+(3*bi))+m.fst)%5)))) (Af (zs:=Ad jJ) (vs:=Ad (ai,bi,((ai+(3*bi))+m.fst)%5)) (pv:=[(0,(vN ai)),(1,(vN bi)),(2,(vN (((ai+(3*bi))+m.fst)%5)))]) zeroValue71 underlying71 sizeOf3 O (L0 ai bi (((ai+(3*bi))+m.fst)%5))) O (ze (V:=λb4=>(qz (jk b4) 1 1)) (T:=71) (cs:=Ad (ai,bi,((ai+(3*bi))+m.fst)%5)) (AK O) (A7 (z:=.agg (Ad jJ).toArray) (cs:=Ad (ai,bi,((ai+(3*bi))+m.fst)%5)) (pv:=[(0,(aG (Ad (ai,bi,((ai+(3*bi))+m.fst)%5))))]) underlying28 sizeOf71 zeroValue71 jY jY O (HD (ai,bi,((ai+(3*bi))+m.fst)%5))) O (BE O) λb4=>zu 3 (j:=0) (cs2:=rowsL Ad (sq9++[(ai,bi,((ai+(3*bi))+m.fst)%5)])) am O h5 (Ac An _) O O O O O jY (Mb Z) Z (by rw [Ba];rfl) O λp_8 c_8 ho_8 hne_8=>AC (v:=(pP b3 2)) (AA O underlying87 O sizeOf28 O) O (Fm 6 (off:=2) (vs:=[(qz p_8 (sq9.length+1) c_8)]) (cs':=[(qz s.p2 s.pl.length s.c2),(qz p3 ts.length c3),(qz p_8 (sq9.length+1) c_8)]) (AK O) O sizeOf28 O (oNl' (zB (sL [1,2,3,4,12,13,15,14] O) (zF (zA (zD ?_)))))))))
      refine AM O (AC (AR (c:=((bi+1:Nat):Int)) O O (AS (a:=bi) (b:=1) Z)) O (asg' O (oNl' (zB (sL [1,2,3,4,12,13,15,14] O) ?_))))
      rw [show sq9.length+1=(sq9++[(ai,bi,((ai+(3*bi))+m.fst)%5)]).length by simp]
      exact z7 (bi+1) p_8 c_8 (sq9++[(ai,bi,((ai+(3*bi))+m.fst)%5)]) (⟨Z,Z,(by simpa using ho_8),by rw [xM];simp only [List.length_singleton];omega,(by rw [hsq];exact WJ Z (by rw [<-hcw,hc9]))⟩) Z (sF O) (sl sr)
     ·replace hc9:=xT hc9
      exact zC (zF (zA (zD (AM O (AC (AR (c:=((bi+1:Nat):Int)) O O (AS (a:=bi) (b:=1) Z)) O (asg' O (oNl' (zB (sL [1,2,3,4,12,13,15,14] O) (z7 (bi+1) p5 c5 sq9 (⟨Z,Z,h5,Z,(by rw [hsq];exact Yq Z (by rw [<-hcw];exact hc9))⟩) Z (sF O) sr)))))))))
   ·replace hc6:=xT hc6
    exact zU (zO (yB (zR (zF (zA (zD (AM O (AC (AR (c:=((ai+1:Nat):Int)) O O (AS (a:=ai) (b:=1) Z)) O (asg' O (oNl' (zB (sL [1,2,3,4,12,13] O) (z7 (ai+1) p5 c5 sq9 (⟨Z,h5,Z,by rw [hsq,show bi=s.pl.length by omega];rfl⟩) Z (sF O) sr))))))))))))
  ·replace hc5:=xT hc5
   exact zU (zO (yB (zR (q2 (Ai 5 eD O (Fm 6 (off:=0) (vs:=[(qz s.p2 s.pl.length s.c2),(qz p3 ts.length c3),(qz p4 ss.length c4)]) (cs':=[(qz s.p2 s.pl.length s.c2),(qz p3 ts.length c3),(qz p4 ss.length c4)]) (AK O) O sizeOf87 O (oNl' (zB (sL [1,2,3,4,12] O) (zA (zH (ret_one O (Ap (i:=6) (cs:=[(qz s.p2 s.pl.length s.c2),(qz p3 ts.length c3),(qz p4 ss.length c4)]) O O isAgg87 sizeOf87 O) (λw hw=>(cB hw (WM.mk s.pl ts ss hv hs.dst Z (by rw [hsd,show ai=s.pl.length by omega]) ⟨s.p2,s.c2,hs.o2.row⟩ ⟨p3,c3,h3.row⟩ ⟨p4,c4,h4.row⟩) h3 3 O (GS (S:=λ_=>False) hw 4 O hs.o2 (by rw [Ac F5];simp [WS.pts])) (GS (S:=λ_=>False) hw 3 O h3 (Ac An _)) (GS (S:=λ_=>False) hw 2 O h4 (Ac An _)) O)))))))))))))
end
end Go.Proofs.YtbfdamnfcmefmaaGreatDoor
