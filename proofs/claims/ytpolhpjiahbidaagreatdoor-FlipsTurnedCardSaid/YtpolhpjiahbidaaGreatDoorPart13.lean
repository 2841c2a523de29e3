import Derived.Test.YtpolhpjiahbidaaGreatDoorPart12
namespace Go.Proofs.YtpolhpjiahbidaaGreatDoor
open Go Go.RowKit Go.Proofs.Tryz
open Go.Value renaming slice→qz,bool→qa
set_option linter.unusedVariables false
set_option linter.unusedSimpArgs false
section
set_option maxRecDepth 100000
theorem WD:ElemT prog 233 113 2 16:=⟨underlying233,FC jV⟩
theorem Yc:ElemT prog 23 105 3 24:=⟨underlying23,FC jV⟩
theorem WC:ElemT prog 175 179 2 16:=⟨underlying175,FC jV⟩
theorem Uj (t:Tq3) (x:Nat) (w:World)  :Calls prog 166 #[(aG (Ac t)),(vN x)] w (Ad w (qa (Gk t x))):=by
 refine AY (args:=[(aG (Ac t)),(vN x)]) func166 O O (BA O) (zM (sL [0,1] O) (q4 (BV (cs:=Ac t) O λb1=>asg' O (q3 (sL [1,2,4] O) (AD (v:=(pP b1 0)) (AB (j:=0) O O underlying105 sizeOf3 O jY O) O (BF 0 (vN t.1) Bm O (AL O (AD (BL (c:=(decide (t.1=x))) O O (N9 (a:=t.1) (b:=x))) O (AL O ?_)))))))))
 refine ze (FM:=[(1,(vN x)),(2,(pP b1 0)),(4,(qa false)),(5,(pP b1 0)),(6,(vN t.1)),(7,(vN x)),(8,(qa (decide (t.1=x)))),(9,(qa (decide (t.1=x)))),(14,(qa ((decide (t.1=x))||(decide (t.2.1=x)))))]) (LM:=[AX b1 105 (Ac t)]) 5 ?_ ?_
 ·rcases xQ (decide (t.1=x)) with hg1|hg1
  ·refine zI (k:=9) (u:=qa true) O (by rw [hg1]) ?_
   have hg1':=xT hg1
   exact BO O (BO O (BO O (BO O (AD (v:=(qa true)) (AW O O) O (oNl' (zR Cc (xR _)))))))
  ·refine zI (k:=9) (u:=qa false) O (by rw [hg1]) ?_
   have hg1':=xS hg1
   exact BM (v:=(pP b1 1)) O (AB (j:=1) O O underlying105 sizeOf3 O jY O) (BM (v:=(vN t.2.1)) O (AH (i:=0) (v:=(vN t.2.1)) O O Bm.a O) (Hk O (BM (v:=(qa (decide (t.2.1=x)))) O (BL (c:=(decide (t.2.1=x))) O O (N9 (a:=t.2.1) (b:=x))) (AD (v:=(qa (decide (t.2.1=x)))) (AQ O O) O (oNl' (zR Cc (xR _)))))))
 refine AL O ?_
 refine ze (FM:=[(1,(vN x)),(2,(pP b1 0)),(4,(qa false)),(5,(pP b1 0)),(6,(vN t.1)),(7,(vN x)),(8,(qa (decide (t.1=x)))),(9,(qa (decide (t.1=x)))),(14,(qa ((decide (t.1=x))||(decide (t.2.1=x))))),(15,(qa ((decide (t.1=x))||(decide (t.2.1=x))))),(20,(qa (((decide (t.1=x))||(decide (t.2.1=x)))||(decide (t.2.2=x)))))]) (LM:=[AX b1 105 (Ac t)]) 5 ?_ ?_
 ·rcases xQ ((decide (t.1=x))||(decide (t.2.1=x))) with hg2|hg2
  ·refine zI (k:=15) (u:=qa true) O (by rw [hg2]) ?_
   have hg2':=hg2
   simp only [jK] at hg2'
   exact BO O (BO O (BO O (BO O (AD (v:=(qa true)) (AW O O) O (oNl' (zR Hi (xR _)))))))
  ·refine zI (k:=15) (u:=qa false) O (by rw [hg2]) ?_
   have hg2':=hg2
   simp only [jK] at hg2'
   exact BM (v:=(pP b1 2)) O (AB (j:=2) O O underlying105 sizeOf3 O jY O) (BM (v:=(vN t.2.2)) O (AH (i:=0) (v:=(vN t.2.2)) O O Bm.a O) (Hk O (BM (v:=(qa (decide (t.2.2=x)))) O (BL (c:=(decide (t.2.2=x))) O O (N9 (a:=t.2.2) (b:=x))) (AD (v:=(qa (decide (t.2.2=x)))) (AQ O O) O (oNl' (zR Hi (xR _)))))))
 exact asg' O (oNl' (zB (sL [4] O) (zA (zF (ret_one O (rd_tmp (v:=(qa (((decide (t.1=x))||(decide (t.2.1=x)))||(decide (t.2.2=x))))) O) (λw hw=>⟨by first|rfl|simp [Gk,Bool.or_assoc],hw.out⟩))))))
theorem En (x0:P2):Instr.fill (λi=>some (i*2,2)) ((Array.range (1*2)).map ((Value.agg (A6 ((0,0):P2)).toArray).cells[·%(Value.agg (A6 ((0,0):P2)).toArray).cells.size]!)) [(0,.agg (A6 x0).toArray)]=some (A6 x0).toArray:=by kernel_rfl
theorem Eo (x0:Int×Int):Instr.fill (λi=>some (i*2,2)) ((Array.range (1*2)).map ((Value.agg (CW ((0,0):Int×Int)).toArray).cells[·%(Value.agg (CW ((0,0):Int×Int)).toArray).cells.size]!)) [(0,.agg (CW x0).toArray)]=some (CW x0).toArray:=by kernel_rfl
theorem Gj (x0:Tq3):Instr.fill (λi=>some (i*3,3)) ((Array.range (1*3)).map ((Value.agg (Ac jJ).toArray).cells[·%(Value.agg (Ac jJ).toArray).cells.size]!)) [(0,.agg (Ac x0).toArray)]=some (Ac x0).toArray:=by kernel_rfl
theorem Jy (x0 x1 x2:Nat):Instr.fill (λi=>some (i*1,1)) (Ac jJ).toArray [(0,vN x0),(1,vN x1),(2,vN x2)]=some (Ac (x0,x1,x2)).toArray:=by kernel_rfl
set_option maxHeartbeats 2000000 in
theorem QA (m:MQ) (w:World) {S:Nat->Prop} (hm:Ro S w m):Calls prog 100 #[(aG (Eu m))] w (Bf (ZK m) (λ_=>False) w):=by
 have hf:=m.hfst
 have hf3:m.fst/3<=85:=by omega
 have lm:=Da (W:=w) hm
 refine Ah (args:=[(aG (Eu m))]) (L:=[AF m.p (C5 m.cs)]) func100 O O (BA O) (Db hm A7) (zM (sL [0] O) (q4 (BV (cs:=Eu m) O λb1=>al WH O λb2=>q3 (sL [1,2] O) (al WH O λb3=>zo 179 2 (zo 105 3 (zo 105 3 (oNl' (q2 ?_))))))))
 refine asg' O (zo 113 2 (oNl' (q2 (Al 6 Nx O (cX (S:=S) (cs:=rowsL A9 (Av m)) (k:=(Av m).length) (args:=[(aG (Eu m))]) call164 (λw hw=>SP m w (Co hw 7 O lm)) O O O λgc lgc=>asg' O (q6 (sL [1,2,3,4,5] O) (q4 (asg' O (oNl' (zA ?_))))))))))
 refine zJ ?_
 refine OkC.lp5 (tg λ(i:Nat) (s:WS) (p3:Option Addr) (c3:Nat) (ts:List (Tq3))=>i<=(Av m).length/\WS.Ok s/\OwnOk p3 ts.length c3/\NA m i (WS.pl s) ts) (tg λ(i:Nat) (s:WS) (p3:Option Addr) (c3:Nat) (ts:List (Tq3))=>[(1,(pP b1 0)),(2,(pP b2 0)),(3,(pP b3 0)),(5,(qz gc.p ((Av m).length) gc.c)),(6,(vN i)),(4,(qz s.p1 s.pl.length s.c1))]) (tg λ(i:Nat) (s:WS) (p3:Option Addr) (c3:Nat) (ts:List (Tq3))=>[AF gc.p (rowsL A9 (Av m)),rowW s.p1 113 2 s.pl.length s.c1 (rowsL A6 s.pl),rowW none 105 3 0 0 (rowsL Ac ([])),rowW p3 105 3 ts.length c3 (rowsL Ac ts),rowW s.p2 179 2 s.pl.length s.c2 (rowsL CW (s.pts m)),AX b3 177 ([(qz s.p2 s.pl.length s.c2),(qz p3 ts.length c3),jj]),AX b2 177 ([jj,jj,jj]),AX b1 90 (Eu m),AF m.p (C5 m.cs)]) (tg λ(i:Nat) (s:WS) (p3:Option Addr) (c3:Nat) (ts:List (Tq3))=>(Av m).length-i) 0 (WS.mk [] none 0 none 0) none 0 ([]:List (Tq3)) (⟨xJ _,⟨OwnOk.none,OwnOk.none,(λp hp=>by cases hp),XN⟩,OwnOk.none,bf m⟩) (sF O) sr (λi s p3 c3 ts hJ=>?_)
 obtain ⟨hi,hs,h3,hv⟩:=hJ
 have hpl:=hv.pll
 have htl:=hv.tl
 have hcl:=Ht m
 refine zX (q4 (AL O (AL O (AD (v:=(vN ((Av m).length))) (AE O underlying234) O (AD (Aa (c:=(decide (i<((Av m).length)))) O O (DB (a:=i) (b:=(Av m).length))) O (oNl' (zB (sL [1,2,3,5,6,4,21] O) (zA ?_))))))))
 refine zL O (λhc0=>?_) (λhc0=>?_)
 ·replace hc0:=xT hc0
  refine zC (q1 (zJ (q4 (al HA O λb4=>oNl' (q1 (q4 (asg' O (oNl' (zA (zJ ?_))))))))))
  refine yC 4 (zf (zX (q4 (AL O (AD (Aa (c:=true) O O jY) O (oNl' (zB (sL [1,2,3,5,6,4,7,8,25] O) (zA (zV O (zC (q1 ?_)))))))))))
  refine zJ (zX (DC (Er 18++[(18,false),(19,false)]) sr (By O (By O (By O (Am (v:=(pP b1 8)) O (AA O underlying90 O sizeOf5 O) (BU 8 (vK .u8 m.fst) WG O (Am O (Au (c:=((m.fst:Nat):Int)) O underlying5 underlying3 (CJ Z)) (Am O (AT (c:=((0+m.fst:Nat):Int)) O O (AV (a:=0) (b:=m.fst) Z)) (By O (Am (v:=(pP b1 8)) O (AA O underlying90 O sizeOf5 O) ?_)))))))))))
  refine BU 8 (vK .u8 m.fst) WG O (Am O (Gy (c:=((m.fst/3:Nat):Int)) O O Z (Ns (a:=m.fst) (b:=3) Z)) (Am O (Au (c:=((m.fst/3:Nat):Int)) O underlying5 underlying3 (CJ Z)) ?_))
  have hmul:i*(m.fst/3)<=36*85:=Nat.mul_le_mul Z hf3
  refine Am O (Bx (c:=((i*(m.fst/3):Nat):Int)) O O (DP (a:=i) (b:=m.fst/3) Z)) (Am O (AT (c:=(((0+m.fst)+(i*(m.fst/3)):Nat):Int)) O O (AV (a:=0+m.fst) (b:=i*(m.fst/3)) Z)) ?_)
  obtain ⟨r9,hr9⟩:∃r,r=G4 m i 0:=⟨_,rfl⟩
  have hr3:r9<3:=by rw [hr9];exact Nat.mod_lt _ jY
  refine Am O (CB (c:=((r9:Nat):Int)) O O jY (by rw [hr9];exact Ij (a:=0+m.fst+i*(m.fst/3)) (b:=3))) (Am (v:=(pP (pB gc.p) (pO gc.p+i*6))) O (AM (j:=i) O O gc.ok underlying234 sizeOf236 O Z) (Am (v:=(pP (pB gc.p) (pO gc.p+(i*6+r9*2)))) O (AB (j:=r9) O O underlying236 sizeOf113 O hr3 (Nat.add_assoc _ _ _)) (Am (v:=(aG (A6 (Ai m i 0)))) O (AO (vs:=A6 (Ai m i 0)) (i:=1) O O (Ay.ne gc.ok Z) Bq (JO _ i r9 Z hr3 _ O _ (by rw [hr9];rfl)) O) (zN O (al Jj O λb5=>zD (sl sr) (zN O (Ag O sizeOf113 O (zD (sl sr) (zQ (zB (sL [1,2,3,5,6,4,7,8,9] O) ?_))))))))))
  refine q2 (asg' O (oNl' (q1 (q4 (asg' O (oNl' (zA (zJ ?_))))))))
  refine yG (tg λ(k:Nat) (a:Int)=>k<=s.pl.length/\((a = -1/\∀j,j<k->s.pl.getD j (0,0)≠Ai m i 0)\/0<=a/\a<(k:Int)/\s.pl.getD (Int.toNat a) (0,0)=Ai m i 0)) (tg λ(k:Nat) (a:Int)=>[(1,(pP b1 0)),(2,(pP b2 0)),(3,(pP b3 0)),(5,(qz gc.p ((Av m).length) gc.c)),(6,(vN i)),(4,(qz s.p1 s.pl.length s.c1)),(7,(pP b4 0)),(8,(vI 0)),(9,(pP b5 0)),(11,(vN k)),(10,(vI a))]) (tg λ(k:Nat) (a:Int)=>[AX b5 113 (A6 (Ai m i 0)),AX b4 105 (Ac jJ),AF gc.p (rowsL A9 (Av m)),rowW s.p1 113 2 s.pl.length s.c1 (rowsL A6 s.pl),rowW none 105 3 0 0 (rowsL Ac ([])),rowW p3 105 3 ts.length c3 (rowsL Ac ts),rowW s.p2 179 2 s.pl.length s.c2 (rowsL CW (s.pts m)),AX b3 177 ([(qz s.p2 s.pl.length s.c2),(qz p3 ts.length c3),jj]),AX b2 177 ([jj,jj,jj]),AX b1 90 (Eu m),AF m.p (C5 m.cs)]) (tg λ(k:Nat) (a:Int)=>s.pl.length-k) 0 (-1:Int) (⟨xJ _,.inl ⟨rfl,λj hj=>absurd hj (Nat.not_lt_zero _)⟩⟩) (sF O) sr (λk a hJ=>?_)
  obtain ⟨hk,ha⟩:=hJ
  refine zX (q4 (AL O (AL O (AD (v:=(vN s.pl.length)) (AE O underlying233) O (AD (Aa (c:=(decide (k<s.pl.length))) O O (DB (a:=k) (b:=s.pl.length))) O (oNl' (zB (sL [1,2,3,5,6,4,7,8,9,11,10,49] O) (zA ?_))))))))
  refine zL O (λhc2=>?_) (λhc2=>?_)
  ·replace hc2:=xT hc2
   refine zC (q1 (zJ (zX (DC (Er 6) sr (By O (By O (Am (v:=(pP (pB s.p1) (pO s.p1+k*2))) O (AM (j:=k) O O hs.o1.row underlying233 sizeOf113 O Z) (Am (v:=(aG (A6 (s.pl.getD k ((0,0):P2))))) O (Br (vs:=A6 (s.pl.getD k ((0,0):P2))) (i:=3) O O hs.o1 (AS C7 _) (Ay.ne hs.o1.row Z) Bq (Af C7 _ _ _ Z) (C7 _)) (Ew 0 Bq O (Am O (B0 (c:=decide (s.pl.getD k ((0,0):P2)=(Ai m i 0))) O O eqGuardType113 (NP 9998 (s.pl.getD k ((0,0):P2)) (Ai m i 0))) (zQ ?_)))))))))))
   refine zB (sL [1,2,3,5,6,4,7,8,9,11,10,57] O) (zA ?_)
   refine zL O (λhc3=>?_) (λhc3=>?_)
   ·replace hc3:=xT hc3
    refine zH (AL O (asg' O (oNl' (zB (sL [1,2,3,5,6,4,7,8,9,11,10] O) (zG (zA (zH (AL O (AD (AT (c:=((k+1:Nat):Int)) O O (AV (a:=k) (b:=1) Z)) O (asg' O (oNl' ?_)))))))))))
    exact zB (sL [1,2,3,5,6,4,7,8,9,11,10] O) (zn (k+1) (k:Int) (⟨Z,.inr ⟨Z,Z,by simpa using hc3⟩⟩) Z (sF O) sr)
   ·replace hc3:=xS hc3
    exact zC (zG (zA (zH (AL O (AD (AT (c:=((k+1:Nat):Int)) O O (AV (a:=k) (b:=1) Z)) O (asg' O (oNl' (zB (sL [1,2,3,5,6,4,7,8,9,11,10] O) (zn (k+1) a (⟨Z,ha.elim (λh=>.inl ⟨h.1,λj hj=>by rcases Nat.lt_or_ge j k with h1|h1;exact h.2 j h1;(obtain rfl:j=k:=by omega);simpa using hc3⟩) (λh=>.inr ⟨h.1,Z,h.2.2⟩)⟩) Z (sF O) sr)))))))))
  ·replace hc2:=xS hc2
   refine zU (zO (zm (zP (q1 (q4 (AL O (AD (Aa (c:=(decide (a<(0:Int)))) O O O) O (oNl' (zB (sL [1,2,3,5,6,4,7,8,9,11,10,60] O) (zA ?_))))))))))
   refine yi (tg λ(s1:WS) (n1:Nat)=>WS.Ok s1/\GF s.pl (WS.pl s1)/\(WS.pl s1).length<=s.pl.length+1/\n1<(WS.pl s1).length/\(WS.pl s1).getD n1 (0,0)=Ai m i 0/\(∀a,a<(WS.pl s1).length->a<s.pl.length\/a=n1)/\(WS.pl s1,n1)=GU s.pl (Ai m i 0)) (tg λ(s1:WS) (n1:Nat)=>[(1,(pP b1 0)),(2,(pP b2 0)),(3,(pP b3 0)),(5,(qz gc.p ((Av m).length) gc.c)),(6,(vN i)),(7,(pP b4 0)),(8,(vI 0)),(10,(vN n1)),(4,(qz s1.p1 s1.pl.length s1.c1))]) (tg λ(s1:WS) (n1:Nat)=>[AX b5 113 (A6 (Ai m i 0)),AX b4 105 (Ac jJ),AF gc.p (rowsL A9 (Av m)),rowW s1.p1 113 2 s1.pl.length s1.c1 (rowsL A6 s1.pl),rowW none 105 3 0 0 (rowsL Ac ([])),rowW p3 105 3 ts.length c3 (rowsL Ac ts),rowW s1.p2 179 2 s1.pl.length s1.c2 (rowsL CW (s1.pts m)),AX b3 177 ([(qz s1.p2 s1.pl.length s1.c2),(qz p3 ts.length c3),jj]),AX b2 177 ([jj,jj,jj]),AX b1 90 (Eu m),AF m.p (C5 m.cs)]) ?_ ?_
   ·refine zL O (λhc4=>?_) (λhc4=>?_)
    ·replace hc4:=xT hc4
     refine q4 (AL O (AD (v:=(vN s.pl.length)) (AE O underlying233) O (asg' O (q3 (sL [1,2,3,5,6,4,7,8,9,11,10] O) (AL O (Al 0 Bq O (zZ (V:=λb6=>(qz (jk b6) 1 1)) (T:=113) (cs:=A6 (Ai m i 0)) (AI O) (Az (z:=.agg (A6 ((0,0):P2)).toArray) (cs:=A6 (Ai m i 0)) (pv:=[(0,(aG (A6 (Ai m i 0))))]) underlying233 sizeOf113 zeroValue113 jY jY O (En (Ai m i 0))) O (BA O) λb6=>zr 4 (j:=0) (cs2:=rowsL A6 (s.pl++[(Ai m i 0)])) WD O hs.o1 (AS C7 _) O O O O O jY (LG Z) Z (by rw [Bd];rfl) O λp_1 c_1 ho_1 hne_1=>asg' O (oNl' (zB (sL [1,2,3,5,6,4,7,8,9,11,10] O) ?_)))))))))
     refine zA (rC [(0,true),(1,true),(2,true),(3,true),(4,false),(5,false),(6,false),(7,true)] 8 [] (sk (sk (sk (sk (sk (sk (sk (sl sr)))))))) (sk (sk (sk (sk (sk (sk (sk (sl sr)))))))) jV (λ_ _ d _ _ h=>by cases d<;>exact h) (vE (v:=(pP b3 0)) O (AA O underlying177 O sizeOf175 O) O (vE O (AH (i:=7) (v:=(qz s.p2 s.pl.length s.c2)) O O M1.a O) O (vE (v:=(aG (Eu m))) O (Aj (i:=9) (vs:=Eu m) O O Nx.a Nx.s O O) O (vE (v:=(aG (A6 (Ai m i 0)))) O (Aj (i:=1) (vs:=A6 (Ai m i 0)) O O Bq.a Bq.s O O) O (zx O (DH call165 (λw hw=>JB m (Ai m i 0) (EQ Z) w (Co hw 11 O lm)) O (zu (sk (sk (sk (sk (sk (sk (sk (sl sr)))))))) (zx O (zZ (V:=λb7=>(qz (jk b7) 1 1)) (T:=179) (cs:=CW ((mapM m).at_ (Ai m i 0))) (AI O) (Az (z:=.agg (CW ((0,0):Int×Int)).toArray) (cs:=CW ((mapM m).at_ (Ai m i 0))) (pv:=[(0,(aG (CW ((mapM m).at_ (Ai m i 0)))))]) underlying175 sizeOf179 zeroValue179 jY jY O (Eo ((mapM m).at_ (Ai m i 0)))) O (BA O) λb7=>zu (sl (sk (sk (sk (sk (sk (sk (sk (sl sr))))))))) ?_))))))))))
     refine zx O (zr 8 (j:=0) (cs2:=rowsL CW ((s.pts m)++[((mapM m).at_ (Ai m i 0))])) WC O hs.o2 (by rw [AS F2];simp [WS.pts]) O O O O O jY (LG Z) Z (by rw [Bd];rfl) O λp_2 c_2 ho_2 hne_2=>zu (sl (sk (sk (sk (sk (sk (sk (sk (sl sr))))))))) (vE (v:=(pP b3 0)) O (AA O underlying177 O sizeOf175 O) O (yJ O (F8 9 (off:=0) (vs:=[(qz p_2 (s.pl.length+1) c_2)]) (cs':=[(qz p_2 (s.pl.length+1) c_2),(qz p3 ts.length c3),jj]) (AI O) O sizeOf175 O (zD (sl (sk (sk (sk (sk (sk (sk (sk (sl (sl sr)))))))))) (zQ (zB (sL [1,2,3,5,6,4,7,8,9,11,10] O) ?_)))))))
     rw [show s.pl.length+1=(s.pl++[Ai m i 0]).length by simp]
     rw [show s.pts m++[(mapM m).at_ (Ai m i 0)]=WS.pts (WS.mk (s.pl++[Ai m i 0]) p_1 c_1 p_2 c_2) m by simp [WS.pts]]
     exact yI (WS.mk (s.pl++[Ai m i 0]) p_1 c_1 p_2 c_2) s.pl.length (⟨⟨(by simpa using ho_1),(by simpa using ho_2),λp hp=>(List.mem_append.1 hp).elim (hs.small p) (λe=>by rw [xO.1 e];exact EQ Z),Kn hs.dst (λj hj=>(ha.elim id (λh=>absurd h.1 Z)).2 j Z)⟩,GF.snoc _ _,by simp,by simp,DM _ _,λa ha=>by simp only [xL,List.length_singleton] at ha;omega,LX λj hj=>(ha.elim id (λh=>absurd h.1 Z)).2 j Z⟩) (sF O) (sl (sl sr))
    ·replace hc4:=xS hc4
     refine yP (k:=10) (u:=(vN a.toNat)) O (by show Value.int _ _=Value.int _ _;congr 1;omega) (zC ?_)
     obtain ⟨ha1,ha2,ha3⟩:=ha.resolve_left (λh=>by have:=h.1;omega)
     exact yI s a.toNat (⟨hs,GF.refl _,Z,Z,ha3,(λa ha=>.inl ha),LY hs.dst Z ha3⟩) (sF O) sr
   ·intro s1 n1 hJ
    obtain ⟨hs1,hm1,hl1,hn1,hg1,hu1,hf1⟩:=hJ
    refine zA (zH (AL O (AL O (AD (v:=(pP b4 0)) (AB (j:=0) O O underlying105 sizeOf3 O jY O) O (F8 1 (off:=0) (vs:=[(vN n1)]) (cs':=[(vN n1),(vI 0),(vI 0)]) (AI O) O sizeOf3 O (oNl' (zB (sL [1,2,3,5,6,7,8,10,4] O) (zG (zA (zH (AL O ?_)))))))))))
    refine AD (AT (c:=(1:Int)) O O jY) O (asg' O (oNl' (zB (sL [1,2,3,5,6,7,8,10,4] O) (zk (zf (zX (q4 (AL O (AD (Aa (c:=true) O O jY) O (oNl' (zB (sL [1,2,3,5,6,7,8,10,4,25] O) ?_)))))))))))
    refine zA (zV O (zC (q1 (zJ (zX (DC (Er 18++[(18,false),(19,false)]) sr (By O (By O (By O (Am (v:=(pP b1 8)) O (AA O underlying90 O sizeOf5 O) (BU 9 (vK .u8 m.fst) WG O ?_)))))))))))
    refine Am O (Au (c:=((m.fst:Nat):Int)) O underlying5 underlying3 (CJ Z)) (Am O (AT (c:=((1+m.fst:Nat):Int)) O O (AV (a:=1) (b:=m.fst) Z)) (By O (Am (v:=(pP b1 8)) O (AA O underlying90 O sizeOf5 O) (BU 9 (vK .u8 m.fst) WG O (Am O (Gy (c:=((m.fst/3:Nat):Int)) O O Z (Ns (a:=m.fst) (b:=3) Z)) (Am O (Au (c:=((m.fst/3:Nat):Int)) O underlying5 underlying3 (CJ Z)) ?_))))))
    have hmul:i*(m.fst/3)<=36*85:=Nat.mul_le_mul Z hf3
    refine Am O (Bx (c:=((i*(m.fst/3):Nat):Int)) O O (DP (a:=i) (b:=m.fst/3) Z)) (Am O (AT (c:=(((1+m.fst)+(i*(m.fst/3)):Nat):Int)) O O (AV (a:=1+m.fst) (b:=i*(m.fst/3)) Z)) ?_)
    obtain ⟨r9,hr9⟩:∃r,r=G4 m i 1:=⟨_,rfl⟩
    have hr3:r9<3:=by rw [hr9];exact Nat.mod_lt _ jY
    refine Am O (CB (c:=((r9:Nat):Int)) O O jY (by rw [hr9];exact Ij (a:=1+m.fst+i*(m.fst/3)) (b:=3))) (Am (v:=(pP (pB gc.p) (pO gc.p+i*6))) O (AM (j:=i) O O gc.ok underlying234 sizeOf236 O Z) (Am (v:=(pP (pB gc.p) (pO gc.p+(i*6+r9*2)))) O (AB (j:=r9) O O underlying236 sizeOf113 O hr3 (Nat.add_assoc _ _ _)) (Am (v:=(aG (A6 (Ai m i 1)))) O (AO (vs:=A6 (Ai m i 1)) (i:=2) O O (Ay.ne gc.ok Z) Bq (JO _ i r9 Z hr3 _ O _ (by rw [hr9];rfl)) O) (zN O (al Jj O λb6=>zD (sl sr) (zN O (Ag O sizeOf113 O (zD (sl sr) (zQ (zB (sL [1,2,3,5,6,7,8,10,4,9] O) ?_))))))))))
    refine q2 (asg' O (oNl' (q1 (q4 (asg' O (oNl' (zA (zJ ?_))))))))
    refine yG (tg λ(k:Nat) (a:Int)=>k<=s1.pl.length/\((a = -1/\∀j,j<k->s1.pl.getD j (0,0)≠Ai m i 1)\/0<=a/\a<(k:Int)/\s1.pl.getD (Int.toNat a) (0,0)=Ai m i 1)) (tg λ(k:Nat) (a:Int)=>[(1,(pP b1 0)),(2,(pP b2 0)),(3,(pP b3 0)),(5,(qz gc.p ((Av m).length) gc.c)),(6,(vN i)),(7,(pP b4 0)),(8,(vI 1)),(4,(qz s1.p1 s1.pl.length s1.c1)),(9,(pP b6 0)),(11,(vN k)),(10,(vI a))]) (tg λ(k:Nat) (a:Int)=>[AX b6 113 (A6 (Ai m i 1)),AX b5 113 (A6 (Ai m i 0)),AX b4 105 ([(vN n1),(vI 0),(vI 0)]),AF gc.p (rowsL A9 (Av m)),rowW s1.p1 113 2 s1.pl.length s1.c1 (rowsL A6 s1.pl),rowW none 105 3 0 0 (rowsL Ac ([])),rowW p3 105 3 ts.length c3 (rowsL Ac ts),rowW s1.p2 179 2 s1.pl.length s1.c2 (rowsL CW (s1.pts m)),AX b3 177 ([(qz s1.p2 s1.pl.length s1.c2),(qz p3 ts.length c3),jj]),AX b2 177 ([jj,jj,jj]),AX b1 90 (Eu m),AF m.p (C5 m.cs)]) (tg λ(k:Nat) (a:Int)=>s1.pl.length-k) 0 (-1:Int) (⟨xJ _,.inl ⟨rfl,λj hj=>absurd hj (Nat.not_lt_zero _)⟩⟩) (sF O) sr (λk a hJ=>?_)
    obtain ⟨hk,ha⟩:=hJ
    refine zX (q4 (AL O (AL O (AD (v:=(vN s1.pl.length)) (AE O underlying233) O (AD (Aa (c:=(decide (k<s1.pl.length))) O O (DB (a:=k) (b:=s1.pl.length))) O (oNl' (zB (sL [1,2,3,5,6,7,8,4,9,11,10,49] O) (zA ?_))))))))
    refine zL O (λhc2=>?_) (λhc2=>?_)
    ·replace hc2:=xT hc2
     refine zC (q1 (zJ (zX (DC (Er 6) sr (By O (By O (Am (v:=(pP (pB s1.p1) (pO s1.p1+k*2))) O (AM (j:=k) O O hs1.o1.row underlying233 sizeOf113 O Z) (Am (v:=(aG (A6 (s1.pl.getD k ((0,0):P2))))) O (Br (vs:=A6 (s1.pl.getD k ((0,0):P2))) (i:=4) O O hs1.o1 (AS C7 _) (Ay.ne hs1.o1.row Z) Bq (Af C7 _ _ _ Z) (C7 _)) (Ew 0 Bq O (Am O (B0 (c:=decide (s1.pl.getD k ((0,0):P2)=(Ai m i 1))) O O eqGuardType113 (NP 9998 (s1.pl.getD k ((0,0):P2)) (Ai m i 1))) (zQ ?_)))))))))))
     refine zB (sL [1,2,3,5,6,7,8,4,9,11,10,57] O) (zA ?_)
     refine zL O (λhc3=>?_) (λhc3=>?_)
     ·replace hc3:=xT hc3
      refine zH (AL O (asg' O (oNl' (zB (sL [1,2,3,5,6,7,8,4,9,11,10] O) (zG (zA (zH (AL O (AD (AT (c:=((k+1:Nat):Int)) O O (AV (a:=k) (b:=1) Z)) O (asg' O (oNl' ?_)))))))))))
      exact zB (sL [1,2,3,5,6,7,8,4,9,11,10] O) (zn (k+1) (k:Int) (⟨Z,.inr ⟨Z,Z,by simpa using hc3⟩⟩) Z (sF O) sr)
     ·replace hc3:=xS hc3
      exact zC (zG (zA (zH (AL O (AD (AT (c:=((k+1:Nat):Int)) O O (AV (a:=k) (b:=1) Z)) O (asg' O (oNl' (zB (sL [1,2,3,5,6,7,8,4,9,11,10] O) (zn (k+1) a (⟨Z,ha.elim (λh=>.inl ⟨h.1,λj hj=>by rcases Nat.lt_or_ge j k with h1|h1;exact h.2 j h1;(obtain rfl:j=k:=by omega);simpa using hc3⟩) (λh=>.inr ⟨h.1,Z,h.2.2⟩)⟩) Z (sF O) sr)))))))))
    ·replace hc2:=xS hc2
     refine zU (zO (zm (zP (q1 (q4 (AL O (AD (Aa (c:=(decide (a<(0:Int)))) O O O) O (oNl' (zB (sL [1,2,3,5,6,7,8,4,9,11,10,60] O) (zA ?_))))))))))
     refine yi (tg λ(s2:WS) (n2:Nat)=>WS.Ok s2/\GF s1.pl (WS.pl s2)/\(WS.pl s2).length<=s1.pl.length+1/\n2<(WS.pl s2).length/\(WS.pl s2).getD n2 (0,0)=Ai m i 1/\(∀a,a<(WS.pl s2).length->a<s1.pl.length\/a=n2)/\(WS.pl s2,n2)=GU s1.pl (Ai m i 1)) (tg λ(s2:WS) (n2:Nat)=>[(1,(pP b1 0)),(2,(pP b2 0)),(3,(pP b3 0)),(5,(qz gc.p ((Av m).length) gc.c)),(6,(vN i)),(7,(pP b4 0)),(8,(vI 1)),(10,(vN n2)),(4,(qz s2.p1 s2.pl.length s2.c1))]) (tg λ(s2:WS) (n2:Nat)=>[AX b6 113 (A6 (Ai m i 1)),AX b5 113 (A6 (Ai m i 0)),AX b4 105 ([(vN n1),(vI 0),(vI 0)]),AF gc.p (rowsL A9 (Av m)),rowW s2.p1 113 2 s2.pl.length s2.c1 (rowsL A6 s2.pl),rowW none 105 3 0 0 (rowsL Ac ([])),rowW p3 105 3 ts.length c3 (rowsL Ac ts),rowW s2.p2 179 2 s2.pl.length s2.c2 (rowsL CW (s2.pts m)),AX b3 177 ([(qz s2.p2 s2.pl.length s2.c2),(qz p3 ts.length c3),jj]),AX b2 177 ([jj,jj,jj]),AX b1 90 (Eu m),AF m.p (C5 m.cs)]) ?_ ?_
     ·refine zL O (λhc4=>?_) (λhc4=>?_)
      ·replace hc4:=xT hc4
       refine q4 (AL O (AD (v:=(vN s1.pl.length)) (AE O underlying233) O (asg' O (q3 (sL [1,2,3,5,6,7,8,4,9,11,10] O) (AL O (Al 0 Bq O (zZ (V:=λb7=>(qz (jk b7) 1 1)) (T:=113) (cs:=A6 (Ai m i 1)) (AI O) (Az (z:=.agg (A6 ((0,0):P2)).toArray) (cs:=A6 (Ai m i 1)) (pv:=[(0,(aG (A6 (Ai m i 1))))]) underlying233 sizeOf113 zeroValue113 jY jY O (En (Ai m i 1))) O (BA O) λb7=>zr 5 (j:=0) (cs2:=rowsL A6 (s1.pl++[(Ai m i 1)])) WD O hs1.o1 (AS C7 _) O O O O O jY (LG Z) Z (by rw [Bd];rfl) O λp_3 c_3 ho_3 hne_3=>asg' O (oNl' (zB (sL [1,2,3,5,6,7,8,4,9,11,10] O) ?_)))))))))
       refine zA (rC [(0,true),(1,true),(2,true),(3,true),(4,false),(5,false),(6,false),(7,true)] 8 [] (sk (sk (sk (sk (sk (sk (sk (sk (sl sr))))))))) (sk (sk (sk (sk (sk (sk (sk (sk (sl sr))))))))) jV (λ_ _ d _ _ h=>by cases d<;>exact h) (vE (v:=(pP b3 0)) O (AA O underlying177 O sizeOf175 O) O (vE O (AH (i:=8) (v:=(qz s1.p2 s1.pl.length s1.c2)) O O M1.a O) O (vE (v:=(aG (Eu m))) O (Aj (i:=10) (vs:=Eu m) O O Nx.a Nx.s O O) O (vE (v:=(aG (A6 (Ai m i 1)))) O (Aj (i:=1) (vs:=A6 (Ai m i 1)) O O Bq.a Bq.s O O) O (zx O (DH call165 (λw hw=>JB m (Ai m i 1) (EQ Z) w (Co hw 12 O lm)) O (zu (sk (sk (sk (sk (sk (sk (sk (sk (sl sr))))))))) (zx O (zZ (V:=λb8=>(qz (jk b8) 1 1)) (T:=179) (cs:=CW ((mapM m).at_ (Ai m i 1))) (AI O) (Az (z:=.agg (CW ((0,0):Int×Int)).toArray) (cs:=CW ((mapM m).at_ (Ai m i 1))) (pv:=[(0,(aG (CW ((mapM m).at_ (Ai m i 1)))))]) underlying175 sizeOf179 zeroValue179 jY jY O (Eo ((mapM m).at_ (Ai m i 1)))) O (BA O) λb8=>zu (sl (sk (sk (sk (sk (sk (sk (sk (sk (sl sr)))))))))) ?_))))))))))
       refine zx O (zr 9 (j:=0) (cs2:=rowsL CW ((s1.pts m)++[((mapM m).at_ (Ai m i 1))])) WC O hs1.o2 (by rw [AS F2];simp [WS.pts]) O O O O O jY (LG Z) Z (by rw [Bd];rfl) O λp_4 c_4 ho_4 hne_4=>zu (sl (sk (sk (sk (sk (sk (sk (sk (sk (sl sr)))))))))) (vE (v:=(pP b3 0)) O (AA O underlying177 O sizeOf175 O) O (yJ O (F8 10 (off:=0) (vs:=[(qz p_4 (s1.pl.length+1) c_4)]) (cs':=[(qz p_4 (s1.pl.length+1) c_4),(qz p3 ts.length c3),jj]) (AI O) O sizeOf175 O (zD (sl (sk (sk (sk (sk (sk (sk (sk (sk (sl (sl sr))))))))))) (zQ (zB (sL [1,2,3,5,6,7,8,4,9,11,10] O) ?_)))))))
       rw [show s1.pl.length+1=(s1.pl++[Ai m i 1]).length by simp]
       rw [show s1.pts m++[(mapM m).at_ (Ai m i 1)]=WS.pts (WS.mk (s1.pl++[Ai m i 1]) p_3 c_3 p_4 c_4) m by simp [WS.pts]]
       exact yI (WS.mk (s1.pl++[Ai m i 1]) p_3 c_3 p_4 c_4) s1.pl.length (⟨⟨(by simpa using ho_3),(by simpa using ho_4),λp hp=>(List.mem_append.1 hp).elim (hs1.small p) (λe=>by rw [xO.1 e];exact EQ Z),Kn hs1.dst (λj hj=>(ha.elim id (λh=>absurd h.1 Z)).2 j Z)⟩,GF.snoc _ _,by simp,by simp,DM _ _,λa ha=>by simp only [xL,List.length_singleton] at ha;omega,LX λj hj=>(ha.elim id (λh=>absurd h.1 Z)).2 j Z⟩) (sF O) (sl (sl sr))
      ·replace hc4:=xS hc4
       refine yP (k:=10) (u:=(vN a.toNat)) O (by show Value.int _ _=Value.int _ _;congr 1;omega) (zC ?_)
       obtain ⟨ha1,ha2,ha3⟩:=ha.resolve_left (λh=>by have:=h.1;omega)
       exact yI s1 a.toNat (⟨hs1,GF.refl _,Z,Z,ha3,(λa ha=>.inl ha),LY hs1.dst Z ha3⟩) (sF O) sr
     ·intro s2 n2 hJ
      obtain ⟨hs2,hm2,hl2,hn2,hg2,hu2,hf2⟩:=hJ
      refine zA (zH (AL O (AL O (AD (v:=(pP b4 1)) (AB (j:=1) O O underlying105 sizeOf3 O jY O) O (F8 2 (off:=1) (vs:=[(vN n2)]) (cs':=[(vN n1),(vN n2),(vI 0)]) (AI O) O sizeOf3 O (oNl' (zB (sL [1,2,3,5,6,7,8,10,4] O) (zG (zA (zH (AL O ?_)))))))))))
      refine AD (AT (c:=(2:Int)) O O jY) O (asg' O (oNl' (zB (sL [1,2,3,5,6,7,8,10,4] O) (zk (zf (zX (q4 (AL O (AD (Aa (c:=true) O O jY) O (oNl' (zB (sL [1,2,3,5,6,7,8,10,4,25] O) ?_)))))))))))
      refine zA (zV O (zC (q1 (zJ (zX (DC (Er 18++[(18,false),(19,false)]) sr (By O (By O (By O (Am (v:=(pP b1 8)) O (AA O underlying90 O sizeOf5 O) (BU 10 (vK .u8 m.fst) WG O ?_)))))))))))
      refine Am O (Au (c:=((m.fst:Nat):Int)) O underlying5 underlying3 (CJ Z)) (Am O (AT (c:=((2+m.fst:Nat):Int)) O O (AV (a:=2) (b:=m.fst) Z)) (By O (Am (v:=(pP b1 8)) O (AA O underlying90 O sizeOf5 O) (BU 10 (vK .u8 m.fst) WG O (Am O (Gy (c:=((m.fst/3:Nat):Int)) O O Z (Ns (a:=m.fst) (b:=3) Z)) (Am O (Au (c:=((m.fst/3:Nat):Int)) O underlying5 underlying3 (CJ Z)) ?_))))))
      have hmul:i*(m.fst/3)<=36*85:=Nat.mul_le_mul Z hf3
      refine Am O (Bx (c:=((i*(m.fst/3):Nat):Int)) O O (DP (a:=i) (b:=m.fst/3) Z)) (Am O (AT (c:=(((2+m.fst)+(i*(m.fst/3)):Nat):Int)) O O (AV (a:=2+m.fst) (b:=i*(m.fst/3)) Z)) ?_)
      obtain ⟨r9,hr9⟩:∃r,r=G4 m i 2:=⟨_,rfl⟩
      have hr3:r9<3:=by rw [hr9];exact Nat.mod_lt _ jY
      refine Am O (CB (c:=((r9:Nat):Int)) O O jY (by rw [hr9];exact Ij (a:=2+m.fst+i*(m.fst/3)) (b:=3))) (Am (v:=(pP (pB gc.p) (pO gc.p+i*6))) O (AM (j:=i) O O gc.ok underlying234 sizeOf236 O Z) (Am (v:=(pP (pB gc.p) (pO gc.p+(i*6+r9*2)))) O (AB (j:=r9) O O underlying236 sizeOf113 O hr3 (Nat.add_assoc _ _ _)) (Am (v:=(aG (A6 (Ai m i 2)))) O (AO (vs:=A6 (Ai m i 2)) (i:=3) O O (Ay.ne gc.ok Z) Bq (JO _ i r9 Z hr3 _ O _ (by rw [hr9];rfl)) O) (zN O (al Jj O λb7=>zD (sl sr) (zN O (Ag O sizeOf113 O (zD (sl sr) (zQ (zB (sL [1,2,3,5,6,7,8,10,4,9] O) ?_))))))))))
      refine q2 (asg' O (oNl' (q1 (q4 (asg' O (oNl' (zA (zJ ?_))))))))
      refine yG (tg λ(k:Nat) (a:Int)=>k<=s2.pl.length/\((a = -1/\∀j,j<k->s2.pl.getD j (0,0)≠Ai m i 2)\/0<=a/\a<(k:Int)/\s2.pl.getD (Int.toNat a) (0,0)=Ai m i 2)) (tg λ(k:Nat) (a:Int)=>[(1,(pP b1 0)),(2,(pP b2 0)),(3,(pP b3 0)),(5,(qz gc.p ((Av m).length) gc.c)),(6,(vN i)),(7,(pP b4 0)),(8,(vI 2)),(4,(qz s2.p1 s2.pl.length s2.c1)),(9,(pP b7 0)),(11,(vN k)),(10,(vI a))]) (tg λ(k:Nat) (a:Int)=>[AX b7 113 (A6 (Ai m i 2)),AX b6 113 (A6 (Ai m i 1)),AX b5 113 (A6 (Ai m i 0)),AX b4 105 ([(vN n1),(vN n2),(vI 0)]),AF gc.p (rowsL A9 (Av m)),rowW s2.p1 113 2 s2.pl.length s2.c1 (rowsL A6 s2.pl),rowW none 105 3 0 0 (rowsL Ac ([])),rowW p3 105 3 ts.length c3 (rowsL Ac ts),rowW s2.p2 179 2 s2.pl.length s2.c2 (rowsL CW (s2.pts m)),AX b3 177 ([(qz s2.p2 s2.pl.length s2.c2),(qz p3 ts.length c3),jj]),AX b2 177 ([jj,jj,jj]),AX b1 90 (Eu m),AF m.p (C5 m.cs)]) (tg λ(k:Nat) (a:Int)=>s2.pl.length-k) 0 (-1:Int) (⟨xJ _,.inl ⟨rfl,λj hj=>absurd hj (Nat.not_lt_zero _)⟩⟩) (sF O) sr (λk a hJ=>?_)
      obtain ⟨hk,ha⟩:=hJ
      refine zX (q4 (AL O (AL O (AD (v:=(vN s2.pl.length)) (AE O underlying233) O (AD (Aa (c:=(decide (k<s2.pl.length))) O O (DB (a:=k) (b:=s2.pl.length))) O (oNl' (zB (sL [1,2,3,5,6,7,8,4,9,11,10,49] O) (zA ?_))))))))
      refine zL O (λhc2=>?_) (λhc2=>?_)
      ·replace hc2:=xT hc2
       refine zC (q1 (zJ (zX (DC (Er 6) sr (By O (By O (Am (v:=(pP (pB s2.p1) (pO s2.p1+k*2))) O (AM (j:=k) O O hs2.o1.row underlying233 sizeOf113 O Z) (Am (v:=(aG (A6 (s2.pl.getD k ((0,0):P2))))) O (Br (vs:=A6 (s2.pl.getD k ((0,0):P2))) (i:=5) O O hs2.o1 (AS C7 _) (Ay.ne hs2.o1.row Z) Bq (Af C7 _ _ _ Z) (C7 _)) (Ew 0 Bq O (Am O (B0 (c:=decide (s2.pl.getD k ((0,0):P2)=(Ai m i 2))) O O eqGuardType113 (NP 9998 (s2.pl.getD k ((0,0):P2)) (Ai m i 2))) (zQ ?_)))))))))))
       refine zB (sL [1,2,3,5,6,7,8,4,9,11,10,57] O) (zA ?_)
       refine zL O (λhc3=>?_) (λhc3=>?_)
       ·replace hc3:=xT hc3
        refine zH (AL O (asg' O (oNl' (zB (sL [1,2,3,5,6,7,8,4,9,11,10] O) (zG (zA (zH (AL O (AD (AT (c:=((k+1:Nat):Int)) O O (AV (a:=k) (b:=1) Z)) O (asg' O (oNl' ?_)))))))))))
        exact zB (sL [1,2,3,5,6,7,8,4,9,11,10] O) (zn (k+1) (k:Int) (⟨Z,.inr ⟨Z,Z,by simpa using hc3⟩⟩) Z (sF O) sr)
       ·replace hc3:=xS hc3
        exact zC (zG (zA (zH (AL O (AD (AT (c:=((k+1:Nat):Int)) O O (AV (a:=k) (b:=1) Z)) O (asg' O (oNl' (zB (sL [1,2,3,5,6,7,8,4,9,11,10] O) (zn (k+1) a (⟨Z,ha.elim (λh=>.inl ⟨h.1,λj hj=>by rcases Nat.lt_or_ge j k with h1|h1;exact h.2 j h1;(obtain rfl:j=k:=by omega);simpa using hc3⟩) (λh=>.inr ⟨h.1,Z,h.2.2⟩)⟩) Z (sF O) sr)))))))))
      ·replace hc2:=xS hc2
       refine zU (zO (zm (zP (q1 (q4 (AL O (AD (Aa (c:=(decide (a<(0:Int)))) O O O) O (oNl' (zB (sL [1,2,3,5,6,7,8,4,9,11,10,60] O) (zA ?_))))))))))
       refine yi (tg λ(s3:WS) (n3:Nat)=>WS.Ok s3/\GF s2.pl (WS.pl s3)/\(WS.pl s3).length<=s2.pl.length+1/\n3<(WS.pl s3).length/\(WS.pl s3).getD n3 (0,0)=Ai m i 2/\(∀a,a<(WS.pl s3).length->a<s2.pl.length\/a=n3)/\(WS.pl s3,n3)=GU s2.pl (Ai m i 2)) (tg λ(s3:WS) (n3:Nat)=>[(1,(pP b1 0)),(2,(pP b2 0)),(3,(pP b3 0)),(5,(qz gc.p ((Av m).length) gc.c)),(6,(vN i)),(7,(pP b4 0)),(8,(vI 2)),(10,(vN n3)),(4,(qz s3.p1 s3.pl.length s3.c1))]) (tg λ(s3:WS) (n3:Nat)=>[AX b7 113 (A6 (Ai m i 2)),AX b6 113 (A6 (Ai m i 1)),AX b5 113 (A6 (Ai m i 0)),AX b4 105 ([(vN n1),(vN n2),(vI 0)]),AF gc.p (rowsL A9 (Av m)),rowW s3.p1 113 2 s3.pl.length s3.c1 (rowsL A6 s3.pl),rowW none 105 3 0 0 (rowsL Ac ([])),rowW p3 105 3 ts.length c3 (rowsL Ac ts),rowW s3.p2 179 2 s3.pl.length s3.c2 (rowsL CW (s3.pts m)),AX b3 177 ([(qz s3.p2 s3.pl.length s3.c2),(qz p3 ts.length c3),jj]),AX b2 177 ([jj,jj,jj]),AX b1 90 (Eu m),AF m.p (C5 m.cs)]) ?_ ?_
       ·refine zL O (λhc4=>?_) (λhc4=>?_)
        ·replace hc4:=xT hc4
         refine q4 (AL O (AD (v:=(vN s2.pl.length)) (AE O underlying233) O (asg' O (q3 (sL [1,2,3,5,6,7,8,4,9,11,10] O) (AL O (Al 0 Bq O (zZ (V:=λb8=>(qz (jk b8) 1 1)) (T:=113) (cs:=A6 (Ai m i 2)) (AI O) (Az (z:=.agg (A6 ((0,0):P2)).toArray) (cs:=A6 (Ai m i 2)) (pv:=[(0,(aG (A6 (Ai m i 2))))]) underlying233 sizeOf113 zeroValue113 jY jY O (En (Ai m i 2))) O (BA O) λb8=>zr 6 (j:=0) (cs2:=rowsL A6 (s2.pl++[(Ai m i 2)])) WD O hs2.o1 (AS C7 _) O O O O O jY (LG Z) Z (by rw [Bd];rfl) O λp_5 c_5 ho_5 hne_5=>asg' O (oNl' (zB (sL [1,2,3,5,6,7,8,4,9,11,10] O) ?_)))))))))
         refine zA (rC [(0,true),(1,true),(2,true),(3,true),(4,false),(5,false),(6,false),(7,true)] 8 [] (sk (sk (sk (sk (sk (sk (sk (sk (sk (sl sr)))))))))) (sk (sk (sk (sk (sk (sk (sk (sk (sk (sl sr)))))))))) jV (λ_ _ d _ _ h=>by cases d<;>exact h) (vE (v:=(pP b3 0)) O (AA O underlying177 O sizeOf175 O) O (vE O (AH (i:=9) (v:=(qz s2.p2 s2.pl.length s2.c2)) O O M1.a O) O (vE (v:=(aG (Eu m))) O (Aj (i:=11) (vs:=Eu m) O O Nx.a Nx.s O O) O (vE (v:=(aG (A6 (Ai m i 2)))) O (Aj (i:=1) (vs:=A6 (Ai m i 2)) O O Bq.a Bq.s O O) O (zx O (DH call165 (λw hw=>JB m (Ai m i 2) (EQ Z) w (Co hw 13 O lm)) O (zu (sk (sk (sk (sk (sk (sk (sk (sk (sk (sl sr)))))))))) (zx O (zZ (V:=λb9=>(qz (jk b9) 1 1)) (T:=179) (cs:=CW ((mapM m).at_ (Ai m i 2))) (AI O) (Az (z:=.agg (CW ((0,0):Int×Int)).toArray) (cs:=CW ((mapM m).at_ (Ai m i 2))) (pv:=[(0,(aG (CW ((mapM m).at_ (Ai m i 2)))))]) underlying175 sizeOf179 zeroValue179 jY jY O (Eo ((mapM m).at_ (Ai m i 2)))) O (BA O) λb9=>zu (sl (sk (sk (sk (sk (sk (sk (sk (sk (sk (sl sr))))))))))) ?_))))))))))
         refine zx O (zr 10 (j:=0) (cs2:=rowsL CW ((s2.pts m)++[((mapM m).at_ (Ai m i 2))])) WC O hs2.o2 (by rw [AS F2];simp [WS.pts]) O O O O O jY (LG Z) Z (by rw [Bd];rfl) O λp_6 c_6 ho_6 hne_6=>zu (sl (sk (sk (sk (sk (sk (sk (sk (sk (sk (sl sr))))))))))) (vE (v:=(pP b3 0)) O (AA O underlying177 O sizeOf175 O) O (yJ O (F8 11 (off:=0) (vs:=[(qz p_6 (s2.pl.length+1) c_6)]) (cs':=[(qz p_6 (s2.pl.length+1) c_6),(qz p3 ts.length c3),jj]) (AI O) O sizeOf175 O (zD (sl (sk (sk (sk (sk (sk (sk (sk (sk (sk (sl (sl sr)))))))))))) (zQ (zB (sL [1,2,3,5,6,7,8,4,9,11,10] O) ?_)))))))
         rw [show s2.pl.length+1=(s2.pl++[Ai m i 2]).length by simp]
         rw [show s2.pts m++[(mapM m).at_ (Ai m i 2)]=WS.pts (WS.mk (s2.pl++[Ai m i 2]) p_5 c_5 p_6 c_6) m by simp [WS.pts]]
         exact yI (WS.mk (s2.pl++[Ai m i 2]) p_5 c_5 p_6 c_6) s2.pl.length (⟨⟨(by simpa using ho_5),(by simpa using ho_6),λp hp=>(List.mem_append.1 hp).elim (hs2.small p) (λe=>by rw [xO.1 e];exact EQ Z),Kn hs2.dst (λj hj=>(ha.elim id (λh=>absurd h.1 Z)).2 j Z)⟩,GF.snoc _ _,by simp,by simp,DM _ _,λa ha=>by simp only [xL,List.length_singleton] at ha;omega,LX λj hj=>(ha.elim id (λh=>absurd h.1 Z)).2 j Z⟩) (sF O) (sl (sl sr))
        ·replace hc4:=xS hc4
         refine yP (k:=10) (u:=(vN a.toNat)) O (by show Value.int _ _=Value.int _ _;congr 1;omega) (zC ?_)
         obtain ⟨ha1,ha2,ha3⟩:=ha.resolve_left (λh=>by have:=h.1;omega)
         exact yI s2 a.toNat (⟨hs2,GF.refl _,Z,Z,ha3,(λa ha=>.inl ha),LY hs2.dst Z ha3⟩) (sF O) sr
       ·intro s3 n3 hJ
        obtain ⟨hs3,hm3,hl3,hn3,hg3,hu3,hf3⟩:=hJ
        refine zA (zH (AL O (AL O (AD (v:=(pP b4 2)) (AB (j:=2) O O underlying105 sizeOf3 O jY O) O (F8 3 (off:=2) (vs:=[(vN n3)]) (cs':=[(vN n1),(vN n2),(vN n3)]) (AI O) O sizeOf3 O (oNl' (zB (sL [1,2,3,5,6,7,8,10,4] O) (zG (zA (zH (AL O ?_)))))))))))
        refine AD (AT (c:=(3:Int)) O O jY) O (asg' O (oNl' (zB (sL [1,2,3,5,6,7,8,10,4] O) (zk (zf (zX (q4 (AL O (AD (Aa (c:=false) O O jY) O (oNl' (zB (sL [1,2,3,5,6,7,8,10,4,25] O) ?_)))))))))))
        refine zA (zT O (zU (zO (zO (zP (zA (zH (AD (v:=(pP b3 1)) (AA O underlying177 O sizeOf23 O) O (BF 9 (qz p3 ts.length c3) C2 O (Al 3 C8 O (zZ (V:=λb8=>(qz (jk b8) 1 1)) (T:=105) (cs:=Ac (n1,n2,n3)) (AI O) (Az (z:=.agg (Ac jJ).toArray) (cs:=Ac (n1,n2,n3)) (pv:=[(0,(aG ([(vN n1),(vN n2),(vN n3)])))]) underlying23 sizeOf105 zeroValue105 jY jY O (Gj (n1,n2,n3))) O (BA O) λb8=>?_)))))))))))
        refine zr 8 (j:=0) (cs2:=rowsL Ac (ts++[(n1,n2,n3)])) Yc O h3 (AS Aq _) O O O O O jY (LG Z) Z (by rw [Bd];rfl) O λp_7 c_7 ho_7 hne_7=>AD (v:=(pP b3 1)) (AA O underlying177 O sizeOf23 O) O (F8 10 (off:=1) (vs:=[(qz p_7 (ts.length+1) c_7)]) (cs':=[(qz s3.p2 s3.pl.length s3.c2),(qz p_7 (ts.length+1) c_7),jj]) (AI O) O sizeOf23 O (oNl' (zB (sL [1,2,3,5,6,7,8,10,4] O) (zG (zA (zH (AL O (AD (AT (c:=((i+1:Nat):Int)) O O (AV (a:=i) (b:=1) Z)) O (asg' O (oNl' ?_))))))))))
        refine zB (sL [1,2,3,5,6,7,8,10,4] O) ?_
        rw [show ts.length+1=(ts++[(n1,n2,n3)]).length by simp]
        exact OkQ.round5 (i+1) s3 p_7 c_7 (ts++[(n1,n2,n3)]) (⟨Z,hs3,(by simpa using ho_7),hv.step ((hm1.trans hm2).trans hm3) Z hs3.small ⟨⟨by show n1<_;have:=hm2.1;have:=hm3.1;omega,(hm3.2 _ (by have:=hm2.1;omega)).trans ((hm2.2 _ Z).trans hg1)⟩,⟨by show n2<_;have:=hm3.1;omega,(hm3.2 _ Z).trans hg2⟩,⟨by show n3<_;omega,hg3⟩⟩ (λa ha=>by rcases hu3 a ha with h|h;(rcases hu2 a h with h|h;(rcases hu1 a h with h|h;exact .inl h;exact .inr (.inl h.symm));exact .inr (.inr (.inl h.symm)));exact .inr (.inr (.inr h.symm))) (WW hv.fn hf1 hf2 hf3)⟩) Z (sF O) (sl (sl (sl (sl (sl sr)))))
 ·replace hc0:=xS hc0
  have hi9:i=(Av m).length:=by omega
  rw [hi9] at hv
  refine zU (zO (OkQ.round5_exit (zP (q1 (q4 (asg' O (oNl' (zA (zJ ?_)))))))))
  refine yS (tg λ(ai:Nat) (p4:Option Addr) (c4:Nat) (ss:List (Tq3))=>ai<=s.pl.length/\OwnOk p4 ss.length c4/\ss.length<=ai*108/\ss=FO m ts s.pl.length ai) (tg λ(ai:Nat) (p4:Option Addr) (c4:Nat) (ss:List (Tq3))=>[(1,(pP b1 0)),(2,(pP b2 0)),(3,(pP b3 0)),(4,(qz s.p1 s.pl.length s.c1)),(12,(vN ai))]) (tg λ(ai:Nat) (p4:Option Addr) (c4:Nat) (ss:List (Tq3))=>[AF gc.p (rowsL A9 (Av m)),rowW s.p1 113 2 s.pl.length s.c1 (rowsL A6 s.pl),rowW p4 105 3 ss.length c4 (rowsL Ac ss),rowW p3 105 3 ts.length c3 (rowsL Ac ts),rowW s.p2 179 2 s.pl.length s.c2 (rowsL CW (s.pts m)),AX b3 177 ([(qz s.p2 s.pl.length s.c2),(qz p3 ts.length c3),(qz p4 ss.length c4)]),AX b2 177 ([jj,jj,jj]),AX b1 90 (Eu m),AF m.p (C5 m.cs)]) (tg λ(ai:Nat) (p4:Option Addr) (c4:Nat) (ss:List (Tq3))=>s.pl.length-ai) 0 none 0 ([]:List (Tq3)) (⟨xJ _,OwnOk.none,by simp,rfl⟩) (sF O) sr (λai p4 c4 ss hJ=>?_)
  obtain ⟨hai,h4,hsl,hsd⟩:=hJ
  refine zX (q4 (AL O (AL O (AD (v:=(vN s.pl.length)) (AE O underlying233) O (AD (Aa (c:=(decide (ai<s.pl.length))) O O (DB (a:=ai) (b:=s.pl.length))) O (oNl' (zB (sL [1,2,3,4,12,87] O) (zA ?_))))))))
  refine zL O (λhc5=>?_) (λhc5=>?_)
  ·replace hc5:=xT hc5
   refine zC (q1 (zJ (q4 (AL O (AD (AT (c:=((ai+1:Nat):Int)) O O (AV (a:=ai) (b:=1) Z)) O (asg' O (oNl' (zB (sL [1,2,3,4,12,13] O) (zA (zJ ?_))))))))))
   refine yS (tg λ(bi:Nat) (p5:Option Addr) (c5:Nat) (sq9:List (Tq3))=>bi<=s.pl.length/\ai+1<=bi/\OwnOk p5 sq9.length c5/\sq9.length<=ai*108+bi/\sq9=FO m ts s.pl.length ai++Jt m ts ai (bi-(ai+1))) (tg λ(bi:Nat) (p5:Option Addr) (c5:Nat) (sq9:List (Tq3))=>[(1,(pP b1 0)),(2,(pP b2 0)),(3,(pP b3 0)),(4,(qz s.p1 s.pl.length s.c1)),(12,(vN ai)),(13,(vN bi))]) (tg λ(bi:Nat) (p5:Option Addr) (c5:Nat) (sq9:List (Tq3))=>[AF gc.p (rowsL A9 (Av m)),rowW s.p1 113 2 s.pl.length s.c1 (rowsL A6 s.pl),rowW p5 105 3 sq9.length c5 (rowsL Ac sq9),rowW p3 105 3 ts.length c3 (rowsL Ac ts),rowW s.p2 179 2 s.pl.length s.c2 (rowsL CW (s.pts m)),AX b3 177 ([(qz s.p2 s.pl.length s.c2),(qz p3 ts.length c3),(qz p5 sq9.length c5)]),AX b2 177 ([jj,jj,jj]),AX b1 90 (Eu m),AF m.p (C5 m.cs)]) (tg λ(bi:Nat) (p5:Option Addr) (c5:Nat) (sq9:List (Tq3))=>s.pl.length-bi) (ai+1) p4 c4 ss (⟨Z,Nat.le_refl _,h4,Z,by rw [hsd,Nat.sub_self];exact (List.append_nil _).symm⟩) (sF O) sr (λbi p5 c5 sq9 hJ=>?_)
   obtain ⟨hbi,hba,h5,hsr,hsq⟩:=hJ
   refine zX (q4 (AL O (AL O (AD (v:=(vN s.pl.length)) (AE O underlying233) O (AD (Aa (c:=(decide (bi<s.pl.length))) O O (DB (a:=bi) (b:=s.pl.length))) O (oNl' (zB (sL [1,2,3,4,12,13,95] O) (zA ?_))))))))
   refine zL O (λhc6=>?_) (λhc6=>?_)
   ·replace hc6:=xT hc6
    refine zC (q1 (zJ (q4 (asg' O (oNl' (q1 (q4 (asg' O (oNl' (zA (zJ ?_)))))))))))
    refine yG (tg λ(ti:Nat) (cn:Nat)=>ti<=ts.length/\cn<=ti/\cn=Hv ts ai bi ti) (tg λ(ti:Nat) (cn:Nat)=>[(1,(pP b1 0)),(2,(pP b2 0)),(3,(pP b3 0)),(4,(qz s.p1 s.pl.length s.c1)),(12,(vN ai)),(13,(vN bi)),(15,(vN ti)),(14,(vN cn))]) (tg λ(ti:Nat) (cn:Nat)=>[AF gc.p (rowsL A9 (Av m)),rowW s.p1 113 2 s.pl.length s.c1 (rowsL A6 s.pl),rowW p5 105 3 sq9.length c5 (rowsL Ac sq9),rowW p3 105 3 ts.length c3 (rowsL Ac ts),rowW s.p2 179 2 s.pl.length s.c2 (rowsL CW (s.pts m)),AX b3 177 ([(qz s.p2 s.pl.length s.c2),(qz p3 ts.length c3),(qz p5 sq9.length c5)]),AX b2 177 ([jj,jj,jj]),AX b1 90 (Eu m),AF m.p (C5 m.cs)]) (tg λ(ti:Nat) (cn:Nat)=>ts.length-ti) 0 0 (⟨xJ _,Nat.le_refl _,rfl⟩) (sF O) sr (λti cn hJ=>?_)
    obtain ⟨hti,hcn,hcw⟩:=hJ
    refine zX (q4 (AL O (AD (v:=(pP b3 1)) (AA O underlying177 O sizeOf23 O) O (BF 5 (qz p3 ts.length c3) C2 O (AD (v:=(vN ts.length)) (AE O underlying23) O (AD (Aa (c:=(decide (ti<ts.length))) O O (DB (a:=ti) (b:=ts.length))) O (oNl' (zB (sL [1,2,3,4,12,13,15,14,102] O) (zA ?_)))))))))
    refine zL O (λhc7=>?_) (λhc7=>?_)
    ·replace hc7:=xT hc7
     refine zC (q1 (zJ (q4 (AD (v:=(pP b3 1)) (AA O underlying177 O sizeOf23 O) O (BF 5 (qz p3 ts.length c3) C2 O (AL O (AD (v:=(pP (pB p3) (pO p3+ti*3))) (AM (j:=ti) O O h3.row underlying23 sizeOf105 O Z) O (AD (v:=(aG (Ac (ts.getD ti jJ)))) (Br (vs:=Ac (ts.getD ti jJ)) (i:=3) O O h3 (AS Aq _) (Ay.ne h3.row Z) C8 (Af Aq _ _ _ Z) (Aq _)) O (AL O (ck' call166 (Uj (ts.getD ti jJ) ai) O (AL O ?_)))))))))))
     refine ze (FM:=[(1,(pP b1 0)),(2,(pP b2 0)),(3,(pP b3 0)),(4,(qz s.p1 s.pl.length s.c1)),(12,(vN ai)),(13,(vN bi)),(15,(vN ti)),(14,(vN cn)),(105,(pP b3 1)),(106,(qz p3 ts.length c3)),(107,(vN ti)),(108,(pP (pB p3) (pO p3+ti*3))),(109,(aG (Ac (ts.getD ti jJ)))),(110,(vN ai)),(111,(qa (Gk (ts.getD ti jJ) ai))),(112,(qa (Gk (ts.getD ti jJ) ai))),(120,(qa ((Gk (ts.getD ti jJ) ai)&&(Gk (ts.getD ti jJ) bi))))]) (LM:=[AF gc.p (rowsL A9 (Av m)),rowW s.p1 113 2 s.pl.length s.c1 (rowsL A6 s.pl),rowW p5 105 3 sq9.length c5 (rowsL Ac sq9),rowW p3 105 3 ts.length c3 (rowsL Ac ts),rowW s.p2 179 2 s.pl.length s.c2 (rowsL CW (s.pts m)),AX b3 177 ([(qz s.p2 s.pl.length s.c2),(qz p3 ts.length c3),(qz p5 sq9.length c5)]),AX b2 177 ([jj,jj,jj]),AX b1 90 (Eu m),AF m.p (C5 m.cs)]) 8 ?_ ?_
     ·rcases xQ (Gk (ts.getD ti jJ) ai) with hg1|hg1
      ·refine zI (k:=112) (u:=qa true) O (by rw [hg1]) ?_
       have hg1':=hg1
       skip
       exact BM (v:=(pP b3 1)) O (AA O underlying177 O sizeOf23 O) (BM (v:=(qz p3 ts.length c3)) O (AH (i:=5) (v:=(qz p3 ts.length c3)) O O C2.a O) (Hk O (BM (v:=(pP (pB p3) (pO p3+ti*3))) O (AM (j:=ti) O O h3.row underlying23 sizeOf105 O Z) (BM (v:=(aG (Ac (ts.getD ti jJ)))) O (Br (vs:=Ac (ts.getD ti jJ)) (i:=3) O O h3 (AS Aq _) (Ay.ne h3.row Z) C8 (Af Aq _ _ _ Z) (Aq _)) (Hk O (zh (v:=(qa (Gk (ts.getD ti jJ) bi))) (Ab O) (Ar (args:=[(aG (Ac (ts.getD ti jJ))),(vN bi)]) O O call166) (λw hw=>Uj (ts.getD ti jJ) bi w) O (BA O) (AD (v:=(qa (Gk (ts.getD ti jJ) bi))) (AW O O) O (oNl' (zR Cc (xR _))))))))))
      ·refine zI (k:=112) (u:=qa false) O (by rw [hg1]) ?_
       have hg1':=hg1
       skip
       exact BO O (BO O (BO O (BO O (BO O (BO O (BO O (AD (v:=(qa false)) (AQ O O) O (oNl' (zR Cc (xR _))))))))))
     refine oNl' (zB (sL [1,2,3,4,12,13,15,14,120] O) (zA ?_))
     refine zL O (λhc8=>?_) (λhc8=>?_)
     ·simp only [jK] at hc8
      refine zH (AL O (AD (AT (c:=((cn+1:Nat):Int)) O O (AV (a:=cn) (b:=1) Z)) O (asg' O (oNl' (zB (sL [1,2,3,4,12,13,15,14] O) (zG (zA (zH (AL O (AD (AT (c:=((ti+1:Nat):Int)) O O (AV (a:=ti) (b:=1) Z)) O (asg' O ?_)))))))))))
      exact oNl' (zB (sL [1,2,3,4,12,13,15,14] O) (zn (ti+1) (cn+1) (⟨Z,Z,by rw [hcw];exact (UB hc8).symm⟩) Z (sF O) sr))
     ·simp only [jK] at hc8
      exact zC (zG (zA (zH (AL O (AD (AT (c:=((ti+1:Nat):Int)) O O (AV (a:=ti) (b:=1) Z)) O (asg' O (oNl' (zB (sL [1,2,3,4,12,13,15,14] O) (zn (ti+1) cn (⟨Z,Z,by rw [hcw];exact (XH hc8).symm⟩) Z (sF O) sr)))))))))
    ·replace hc7:=xS hc7
     have hte:ti=ts.length:=by omega
     rw [hte] at hcw
     refine zU (zO (zm (zP (q2 (AL O (AD (BL (c:=(decide (cn=1))) O O (N9 (a:=cn) (b:=1))) O (oNl' (zB (sL [1,2,3,4,12,13,15,14,124] O) (zA ?_)))))))))
     refine zL O (λhc9=>?_) (λhc9=>?_)
     ·replace hc9:=xT hc9
      refine zH (AD (v:=(pP b3 2)) (AA O underlying177 O sizeOf23 O) O (BF 5 (qz p5 sq9.length c5) C2 O (AL O (AL O (AL O (AL O (AD (Bx (c:=((3*bi:Nat):Int)) O O (DP (a:=3) (b:=bi) Z)) O (AD (AT (c:=((ai+(3*bi):Nat):Int)) O O (AV (a:=ai) (b:=3*bi) Z)) O (AD (v:=(pP b1 8)) (AA O underlying90 O sizeOf5 O) O (BF 7 (vK .u8 m.fst) WG O (AD (Au (c:=((m.fst:Nat):Int)) O underlying5 underlying3 (CJ Z)) O ?_)))))))))))
      refine AD (AT (c:=(((ai+(3*bi))+m.fst:Nat):Int)) O O (AV (a:=ai+(3*bi)) (b:=m.fst) Z)) O (AD (CB (c:=((((ai+(3*bi))+m.fst)%5:Nat):Int)) O O Z (Ij (a:=(ai+(3*bi))+m.fst) (b:=5))) O (AD (v:=(aG (Ac (ai,bi,((ai+(3*bi))+m.fst)%5)))) (Ap (zs:=Ac jJ) (vs:=Ac (ai,bi,((ai+(3*bi))+m.fst)%5)) (pv:=[(0,(vN ai)),(1,(vN bi)),(2,(vN (((ai+(3*bi))+m.fst)%5)))]) zeroValue105 underlying105 sizeOf3 O (Jy ai bi (((ai+(3*bi))+m.fst)%5))) O (zZ (V:=λb4=>(qz (jk b4) 1 1)) (T:=105) (cs:=Ac (ai,bi,((ai+(3*bi))+m.fst)%5)) (AI O) (Az (z:=.agg (Ac jJ).toArray) (cs:=Ac (ai,bi,((ai+(3*bi))+m.fst)%5)) (pv:=[(0,(aG (Ac (ai,bi,((ai+(3*bi))+m.fst)%5))))]) underlying23 sizeOf105 zeroValue105 jY jY O (Gj (ai,bi,((ai+(3*bi))+m.fst)%5))) O (BA O) λb4=>zr 3 (j:=0) (cs2:=rowsL Ac (sq9++[(ai,bi,((ai+(3*bi))+m.fst)%5)])) Yc O h5 (AS Aq _) O O O O O jY (LG Z) Z (by rw [Bd];rfl) O λp_8 c_8 ho_8 hne_8=>AD (v:=(pP b3 2)) (AA O underlying177 O sizeOf23 O) O (F8 6 (off:=2) (vs:=[(qz p_8 (sq9.length+1) c_8)]) (cs':=[(qz s.p2 s.pl.length s.c2),(qz p3 ts.length c3),(qz p_8 (sq9.length+1) c_8)]) (AI O) O sizeOf23 O (oNl' (zB (sL [1,2,3,4,12,13,15,14] O) (zG (zA (zH ?_)))))))))
      refine AL O (AD (AT (c:=((bi+1:Nat):Int)) O O (AV (a:=bi) (b:=1) Z)) O (asg' O (oNl' (zB (sL [1,2,3,4,12,13,15,14] O) ?_))))
      rw [show sq9.length+1=(sq9++[(ai,bi,((ai+(3*bi))+m.fst)%5)]).length by simp]
      exact z7 (bi+1) p_8 c_8 (sq9++[(ai,bi,((ai+(3*bi))+m.fst)%5)]) (⟨Z,Z,(by simpa using ho_8),by rw [xL];simp only [List.length_singleton];omega,(by rw [hsq];exact Vs Z (by rw [<-hcw,hc9]))⟩) Z (sF O) (sl sr)
     ·replace hc9:=xS hc9
      exact zC (zG (zA (zH (AL O (AD (AT (c:=((bi+1:Nat):Int)) O O (AV (a:=bi) (b:=1) Z)) O (asg' O (oNl' (zB (sL [1,2,3,4,12,13,15,14] O) (z7 (bi+1) p5 c5 sq9 (⟨Z,Z,h5,Z,(by rw [hsq];exact YU Z (by rw [<-hcw];exact hc9))⟩) Z (sF O) sr)))))))))
   ·replace hc6:=xS hc6
    exact zU (zO (yB (zP (zG (zA (zH (AL O (AD (AT (c:=((ai+1:Nat):Int)) O O (AV (a:=ai) (b:=1) Z)) O (asg' O (oNl' (zB (sL [1,2,3,4,12,13] O) (z7 (ai+1) p5 c5 sq9 (⟨Z,h5,Z,by rw [hsq,show bi=s.pl.length by omega];rfl⟩) Z (sF O) sr))))))))))))
  ·replace hc5:=xS hc5
   exact zU (zO (yB (zP (q2 (Al 5 bR O (F8 6 (off:=0) (vs:=[(qz s.p2 s.pl.length s.c2),(qz p3 ts.length c3),(qz p4 ss.length c4)]) (cs':=[(qz s.p2 s.pl.length s.c2),(qz p3 ts.length c3),(qz p4 ss.length c4)]) (AI O) O sizeOf177 O (oNl' (zB (sL [1,2,3,4,12] O) (zA (zF (ret_one O (Ao (i:=6) (cs:=[(qz s.p2 s.pl.length s.c2),(qz p3 ts.length c3),(qz p4 ss.length c4)]) O O isAgg177 sizeOf177 O) (λw hw=>(bD hw (WM.mk s.pl ts ss hv hs.dst Z (by rw [hsd,show ai=s.pl.length by omega]) ⟨s.p2,s.c2,hs.o2.row⟩ ⟨p3,c3,h3.row⟩ ⟨p4,c4,h4.row⟩) h3 3 O (GS (S:=λ_=>False) hw 4 O hs.o2 (by rw [AS F2];simp [WS.pts])) (GS (S:=λ_=>False) hw 3 O h3 (AS Aq _)) (GS (S:=λ_=>False) hw 2 O h4 (AS Aq _)) O)))))))))))))
end
theorem HX (a b:Rat):a<b\/b<=a:=by grind
def KF (A B:P2) (x y:Rat):Rat:=((B.1:Rat)-(A.1:Rat))*(y-(A.2:Rat))-((B.2:Rat)-(A.2:Rat))*(x-(A.1:Rat))
def Wj (t:P2×P2×P2) (x y:Rat):Prop:=0<KF t.2.1 t.2.2 x y/\0<KF t.2.2 t.1 x y/\0<KF t.1 t.2.1 x y
def inC (t:P2×P2×P2) (x y:Rat):Prop:=0<=KF t.2.1 t.2.2 x y/\0<=KF t.2.2 t.1 x y/\0<=KF t.1 t.2.1 x y
def cO (s t:P2×P2×P2):Prop:=∀x y,(Wj s x y->¬inC t x y)/\(Wj t x y->¬inC s x y)
theorem Gs (u:Nat):((2*u:Nat):Rat)=2*(u:Rat):=by rw [Rat.natCast_mul];rfl
theorem J6 (u:Nat):((2*u+2:Nat):Rat)=2*(u:Rat)+2:=by rw [Rat.natCast_add,Gs];rfl
theorem Qn (u:Nat):((2*u+1:Nat):Rat)=2*(u:Rat)+1:=by rw [Rat.natCast_add,Gs];rfl
theorem Q7 {t:P2×P2×P2} {nx way i u v:Nat} (hu:u=i%nx) (hv:v=i/nx) (ht:t∈Cx nx way i) (x y:Rat) :
    (Wj t x y->(2*(u:Rat)<x/\x<2*(u:Rat)+2)/\2*(v:Rat)<y/\y<2*(v:Rat)+2)/\(inC t x y->(2*(u:Rat)<=x/\x<=2*(u:Rat)+2)/\2*(v:Rat)<=y/\y<=2*(v:Rat)+2):=by
  have key:t∈[((2*u,2*v),(2*u+2,2*v),(2*u+2,2*v+2)),((2*u,2*v),(2*u+2,2*v+2),(2*u,2*v+2)),((2*u,2*v),(2*u+2,2*v),(2*u,2*v+2)),((2*u+2,2*v),(2*u+2,2*v+2),(2*u,2*v+2)),
      ((2*u,2*v),(2*u+2,2*v),(2*u+1,2*v+1)),((2*u+2,2*v),(2*u+2,2*v+2),(2*u+1,2*v+1)),((2*u+2,2*v+2),(2*u,2*v+2),(2*u+1,2*v+1)),((2*u,2*v+2),(2*u,2*v),(2*u+1,2*v+1))]:=by
    subst hu;subst hv
    unfold Cx at ht
    simp only at ht
    split at ht
    · simp only [xN,List.not_mem_nil,or_false] at ht ⊢;rcases ht with h|h<;>simp [h]
    · split at ht
      · simp only [xN,List.not_mem_nil,or_false] at ht ⊢;rcases ht with h|h<;>simp [h]
      · split at ht
        · simp only [xN,List.not_mem_nil,or_false] at ht ⊢;rcases ht with h|h|h|h<;>simp [h]
        · cases ht
  clear hu hv ht
  simp only [xN,List.not_mem_nil,or_false] at key
  rcases key with rfl|rfl|rfl|rfl|rfl|rfl|rfl|rfl<;>(simp only [Wj,inC,KF,Gs,J6,Qn];generalize (u:Rat)=U;generalize (v:Rat)=V;refine ⟨λh=>?_,λh=>?_⟩<;>obtain ⟨h1,h2,h3⟩:=h<;>refine ⟨⟨?_,?_⟩,?_,?_⟩<;>grind)
theorem So {s t:P2×P2×P2} {nx way way' i j:Nat} (hij:i≠j) (hs:s∈Cx nx way i) (ht:t∈Cx nx way' j):cO s t:=λx y=>by
  have a:=Q7 rfl rfl hs x y
  have b:=Q7 rfl rfl ht x y
  have hne:i%nx≠j%nx\/i/nx≠j/nx:=by
    rcases Decidable.em (i%nx=j%nx) with e|e
    · rcases Decidable.em (i/nx=j/nx) with e2|e2
      · exact absurd (by rw [<-Nat.div_add_mod i nx,<-Nat.div_add_mod j nx,e,e2]) hij
      · exact .inr e2
    · exact .inl e
  have lt:∀{p q:Nat},p<q->(p:Rat)+1<=(q:Rat):=λ{p q} h=>by
    have h1:((p+1:Nat):Rat)<=(q:Rat):=by exact_mod_cast h
    rw [Rat.natCast_add] at h1
    exact h1
  have four:(i%nx:Nat)+1<=j%nx\/(j%nx:Nat)+1<=i%nx\/(i/nx:Nat)+1<=j/nx\/(j/nx:Nat)+1<=i/nx:=by omega
  revert a b
  rcases four with h|h|h|h<;>have h:=lt h<;>generalize ((i%nx:Nat):Rat)=A at*<;> generalize ((j%nx:Nat):Rat)=B at*<;> generalize ((i/nx:Nat):Rat)=C at*<;> generalize ((j/nx:Nat):Rat)=D at*<;> intro a b<;>refine ⟨λh1 h2=>?_,λh1 h2=>?_⟩ <;>
    first
      | (have a1:=a.1 h1;have b1:=b.2 h2;obtain ⟨⟨_,_⟩,_,_⟩:=a1;obtain ⟨⟨_,_⟩,_,_⟩:=b1;grind)
      | (have a1:=a.2 h2;have b1:=b.1 h1;obtain ⟨⟨_,_⟩,_,_⟩:=a1;obtain ⟨⟨_,_⟩,_,_⟩:=b1;grind)
theorem Vx (nx way i:Nat):(Cx nx way i).Pairwise cO:=by
  unfold Cx
  simp only
  generalize i%nx=u
  generalize i/nx=v
  split
  · refine List.pairwise_pair.2 λx y=>?_
    simp only [Wj,inC,KF,Gs,J6];generalize (u:Rat)=U;generalize (v:Rat)=V
    refine ⟨λh k=>?_,λh k=>?_⟩<;>obtain ⟨h1,h2,h3⟩:=h<;>obtain ⟨k1,k2,k3⟩:=k<;>grind
  · split
    · refine List.pairwise_pair.2 λx y=>?_
      simp only [Wj,inC,KF,Gs,J6];generalize (u:Rat)=U;generalize (v:Rat)=V
      refine ⟨λh k=>?_,λh k=>?_⟩<;>obtain ⟨h1,h2,h3⟩:=h<;>obtain ⟨k1,k2,k3⟩:=k<;>grind
    · split
      · simp only [List.pairwise_cons,xN,List.not_mem_nil,or_false,forall_eq_or_imp,forall_eq,List.Pairwise.nil,and_true,false_implies,implies_true]
        refine ⟨⟨?_,?_,?_⟩,⟨?_,?_⟩,?_⟩<;>intro x y<;>simp only [Wj,inC,KF,Gs,J6,Qn]<;>generalize (u:Rat)=U<;>generalize (v:Rat)=V<;>refine ⟨λh k=>?_,λh k=>?_⟩<;>obtain ⟨h1,h2,h3⟩:=h<;>obtain ⟨k1,k2,k3⟩:=k<;>grind
      · exact List.Pairwise.nil
theorem DO (m:MQ):∀i t,t∈EO m i->∃j,j<i/\t∈Cx (Em m) (GC m j) j
  | 0,t,h=>by cases h
  | i+1,t,h=>by
    rcases List.mem_append.1 h with h|h
    · obtain ⟨j,hj,h⟩:=DO m i t h;exact ⟨j,Z,h⟩
    · exact ⟨i,Z,h⟩
theorem Kg (m:MQ):∀i,(EO m i).Pairwise cO
  | 0=>List.Pairwise.nil
  | i+1=>List.pairwise_append.2 ⟨Kg m i,Vx _ _ _,λs hs t ht=>by
      obtain ⟨j,hj,h⟩:=DO m i s hs
      exact So Z h ht⟩
theorem Iy (m:MQ) {i j:Nat} (hi:i<(Av m).length) (hj:j<(Av m).length) (hne:i≠j) (d:P2×P2×P2):∀x y,Wj ((Av m).getD i d) x y->¬inC ((Av m).getD j d) x y:=λx y h=>by
  have hp:=List.pairwise_iff_getElem.1 (Kg m (Em m*QG m))
  rw [List.getD,xP hi] at h
  rw [List.getD,xP hj]
  rcases Nat.lt_or_gt_of_ne hne with hlt|hgt
  · exact (hp i j hi hj hlt x y).1 h
  · exact (hp j i hj hi hgt x y).2 h
theorem lattice {k:DG} (h:k.Ok) (den:Nat) (q:Pt):∃x y c:Rat,0<c/\∀A B:P2,AN (CM (Gm k den A)) (CM (Gm k den B)) q=c*KF A B x y:=by
  have hD:0<(((max den 1:Nat):Int):Rat):=by exact_mod_cast (show (0:Int)<((max den 1:Nat):Int) by omega)
  have hd:(0:Rat)<(k.det:Rat):=by exact_mod_cast h.pos
  have ed:(k.det:Rat)=(k.a:Rat)*(k.d:Rat)-(k.b:Rat)*(k.c:Rat):=by simp only [DG.det,Rat.intCast_sub,Rat.intCast_mul]
  have hi:=Rat.inv_pos.2 hD
  have he:((((max den 1:Nat):Int):Rat)⁻¹)*(((max den 1:Nat):Int):Rat)=1:=Rat.inv_mul_cancel _ (by grind)
  have hdi:((k.det:Rat)⁻¹)*(k.det:Rat)=1:=Rat.inv_mul_cancel _ (by grind)
  obtain ⟨qx,qy⟩:=q
  refine ⟨((k.d:Rat)*qx-(k.b:Rat)*qy)*(((max den 1:Nat):Int):Rat)*(k.det:Rat)⁻¹,((k.a:Rat)*qy-(k.c:Rat)*qx)*(((max den 1:Nat):Int):Rat)*(k.det:Rat)⁻¹,(k.det:Rat)*((((max den 1:Nat):Int):Rat)⁻¹*(((max den 1:Nat):Int):Rat)⁻¹),Rat.mul_pos hd (Rat.mul_pos hi hi),λA B=>?_⟩
  simp only [Ck,CM,Gm,N_,DG.at_,KF,Rat.div_def,Rat.intCast_add,Rat.intCast_mul]
  rw [ed] at hdi ⊢
  clear hD hd hi ed
  generalize (((max den 1:Nat):Int):Rat)⁻¹=e at *
  generalize (((max den 1:Nat):Int):Rat)=D at *
  simp only [Rat.intCast_natCast]
  generalize ((k.a:Rat)*(k.d:Rat)-(k.b:Rat)*(k.c:Rat))⁻¹=f at *
  generalize (k.a:Rat)=a at *
  generalize (k.b:Rat)=b at *
  generalize (k.c:Rat)=c at *
  generalize (k.d:Rat)=d at *
  generalize (A.1:Rat)=A1
  generalize (A.2:Rat)=A2
  generalize (B.1:Rat)=B1
  generalize (B.2:Rat)=B2
  clear h
  have hx:qx=(a*((d*qx-b*qy)*D*f)+b*((a*qy-c*qx)*D*f))*e:=by grind
  have hy:qy=(c*((d*qx-b*qy)*D*f)+d*((a*qy-c*qx)*D*f))*e:=by grind
  generalize (d*qx-b*qy)*D*f=X at *
  generalize (a*qy-c*qx)*D*f=Y at *
  subst hx
  subst hy
  grind
end Go.Proofs.YtpolhpjiahbidaaGreatDoor
