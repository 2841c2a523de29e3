import Derived.Test.YtbfdamnfcmefmaaGreatDoorPend17
import Derived.Test.YtbfdamnfcmefmaaGreatDoorPend18
namespace Go.Proofs.YtbfdamnfcmefmaaGreatDoor
open Go Go.RowKit Go.Proofs.Tryz
open Go.Value renaming slice→qz,bool→qa
set_option linter.unusedVariables false
set_option linter.unusedSimpArgs false
section
set_option maxRecDepth 100000
theorem Wl:ElemT prog 152 72 2 16:=⟨underlying152,FC jV⟩
theorem a_:ElemT prog 28 71 3 24:=⟨underlying28,FC jV⟩
theorem bB:ElemT prog 85 90 2 16:=⟨underlying85,FC jV⟩
theorem VH (t:Tq3) (x:Nat) (w:World)  :Calls prog 42 #[(aG (Af t)),(vN x)] w (Ac w (qa (Gb t x))):=by
 refine AW (args:=[(aG (Af t)),(vN x)]) func42 O O (A_ O) (zM (sL [0,1] O) (q4 (BV (cs:=Af t) O λb1=>asg' O (q3 (sL [1,2,4] O) (AD (v:=(pP b1 0)) (AB (j:=0) O O underlying71 sizeOf3 O jY O) O (BG 0 (vN t.1) Bk O (AL O (AD (BM (c:=(decide (t.1=x))) O O (O5 (a:=t.1) (b:=x))) O (AL O ?_)))))))))
 refine zi (FM:=[(1,(vN x)),(2,(pP b1 0)),(4,(qa false)),(5,(pP b1 0)),(6,(vN t.1)),(7,(vN x)),(8,(qa (decide (t.1=x)))),(9,(qa (decide (t.1=x)))),(14,(qa ((decide (t.1=x))||(decide (t.2.1=x)))))]) (LM:=[AY b1 71 (Af t)]) 5 ?_ ?_
 ·rcases xQ (decide (t.1=x)) with hg1|hg1
  ·refine zL (k:=9) (u:=qa true) O (by rw [hg1]) ?_
   have hg1':=xT hg1
   exact BT O (BT O (BT O (BT O (AD (v:=(qa true)) (AX O O) O (oNl' (zT Cd (xR _)))))))
  ·refine zL (k:=9) (u:=qa false) O (by rw [hg1]) ?_
   have hg1':=xS hg1
   exact BI (v:=(pP b1 1)) O (AB (j:=1) O O underlying71 sizeOf3 O jY O) (BI (v:=(vN t.2.1)) O (AH (i:=0) (v:=(vN t.2.1)) O O Bk.a O) (Gq O (BI (v:=(qa (decide (t.2.1=x)))) O (BM (c:=(decide (t.2.1=x))) O O (O5 (a:=t.2.1) (b:=x))) (AD (v:=(qa (decide (t.2.1=x)))) (AP O O) O (oNl' (zT Cd (xR _)))))))
 refine AL O ?_
 refine zi (FM:=[(1,(vN x)),(2,(pP b1 0)),(4,(qa false)),(5,(pP b1 0)),(6,(vN t.1)),(7,(vN x)),(8,(qa (decide (t.1=x)))),(9,(qa (decide (t.1=x)))),(14,(qa ((decide (t.1=x))||(decide (t.2.1=x))))),(15,(qa ((decide (t.1=x))||(decide (t.2.1=x))))),(20,(qa (((decide (t.1=x))||(decide (t.2.1=x)))||(decide (t.2.2=x)))))]) (LM:=[AY b1 71 (Af t)]) 5 ?_ ?_
 ·rcases xQ ((decide (t.1=x))||(decide (t.2.1=x))) with hg2|hg2
  ·refine zL (k:=15) (u:=qa true) O (by rw [hg2]) ?_
   have hg2':=hg2
   simp only [jK] at hg2'
   exact BT O (BT O (BT O (BT O (AD (v:=(qa true)) (AX O O) O (oNl' (zT It (xR _)))))))
  ·refine zL (k:=15) (u:=qa false) O (by rw [hg2]) ?_
   have hg2':=hg2
   simp only [jK] at hg2'
   exact BI (v:=(pP b1 2)) O (AB (j:=2) O O underlying71 sizeOf3 O jY O) (BI (v:=(vN t.2.2)) O (AH (i:=0) (v:=(vN t.2.2)) O O Bk.a O) (Gq O (BI (v:=(qa (decide (t.2.2=x)))) O (BM (c:=(decide (t.2.2=x))) O O (O5 (a:=t.2.2) (b:=x))) (AD (v:=(qa (decide (t.2.2=x)))) (AP O O) O (oNl' (zT It (xR _)))))))
 exact asg' O (oNl' (zB (sL [4] O) (zA (zG (ret_one O (rd_tmp (v:=(qa (((decide (t.1=x))||(decide (t.2.1=x)))||(decide (t.2.2=x))))) O) (λw hw=>⟨by first|rfl|simp [Gb,Bool.or_assoc],hw.out⟩))))))
theorem FQ (x0:P2):Instr.fill (λi=>some (i*2,2)) ((Array.range (1*2)).map ((Value.agg (Ay ((0,0):P2)).toArray).cells[·%(Value.agg (Ay ((0,0):P2)).toArray).cells.size]!)) [(0,.agg (Ay x0).toArray)]=some (Ay x0).toArray:=by kernel_rfl
theorem FR (x0:Int×Int):Instr.fill (λi=>some (i*2,2)) ((Array.range (1*2)).map ((Value.agg (CT ((0,0):Int×Int)).toArray).cells[·%(Value.agg (CT ((0,0):Int×Int)).toArray).cells.size]!)) [(0,.agg (CT x0).toArray)]=some (CT x0).toArray:=by kernel_rfl
theorem G9 (x0:Tq3):Instr.fill (λi=>some (i*3,3)) ((Array.range (1*3)).map ((Value.agg (Af jJ).toArray).cells[·%(Value.agg (Af jJ).toArray).cells.size]!)) [(0,.agg (Af x0).toArray)]=some (Af x0).toArray:=by kernel_rfl
theorem Lx (x0 x1 x2:Nat):Instr.fill (λi=>some (i*1,1)) (Af jJ).toArray [(0,vN x0),(1,vN x1),(2,vN x2)]=some (Af (x0,x1,x2)).toArray:=by kernel_rfl
set_option maxHeartbeats 2000000 in
theorem Qe (m:MQ) (w:World) {S:Nat->Prop} (hm:Ro S w m):Calls prog 29 #[(aG (E2 m))] w (BP (Zo m) (λ_=>False) w):=by
 have hf:=m.hfst
 have hf3:m.fst/3<=85:=by omega
 have lm:=DT (W:=w) hm
 refine Ag (args:=[(aG (E2 m))]) (L:=[AN m.p (DC m.cs)]) func29 O O (A_ O) (DU hm Az) (zM (sL [0] O) (q4 (BV (cs:=E2 m) O λb1=>al bD O λb2=>q3 (sL [1,2] O) (al bD O λb3=>z6 90 2 (z6 71 3 (z6 71 3 (oNl' (q2 ?_))))))))
 refine asg' O (z6 72 2 (oNl' (q2 (Ak 6 ON O (cX (S:=S) (cs:=rowsL A7 (Aw m)) (k:=(Aw m).length) (args:=[(aG (E2 m))]) call81 (λw hw=>Su m w (CL hw 7 O lm)) O O O λgc lgc=>asg' O (q6 (sL [1,2,3,4,5] O) (q4 (asg' O (oNl' (zA ?_))))))))))
 refine zI ?_
 refine OkC.lp5 (tg λ(i:Nat) (s:WS) (p3:Option Addr) (c3:Nat) (ts:List (Tq3))=>i<=(Aw m).length/\WS.Ok s/\OwnOk p3 ts.length c3/\NS m i (WS.pl s) ts) (tg λ(i:Nat) (s:WS) (p3:Option Addr) (c3:Nat) (ts:List (Tq3))=>[(1,(pP b1 0)),(2,(pP b2 0)),(3,(pP b3 0)),(5,(qz gc.p ((Aw m).length) gc.c)),(6,(vN i)),(4,(qz s.p1 s.pl.length s.c1))]) (tg λ(i:Nat) (s:WS) (p3:Option Addr) (c3:Nat) (ts:List (Tq3))=>[AN gc.p (rowsL A7 (Aw m)),rowW s.p1 72 2 s.pl.length s.c1 (rowsL Ay s.pl),rowW none 71 3 0 0 (rowsL Af ([])),rowW p3 71 3 ts.length c3 (rowsL Af ts),rowW s.p2 90 2 s.pl.length s.c2 (rowsL CT (s.pts m)),AY b3 87 ([(qz s.p2 s.pl.length s.c2),(qz p3 ts.length c3),jj]),AY b2 87 ([jj,jj,jj]),AY b1 26 (E2 m),AN m.p (DC m.cs)]) (tg λ(i:Nat) (s:WS) (p3:Option Addr) (c3:Nat) (ts:List (Tq3))=>(Aw m).length-i) 0 (WS.mk [] none 0 none 0) none 0 ([]:List (Tq3)) (⟨xJ _,⟨OwnOk.none,OwnOk.none,(λp hp=>by cases hp),Xr⟩,OwnOk.none,cv m⟩) (sF O) sr (λi s p3 c3 ts hJ=>?_)
 obtain ⟨hi,hs,h3,hv⟩:=hJ
 have hpl:=hv.pll
 have htl:=hv.tl
 have hcl:=Hr m
 refine zX (q4 (AL O (AL O (AD (v:=(vN ((Aw m).length))) (AE O underlying153) O (AD (Ab (c:=(decide (i<((Aw m).length)))) O O (DA (a:=i) (b:=(Aw m).length))) O (oNl' (zB (sL [1,2,3,5,6,4,21] O) (zA ?_))))))))
 refine zK O (λhc0=>?_) (λhc0=>?_)
 ·replace hc0:=xT hc0
  refine zC (q1 (zI (q4 (al J1 O λb4=>oNl' (q1 (q4 (asg' O (oNl' (zA (zI ?_))))))))))
  refine yD 4 (zZ (zX (q4 (AL O (AD (Ab (c:=true) O O jY) O (oNl' (zB (sL [1,2,3,5,6,4,7,8,25] O) (zA (zV O (zC (q1 ?_)))))))))))
  refine zI (zX (C8 (El 18++[(18,false),(19,false)]) sr (Bp O (Bp O (Bp O (Al (v:=(pP b1 8)) O (AA O underlying26 O sizeOf5 O) (BQ 8 (vK .u8 m.fst) Wo O (Al O (Aq (c:=((m.fst:Nat):Int)) O underlying5 underlying3 (CP Z)) (Al O (AS (c:=((0+m.fst:Nat):Int)) O O (AV (a:=0) (b:=m.fst) Z)) (Bp O (Al (v:=(pP b1 8)) O (AA O underlying26 O sizeOf5 O) ?_)))))))))))
  refine BQ 8 (vK .u8 m.fst) Wo O (Al O (Gn (c:=((m.fst/3:Nat):Int)) O O Z (OJ (a:=m.fst) (b:=3) Z)) (Al O (Aq (c:=((m.fst/3:Nat):Int)) O underlying5 underlying3 (CP Z)) ?_))
  have hmul:i*(m.fst/3)<=36*85:=Nat.mul_le_mul Z hf3
  refine Al O (Bo (c:=((i*(m.fst/3):Nat):Int)) O O (Cr (a:=i) (b:=m.fst/3) Z)) (Al O (AS (c:=(((0+m.fst)+(i*(m.fst/3)):Nat):Int)) O O (AV (a:=0+m.fst) (b:=i*(m.fst/3)) Z)) ?_)
  obtain ⟨r9,hr9⟩:∃r,r=JI m i 0:=⟨_,rfl⟩
  have hr3:r9<3:=by rw [hr9];exact Nat.mod_lt _ jY
  refine Al O (CE (c:=((r9:Nat):Int)) O O jY (by rw [hr9];exact JH (a:=0+m.fst+i*(m.fst/3)) (b:=3))) (Al (v:=(pP (pB gc.p) (pO gc.p+i*6))) O (AO (j:=i) O O gc.ok underlying153 sizeOf155 O Z) (Al (v:=(pP (pB gc.p) (pO gc.p+(i*6+r9*2)))) O (AB (j:=r9) O O underlying155 sizeOf72 O hr3 (Nat.add_assoc _ _ _)) (Al (v:=(aG (Ay (Ai m i 0)))) O (AM (vs:=Ay (Ai m i 0)) (i:=1) O O (A8.ne gc.ok Z) Cl (JO _ i r9 Z hr3 _ O _ (by rw [hr9];rfl)) O) (zN O (al Pe O λb5=>zD (sl sr) (zN O (Ah O sizeOf72 O (zD (sl sr) (zQ (zB (sL [1,2,3,5,6,4,7,8,9] O) ?_))))))))))
  refine q2 (asg' O (oNl' (q1 (q4 (asg' O (oNl' (zA (zI ?_))))))))
  refine yE (tg λ(k:Nat) (a:Int)=>k<=s.pl.length/\((a = -1/\∀j,j<k->s.pl.getD j (0,0)≠Ai m i 0)\/0<=a/\a<(k:Int)/\s.pl.getD (Int.toNat a) (0,0)=Ai m i 0)) (tg λ(k:Nat) (a:Int)=>[(1,(pP b1 0)),(2,(pP b2 0)),(3,(pP b3 0)),(5,(qz gc.p ((Aw m).length) gc.c)),(6,(vN i)),(4,(qz s.p1 s.pl.length s.c1)),(7,(pP b4 0)),(8,(vI 0)),(9,(pP b5 0)),(11,(vN k)),(10,(vI a))]) (tg λ(k:Nat) (a:Int)=>[AY b5 72 (Ay (Ai m i 0)),AY b4 71 (Af jJ),AN gc.p (rowsL A7 (Aw m)),rowW s.p1 72 2 s.pl.length s.c1 (rowsL Ay s.pl),rowW none 71 3 0 0 (rowsL Af ([])),rowW p3 71 3 ts.length c3 (rowsL Af ts),rowW s.p2 90 2 s.pl.length s.c2 (rowsL CT (s.pts m)),AY b3 87 ([(qz s.p2 s.pl.length s.c2),(qz p3 ts.length c3),jj]),AY b2 87 ([jj,jj,jj]),AY b1 26 (E2 m),AN m.p (DC m.cs)]) (tg λ(k:Nat) (a:Int)=>s.pl.length-k) 0 (-1:Int) (⟨xJ _,.inl ⟨rfl,λj hj=>absurd hj (Nat.not_lt_zero _)⟩⟩) (sF O) sr (λk a hJ=>?_)
  obtain ⟨hk,ha⟩:=hJ
  refine zX (q4 (AL O (AL O (AD (v:=(vN s.pl.length)) (AE O underlying152) O (AD (Ab (c:=(decide (k<s.pl.length))) O O (DA (a:=k) (b:=s.pl.length))) O (oNl' (zB (sL [1,2,3,5,6,4,7,8,9,11,10,49] O) (zA ?_))))))))
  refine zK O (λhc2=>?_) (λhc2=>?_)
  ·replace hc2:=xT hc2
   refine zC (q1 (zI (zX (C8 (El 6) sr (Bp O (Bp O (Al (v:=(pP (pB s.p1) (pO s.p1+k*2))) O (AO (j:=k) O O hs.o1.row underlying152 sizeOf72 O Z) (Al (v:=(aG (Ay (s.pl.getD k ((0,0):P2))))) O (Cp (vs:=Ay (s.pl.getD k ((0,0):P2))) (i:=3) O O hs.o1 (AZ C4 _) (A8.ne hs.o1.row Z) Cl (Ae C4 _ _ _ Z) (C4 _)) (Ej 0 Cl O (Al O (Bu (c:=decide (s.pl.getD k ((0,0):P2)=(Ai m i 0))) O O eqGuardType72 (Nm 9998 (s.pl.getD k ((0,0):P2)) (Ai m i 0))) (zQ ?_)))))))))))
   refine zB (sL [1,2,3,5,6,4,7,8,9,11,10,57] O) (zA ?_)
   refine zK O (λhc3=>?_) (λhc3=>?_)
   ·replace hc3:=xT hc3
    refine zH (AL O (asg' O (oNl' (zB (sL [1,2,3,5,6,4,7,8,9,11,10] O) (zF (zA (zH (AL O (AD (AS (c:=((k+1:Nat):Int)) O O (AV (a:=k) (b:=1) Z)) O (asg' O (oNl' ?_)))))))))))
    exact zB (sL [1,2,3,5,6,4,7,8,9,11,10] O) (zn (k+1) (k:Int) (⟨Z,.inr ⟨Z,Z,by simpa using hc3⟩⟩) Z (sF O) sr)
   ·replace hc3:=xS hc3
    exact zC (zF (zA (zH (AL O (AD (AS (c:=((k+1:Nat):Int)) O O (AV (a:=k) (b:=1) Z)) O (asg' O (oNl' (zB (sL [1,2,3,5,6,4,7,8,9,11,10] O) (zn (k+1) a (⟨Z,ha.elim (λh=>.inl ⟨h.1,λj hj=>by rcases Nat.lt_or_ge j k with h1|h1;exact h.2 j h1;(obtain rfl:j=k:=by omega);simpa using hc3⟩) (λh=>.inr ⟨h.1,Z,h.2.2⟩)⟩) Z (sF O) sr)))))))))
  ·replace hc2:=xS hc2
   refine zU (zO (zl (zP (q1 (q4 (AL O (AD (Ab (c:=(decide (a<(0:Int)))) O O O) O (oNl' (zB (sL [1,2,3,5,6,4,7,8,9,11,10,60] O) (zA ?_))))))))))
   refine yh (tg λ(s1:WS) (n1:Nat)=>WS.Ok s1/\GB s.pl (WS.pl s1)/\(WS.pl s1).length<=s.pl.length+1/\n1<(WS.pl s1).length/\(WS.pl s1).getD n1 (0,0)=Ai m i 0/\(∀a,a<(WS.pl s1).length->a<s.pl.length\/a=n1)/\(WS.pl s1,n1)=GP s.pl (Ai m i 0)) (tg λ(s1:WS) (n1:Nat)=>[(1,(pP b1 0)),(2,(pP b2 0)),(3,(pP b3 0)),(5,(qz gc.p ((Aw m).length) gc.c)),(6,(vN i)),(7,(pP b4 0)),(8,(vI 0)),(10,(vN n1)),(4,(qz s1.p1 s1.pl.length s1.c1))]) (tg λ(s1:WS) (n1:Nat)=>[AY b5 72 (Ay (Ai m i 0)),AY b4 71 (Af jJ),AN gc.p (rowsL A7 (Aw m)),rowW s1.p1 72 2 s1.pl.length s1.c1 (rowsL Ay s1.pl),rowW none 71 3 0 0 (rowsL Af ([])),rowW p3 71 3 ts.length c3 (rowsL Af ts),rowW s1.p2 90 2 s1.pl.length s1.c2 (rowsL CT (s1.pts m)),AY b3 87 ([(qz s1.p2 s1.pl.length s1.c2),(qz p3 ts.length c3),jj]),AY b2 87 ([jj,jj,jj]),AY b1 26 (E2 m),AN m.p (DC m.cs)]) ?_ ?_
   ·refine zK O (λhc4=>?_) (λhc4=>?_)
    ·replace hc4:=xT hc4
     refine q4 (AL O (AD (v:=(vN s.pl.length)) (AE O underlying152) O (asg' O (q3 (sL [1,2,3,5,6,4,7,8,9,11,10] O) (AL O (Ak 0 Cl O (ze (V:=λb6=>(qz (jk b6) 1 1)) (T:=72) (cs:=Ay (Ai m i 0)) (AI O) (Ax (z:=.agg (Ay ((0,0):P2)).toArray) (cs:=Ay (Ai m i 0)) (pv:=[(0,(aG (Ay (Ai m i 0))))]) underlying152 sizeOf72 zeroValue72 jY jY O (FQ (Ai m i 0))) O (A_ O) λb6=>zw 4 (j:=0) (cs2:=rowsL Ay (s.pl++[(Ai m i 0)])) Wl O hs.o1 (AZ C4 _) O O O O O jY (Ma Z) Z (by rw [Bb];rfl) O λp_1 c_1 ho_1 hne_1=>asg' O (oNl' (zB (sL [1,2,3,5,6,4,7,8,9,11,10] O) ?_)))))))))
     refine zA (rC [(0,true),(1,true),(2,true),(3,true),(4,false),(5,false),(6,false),(7,true)] 8 [] (sk (sk (sk (sk (sk (sk (sk (sl sr)))))))) (sk (sk (sk (sk (sk (sk (sk (sl sr)))))))) jV (λ_ _ d _ _ h=>by cases d<;>exact h) (vE (v:=(pP b3 0)) O (AA O underlying87 O sizeOf85 O) O (vE O (AH (i:=7) (v:=(qz s.p2 s.pl.length s.c2)) O O TP.a O) O (vE (v:=(aG (E2 m))) O (Ad (i:=9) (vs:=E2 m) O O ON.a ON.s O O) O (vE (v:=(aG (Ay (Ai m i 0)))) O (Ad (i:=1) (vs:=Ay (Ai m i 0)) O O Cl.a Cl.s O O) O (zu O (C3 call82 (λw hw=>I6 m (Ai m i 0) (EI Z) w (CL hw 11 O lm)) O (zp (sk (sk (sk (sk (sk (sk (sk (sl sr)))))))) (zu O (ze (V:=λb7=>(qz (jk b7) 1 1)) (T:=90) (cs:=CT ((mapM m).at_ (Ai m i 0))) (AI O) (Ax (z:=.agg (CT ((0,0):Int×Int)).toArray) (cs:=CT ((mapM m).at_ (Ai m i 0))) (pv:=[(0,(aG (CT ((mapM m).at_ (Ai m i 0)))))]) underlying85 sizeOf90 zeroValue90 jY jY O (FR ((mapM m).at_ (Ai m i 0)))) O (A_ O) λb7=>zp (sl (sk (sk (sk (sk (sk (sk (sk (sl sr))))))))) ?_))))))))))
     refine zu O (zw 8 (j:=0) (cs2:=rowsL CT ((s.pts m)++[((mapM m).at_ (Ai m i 0))])) bB O hs.o2 (by rw [AZ F4];simp [WS.pts]) O O O O O jY (Ma Z) Z (by rw [Bb];rfl) O λp_2 c_2 ho_2 hne_2=>zp (sl (sk (sk (sk (sk (sk (sk (sk (sl sr))))))))) (vE (v:=(pP b3 0)) O (AA O underlying87 O sizeOf85 O) O (yL O (Fj 9 (off:=0) (vs:=[(qz p_2 (s.pl.length+1) c_2)]) (cs':=[(qz p_2 (s.pl.length+1) c_2),(qz p3 ts.length c3),jj]) (AI O) O sizeOf85 O (zD (sl (sk (sk (sk (sk (sk (sk (sk (sl (sl sr)))))))))) (zQ (zB (sL [1,2,3,5,6,4,7,8,9,11,10] O) ?_)))))))
     rw [show s.pl.length+1=(s.pl++[Ai m i 0]).length by simp]
     rw [show s.pts m++[(mapM m).at_ (Ai m i 0)]=WS.pts (WS.mk (s.pl++[Ai m i 0]) p_1 c_1 p_2 c_2) m by simp [WS.pts]]
     exact yK (WS.mk (s.pl++[Ai m i 0]) p_1 c_1 p_2 c_2) s.pl.length (⟨⟨(by simpa using ho_1),(by simpa using ho_2),λp hp=>(List.mem_append.1 hp).elim (hs.small p) (λe=>by rw [xO.1 e];exact EI Z),Ku hs.dst (λj hj=>(ha.elim id (λh=>absurd h.1 Z)).2 j Z)⟩,GB.snoc _ _,by simp,by simp,DI _ _,λa ha=>by simp only [xL,List.length_singleton] at ha;omega,Lk λj hj=>(ha.elim id (λh=>absurd h.1 Z)).2 j Z⟩) (sF O) (sl (sl sr))
    ·replace hc4:=xS hc4
     refine yO (k:=10) (u:=(vN a.toNat)) O (by show Value.int _ _=Value.int _ _;congr 1;omega) (zC ?_)
     obtain ⟨ha1,ha2,ha3⟩:=ha.resolve_left (λh=>by have:=h.1;omega)
     exact yK s a.toNat (⟨hs,GB.refl _,Z,Z,ha3,(λa ha=>.inl ha),Ll hs.dst Z ha3⟩) (sF O) sr
   ·intro s1 n1 hJ
    obtain ⟨hs1,hm1,hl1,hn1,hg1,hu1,hf1⟩:=hJ
    refine zA (zH (AL O (AL O (AD (v:=(pP b4 0)) (AB (j:=0) O O underlying71 sizeOf3 O jY O) O (Fj 1 (off:=0) (vs:=[(vN n1)]) (cs':=[(vN n1),(vI 0),(vI 0)]) (AI O) O sizeOf3 O (oNl' (zB (sL [1,2,3,5,6,7,8,10,4] O) (zF (zA (zH (AL O ?_)))))))))))
    refine AD (AS (c:=(1:Int)) O O jY) O (asg' O (oNl' (zB (sL [1,2,3,5,6,7,8,10,4] O) (zk (zZ (zX (q4 (AL O (AD (Ab (c:=true) O O jY) O (oNl' (zB (sL [1,2,3,5,6,7,8,10,4,25] O) ?_)))))))))))
    refine zA (zV O (zC (q1 (zI (zX (C8 (El 18++[(18,false),(19,false)]) sr (Bp O (Bp O (Bp O (Al (v:=(pP b1 8)) O (AA O underlying26 O sizeOf5 O) (BQ 9 (vK .u8 m.fst) Wo O ?_)))))))))))
    refine Al O (Aq (c:=((m.fst:Nat):Int)) O underlying5 underlying3 (CP Z)) (Al O (AS (c:=((1+m.fst:Nat):Int)) O O (AV (a:=1) (b:=m.fst) Z)) (Bp O (Al (v:=(pP b1 8)) O (AA O underlying26 O sizeOf5 O) (BQ 9 (vK .u8 m.fst) Wo O (Al O (Gn (c:=((m.fst/3:Nat):Int)) O O Z (OJ (a:=m.fst) (b:=3) Z)) (Al O (Aq (c:=((m.fst/3:Nat):Int)) O underlying5 underlying3 (CP Z)) ?_))))))
    have hmul:i*(m.fst/3)<=36*85:=Nat.mul_le_mul Z hf3
    refine Al O (Bo (c:=((i*(m.fst/3):Nat):Int)) O O (Cr (a:=i) (b:=m.fst/3) Z)) (Al O (AS (c:=(((1+m.fst)+(i*(m.fst/3)):Nat):Int)) O O (AV (a:=1+m.fst) (b:=i*(m.fst/3)) Z)) ?_)
    obtain ⟨r9,hr9⟩:∃r,r=JI m i 1:=⟨_,rfl⟩
    have hr3:r9<3:=by rw [hr9];exact Nat.mod_lt _ jY
    refine Al O (CE (c:=((r9:Nat):Int)) O O jY (by rw [hr9];exact JH (a:=1+m.fst+i*(m.fst/3)) (b:=3))) (Al (v:=(pP (pB gc.p) (pO gc.p+i*6))) O (AO (j:=i) O O gc.ok underlying153 sizeOf155 O Z) (Al (v:=(pP (pB gc.p) (pO gc.p+(i*6+r9*2)))) O (AB (j:=r9) O O underlying155 sizeOf72 O hr3 (Nat.add_assoc _ _ _)) (Al (v:=(aG (Ay (Ai m i 1)))) O (AM (vs:=Ay (Ai m i 1)) (i:=2) O O (A8.ne gc.ok Z) Cl (JO _ i r9 Z hr3 _ O _ (by rw [hr9];rfl)) O) (zN O (al Pe O λb6=>zD (sl sr) (zN O (Ah O sizeOf72 O (zD (sl sr) (zQ (zB (sL [1,2,3,5,6,7,8,10,4,9] O) ?_))))))))))
    refine q2 (asg' O (oNl' (q1 (q4 (asg' O (oNl' (zA (zI ?_))))))))
    refine yE (tg λ(k:Nat) (a:Int)=>k<=s1.pl.length/\((a = -1/\∀j,j<k->s1.pl.getD j (0,0)≠Ai m i 1)\/0<=a/\a<(k:Int)/\s1.pl.getD (Int.toNat a) (0,0)=Ai m i 1)) (tg λ(k:Nat) (a:Int)=>[(1,(pP b1 0)),(2,(pP b2 0)),(3,(pP b3 0)),(5,(qz gc.p ((Aw m).length) gc.c)),(6,(vN i)),(7,(pP b4 0)),(8,(vI 1)),(4,(qz s1.p1 s1.pl.length s1.c1)),(9,(pP b6 0)),(11,(vN k)),(10,(vI a))]) (tg λ(k:Nat) (a:Int)=>[AY b6 72 (Ay (Ai m i 1)),AY b5 72 (Ay (Ai m i 0)),AY b4 71 ([(vN n1),(vI 0),(vI 0)]),AN gc.p (rowsL A7 (Aw m)),rowW s1.p1 72 2 s1.pl.length s1.c1 (rowsL Ay s1.pl),rowW none 71 3 0 0 (rowsL Af ([])),rowW p3 71 3 ts.length c3 (rowsL Af ts),rowW s1.p2 90 2 s1.pl.length s1.c2 (rowsL CT (s1.pts m)),AY b3 87 ([(qz s1.p2 s1.pl.length s1.c2),(qz p3 ts.length c3),jj]),AY b2 87 ([jj,jj,jj]),AY b1 26 (E2 m),AN m.p (DC m.cs)]) (tg λ(k:Nat) (a:Int)=>s1.pl.length-k) 0 (-1:Int) (⟨xJ _,.inl ⟨rfl,λj hj=>absurd hj (Nat.not_lt_zero _)⟩⟩) (sF O) sr (λk a hJ=>?_)
    obtain ⟨hk,ha⟩:=hJ
    refine zX (q4 (AL O (AL O (AD (v:=(vN s1.pl.length)) (AE O underlying152) O (AD (Ab (c:=(decide (k<s1.pl.length))) O O (DA (a:=k) (b:=s1.pl.length))) O (oNl' (zB (sL [1,2,3,5,6,7,8,4,9,11,10,49] O) (zA ?_))))))))
    refine zK O (λhc2=>?_) (λhc2=>?_)
    ·replace hc2:=xT hc2
     refine zC (q1 (zI (zX (C8 (El 6) sr (Bp O (Bp O (Al (v:=(pP (pB s1.p1) (pO s1.p1+k*2))) O (AO (j:=k) O O hs1.o1.row underlying152 sizeOf72 O Z) (Al (v:=(aG (Ay (s1.pl.getD k ((0,0):P2))))) O (Cp (vs:=Ay (s1.pl.getD k ((0,0):P2))) (i:=4) O O hs1.o1 (AZ C4 _) (A8.ne hs1.o1.row Z) Cl (Ae C4 _ _ _ Z) (C4 _)) (Ej 0 Cl O (Al O (Bu (c:=decide (s1.pl.getD k ((0,0):P2)=(Ai m i 1))) O O eqGuardType72 (Nm 9998 (s1.pl.getD k ((0,0):P2)) (Ai m i 1))) (zQ ?_)))))))))))
     refine zB (sL [1,2,3,5,6,7,8,4,9,11,10,57] O) (zA ?_)
     refine zK O (λhc3=>?_) (λhc3=>?_)
     ·replace hc3:=xT hc3
      refine zH (AL O (asg' O (oNl' (zB (sL [1,2,3,5,6,7,8,4,9,11,10] O) (zF (zA (zH (AL O (AD (AS (c:=((k+1:Nat):Int)) O O (AV (a:=k) (b:=1) Z)) O (asg' O (oNl' ?_)))))))))))
      exact zB (sL [1,2,3,5,6,7,8,4,9,11,10] O) (zn (k+1) (k:Int) (⟨Z,.inr ⟨Z,Z,by simpa using hc3⟩⟩) Z (sF O) sr)
     ·replace hc3:=xS hc3
      exact zC (zF (zA (zH (AL O (AD (AS (c:=((k+1:Nat):Int)) O O (AV (a:=k) (b:=1) Z)) O (asg' O (oNl' (zB (sL [1,2,3,5,6,7,8,4,9,11,10] O) (zn (k+1) a (⟨Z,ha.elim (λh=>.inl ⟨h.1,λj hj=>by rcases Nat.lt_or_ge j k with h1|h1;exact h.2 j h1;(obtain rfl:j=k:=by omega);simpa using hc3⟩) (λh=>.inr ⟨h.1,Z,h.2.2⟩)⟩) Z (sF O) sr)))))))))
    ·replace hc2:=xS hc2
     refine zU (zO (zl (zP (q1 (q4 (AL O (AD (Ab (c:=(decide (a<(0:Int)))) O O O) O (oNl' (zB (sL [1,2,3,5,6,7,8,4,9,11,10,60] O) (zA ?_))))))))))
     refine yh (tg λ(s2:WS) (n2:Nat)=>WS.Ok s2/\GB s1.pl (WS.pl s2)/\(WS.pl s2).length<=s1.pl.length+1/\n2<(WS.pl s2).length/\(WS.pl s2).getD n2 (0,0)=Ai m i 1/\(∀a,a<(WS.pl s2).length->a<s1.pl.length\/a=n2)/\(WS.pl s2,n2)=GP s1.pl (Ai m i 1)) (tg λ(s2:WS) (n2:Nat)=>[(1,(pP b1 0)),(2,(pP b2 0)),(3,(pP b3 0)),(5,(qz gc.p ((Aw m).length) gc.c)),(6,(vN i)),(7,(pP b4 0)),(8,(vI 1)),(10,(vN n2)),(4,(qz s2.p1 s2.pl.length s2.c1))]) (tg λ(s2:WS) (n2:Nat)=>[AY b6 72 (Ay (Ai m i 1)),AY b5 72 (Ay (Ai m i 0)),AY b4 71 ([(vN n1),(vI 0),(vI 0)]),AN gc.p (rowsL A7 (Aw m)),rowW s2.p1 72 2 s2.pl.length s2.c1 (rowsL Ay s2.pl),rowW none 71 3 0 0 (rowsL Af ([])),rowW p3 71 3 ts.length c3 (rowsL Af ts),rowW s2.p2 90 2 s2.pl.length s2.c2 (rowsL CT (s2.pts m)),AY b3 87 ([(qz s2.p2 s2.pl.length s2.c2),(qz p3 ts.length c3),jj]),AY b2 87 ([jj,jj,jj]),AY b1 26 (E2 m),AN m.p (DC m.cs)]) ?_ ?_
     ·refine zK O (λhc4=>?_) (λhc4=>?_)
      ·replace hc4:=xT hc4
       refine q4 (AL O (AD (v:=(vN s1.pl.length)) (AE O underlying152) O (asg' O (q3 (sL [1,2,3,5,6,7,8,4,9,11,10] O) (AL O (Ak 0 Cl O (ze (V:=λb7=>(qz (jk b7) 1 1)) (T:=72) (cs:=Ay (Ai m i 1)) (AI O) (Ax (z:=.agg (Ay ((0,0):P2)).toArray) (cs:=Ay (Ai m i 1)) (pv:=[(0,(aG (Ay (Ai m i 1))))]) underlying152 sizeOf72 zeroValue72 jY jY O (FQ (Ai m i 1))) O (A_ O) λb7=>zw 5 (j:=0) (cs2:=rowsL Ay (s1.pl++[(Ai m i 1)])) Wl O hs1.o1 (AZ C4 _) O O O O O jY (Ma Z) Z (by rw [Bb];rfl) O λp_3 c_3 ho_3 hne_3=>asg' O (oNl' (zB (sL [1,2,3,5,6,7,8,4,9,11,10] O) ?_)))))))))
       refine zA (rC [(0,true),(1,true),(2,true),(3,true),(4,false),(5,false),(6,false),(7,true)] 8 [] (sk (sk (sk (sk (sk (sk (sk (sk (sl sr))))))))) (sk (sk (sk (sk (sk (sk (sk (sk (sl sr))))))))) jV (λ_ _ d _ _ h=>by cases d<;>exact h) (vE (v:=(pP b3 0)) O (AA O underlying87 O sizeOf85 O) O (vE O (AH (i:=8) (v:=(qz s1.p2 s1.pl.length s1.c2)) O O TP.a O) O (vE (v:=(aG (E2 m))) O (Ad (i:=10) (vs:=E2 m) O O ON.a ON.s O O) O (vE (v:=(aG (Ay (Ai m i 1)))) O (Ad (i:=1) (vs:=Ay (Ai m i 1)) O O Cl.a Cl.s O O) O (zu O (C3 call82 (λw hw=>I6 m (Ai m i 1) (EI Z) w (CL hw 12 O lm)) O (zp (sk (sk (sk (sk (sk (sk (sk (sk (sl sr))))))))) (zu O (ze (V:=λb8=>(qz (jk b8) 1 1)) (T:=90) (cs:=CT ((mapM m).at_ (Ai m i 1))) (AI O) (Ax (z:=.agg (CT ((0,0):Int×Int)).toArray) (cs:=CT ((mapM m).at_ (Ai m i 1))) (pv:=[(0,(aG (CT ((mapM m).at_ (Ai m i 1)))))]) underlying85 sizeOf90 zeroValue90 jY jY O (FR ((mapM m).at_ (Ai m i 1)))) O (A_ O) λb8=>zp (sl (sk (sk (sk (sk (sk (sk (sk (sk (sl sr)))))))))) ?_))))))))))
       refine zu O (zw 9 (j:=0) (cs2:=rowsL CT ((s1.pts m)++[((mapM m).at_ (Ai m i 1))])) bB O hs1.o2 (by rw [AZ F4];simp [WS.pts]) O O O O O jY (Ma Z) Z (by rw [Bb];rfl) O λp_4 c_4 ho_4 hne_4=>zp (sl (sk (sk (sk (sk (sk (sk (sk (sk (sl sr)))))))))) (vE (v:=(pP b3 0)) O (AA O underlying87 O sizeOf85 O) O (yL O (Fj 10 (off:=0) (vs:=[(qz p_4 (s1.pl.length+1) c_4)]) (cs':=[(qz p_4 (s1.pl.length+1) c_4),(qz p3 ts.length c3),jj]) (AI O) O sizeOf85 O (zD (sl (sk (sk (sk (sk (sk (sk (sk (sk (sl (sl sr))))))))))) (zQ (zB (sL [1,2,3,5,6,7,8,4,9,11,10] O) ?_)))))))
       rw [show s1.pl.length+1=(s1.pl++[Ai m i 1]).length by simp]
       rw [show s1.pts m++[(mapM m).at_ (Ai m i 1)]=WS.pts (WS.mk (s1.pl++[Ai m i 1]) p_3 c_3 p_4 c_4) m by simp [WS.pts]]
       exact yK (WS.mk (s1.pl++[Ai m i 1]) p_3 c_3 p_4 c_4) s1.pl.length (⟨⟨(by simpa using ho_3),(by simpa using ho_4),λp hp=>(List.mem_append.1 hp).elim (hs1.small p) (λe=>by rw [xO.1 e];exact EI Z),Ku hs1.dst (λj hj=>(ha.elim id (λh=>absurd h.1 Z)).2 j Z)⟩,GB.snoc _ _,by simp,by simp,DI _ _,λa ha=>by simp only [xL,List.length_singleton] at ha;omega,Lk λj hj=>(ha.elim id (λh=>absurd h.1 Z)).2 j Z⟩) (sF O) (sl (sl sr))
      ·replace hc4:=xS hc4
       refine yO (k:=10) (u:=(vN a.toNat)) O (by show Value.int _ _=Value.int _ _;congr 1;omega) (zC ?_)
       obtain ⟨ha1,ha2,ha3⟩:=ha.resolve_left (λh=>by have:=h.1;omega)
       exact yK s1 a.toNat (⟨hs1,GB.refl _,Z,Z,ha3,(λa ha=>.inl ha),Ll hs1.dst Z ha3⟩) (sF O) sr
     ·intro s2 n2 hJ
      obtain ⟨hs2,hm2,hl2,hn2,hg2,hu2,hf2⟩:=hJ
      refine zA (zH (AL O (AL O (AD (v:=(pP b4 1)) (AB (j:=1) O O underlying71 sizeOf3 O jY O) O (Fj 2 (off:=1) (vs:=[(vN n2)]) (cs':=[(vN n1),(vN n2),(vI 0)]) (AI O) O sizeOf3 O (oNl' (zB (sL [1,2,3,5,6,7,8,10,4] O) (zF (zA (zH (AL O ?_)))))))))))
      refine AD (AS (c:=(2:Int)) O O jY) O (asg' O (oNl' (zB (sL [1,2,3,5,6,7,8,10,4] O) (zk (zZ (zX (q4 (AL O (AD (Ab (c:=true) O O jY) O (oNl' (zB (sL [1,2,3,5,6,7,8,10,4,25] O) ?_)))))))))))
      refine zA (zV O (zC (q1 (zI (zX (C8 (El 18++[(18,false),(19,false)]) sr (Bp O (Bp O (Bp O (Al (v:=(pP b1 8)) O (AA O underlying26 O sizeOf5 O) (BQ 10 (vK .u8 m.fst) Wo O ?_)))))))))))
      refine Al O (Aq (c:=((m.fst:Nat):Int)) O underlying5 underlying3 (CP Z)) (Al O (AS (c:=((2+m.fst:Nat):Int)) O O (AV (a:=2) (b:=m.fst) Z)) (Bp O (Al (v:=(pP b1 8)) O (AA O underlying26 O sizeOf5 O) (BQ 10 (vK .u8 m.fst) Wo O (Al O (Gn (c:=((m.fst/3:Nat):Int)) O O Z (OJ (a:=m.fst) (b:=3) Z)) (Al O (Aq (c:=((m.fst/3:Nat):Int)) O underlying5 underlying3 (CP Z)) ?_))))))
      have hmul:i*(m.fst/3)<=36*85:=Nat.mul_le_mul Z hf3
      refine Al O (Bo (c:=((i*(m.fst/3):Nat):Int)) O O (Cr (a:=i) (b:=m.fst/3) Z)) (Al O (AS (c:=(((2+m.fst)+(i*(m.fst/3)):Nat):Int)) O O (AV (a:=2+m.fst) (b:=i*(m.fst/3)) Z)) ?_)
      obtain ⟨r9,hr9⟩:∃r,r=JI m i 2:=⟨_,rfl⟩
      have hr3:r9<3:=by rw [hr9];exact Nat.mod_lt _ jY
      refine Al O (CE (c:=((r9:Nat):Int)) O O jY (by rw [hr9];exact JH (a:=2+m.fst+i*(m.fst/3)) (b:=3))) (Al (v:=(pP (pB gc.p) (pO gc.p+i*6))) O (AO (j:=i) O O gc.ok underlying153 sizeOf155 O Z) (Al (v:=(pP (pB gc.p) (pO gc.p+(i*6+r9*2)))) O (AB (j:=r9) O O underlying155 sizeOf72 O hr3 (Nat.add_assoc _ _ _)) (Al (v:=(aG (Ay (Ai m i 2)))) O (AM (vs:=Ay (Ai m i 2)) (i:=3) O O (A8.ne gc.ok Z) Cl (JO _ i r9 Z hr3 _ O _ (by rw [hr9];rfl)) O) (zN O (al Pe O λb7=>zD (sl sr) (zN O (Ah O sizeOf72 O (zD (sl sr) (zQ (zB (sL [1,2,3,5,6,7,8,10,4,9] O) ?_))))))))))
      refine q2 (asg' O (oNl' (q1 (q4 (asg' O (oNl' (zA (zI ?_))))))))
      refine yE (tg λ(k:Nat) (a:Int)=>k<=s2.pl.length/\((a = -1/\∀j,j<k->s2.pl.getD j (0,0)≠Ai m i 2)\/0<=a/\a<(k:Int)/\s2.pl.getD (Int.toNat a) (0,0)=Ai m i 2)) (tg λ(k:Nat) (a:Int)=>[(1,(pP b1 0)),(2,(pP b2 0)),(3,(pP b3 0)),(5,(qz gc.p ((Aw m).length) gc.c)),(6,(vN i)),(7,(pP b4 0)),(8,(vI 2)),(4,(qz s2.p1 s2.pl.length s2.c1)),(9,(pP b7 0)),(11,(vN k)),(10,(vI a))]) (tg λ(k:Nat) (a:Int)=>[AY b7 72 (Ay (Ai m i 2)),AY b6 72 (Ay (Ai m i 1)),AY b5 72 (Ay (Ai m i 0)),AY b4 71 ([(vN n1),(vN n2),(vI 0)]),AN gc.p (rowsL A7 (Aw m)),rowW s2.p1 72 2 s2.pl.length s2.c1 (rowsL Ay s2.pl),rowW none 71 3 0 0 (rowsL Af ([])),rowW p3 71 3 ts.length c3 (rowsL Af ts),rowW s2.p2 90 2 s2.pl.length s2.c2 (rowsL CT (s2.pts m)),AY b3 87 ([(qz s2.p2 s2.pl.length s2.c2),(qz p3 ts.length c3),jj]),AY b2 87 ([jj,jj,jj]),AY b1 26 (E2 m),AN m.p (DC m.cs)]) (tg λ(k:Nat) (a:Int)=>s2.pl.length-k) 0 (-1:Int) (⟨xJ _,.inl ⟨rfl,λj hj=>absurd hj (Nat.not_lt_zero _)⟩⟩) (sF O) sr (λk a hJ=>?_)
      obtain ⟨hk,ha⟩:=hJ
      refine zX (q4 (AL O (AL O (AD (v:=(vN s2.pl.length)) (AE O underlying152) O (AD (Ab (c:=(decide (k<s2.pl.length))) O O (DA (a:=k) (b:=s2.pl.length))) O (oNl' (zB (sL [1,2,3,5,6,7,8,4,9,11,10,49] O) (zA ?_))))))))
      refine zK O (λhc2=>?_) (λhc2=>?_)
      ·replace hc2:=xT hc2
       refine zC (q1 (zI (zX (C8 (El 6) sr (Bp O (Bp O (Al (v:=(pP (pB s2.p1) (pO s2.p1+k*2))) O (AO (j:=k) O O hs2.o1.row underlying152 sizeOf72 O Z) (Al (v:=(aG (Ay (s2.pl.getD k ((0,0):P2))))) O (Cp (vs:=Ay (s2.pl.getD k ((0,0):P2))) (i:=5) O O hs2.o1 (AZ C4 _) (A8.ne hs2.o1.row Z) Cl (Ae C4 _ _ _ Z) (C4 _)) (Ej 0 Cl O (Al O (Bu (c:=decide (s2.pl.getD k ((0,0):P2)=(Ai m i 2))) O O eqGuardType72 (Nm 9998 (s2.pl.getD k ((0,0):P2)) (Ai m i 2))) (zQ ?_)))))))))))
       refine zB (sL [1,2,3,5,6,7,8,4,9,11,10,57] O) (zA ?_)
       refine zK O (λhc3=>?_) (λhc3=>?_)
       ·replace hc3:=xT hc3
        refine zH (AL O (asg' O (oNl' (zB (sL [1,2,3,5,6,7,8,4,9,11,10] O) (zF (zA (zH (AL O (AD (AS (c:=((k+1:Nat):Int)) O O (AV (a:=k) (b:=1) Z)) O (asg' O (oNl' ?_)))))))))))
        exact zB (sL [1,2,3,5,6,7,8,4,9,11,10] O) (zn (k+1) (k:Int) (⟨Z,.inr ⟨Z,Z,by simpa using hc3⟩⟩) Z (sF O) sr)
       ·replace hc3:=xS hc3
        exact zC (zF (zA (zH (AL O (AD (AS (c:=((k+1:Nat):Int)) O O (AV (a:=k) (b:=1) Z)) O (asg' O (oNl' (zB (sL [1,2,3,5,6,7,8,4,9,11,10] O) (zn (k+1) a (⟨Z,ha.elim (λh=>.inl ⟨h.1,λj hj=>by rcases Nat.lt_or_ge j k with h1|h1;exact h.2 j h1;(obtain rfl:j=k:=by omega);simpa using hc3⟩) (λh=>.inr ⟨h.1,Z,h.2.2⟩)⟩) Z (sF O) sr)))))))))
      ·replace hc2:=xS hc2
       refine zU (zO (zl (zP (q1 (q4 (AL O (AD (Ab (c:=(decide (a<(0:Int)))) O O O) O (oNl' (zB (sL [1,2,3,5,6,7,8,4,9,11,10,60] O) (zA ?_))))))))))
       refine yh (tg λ(s3:WS) (n3:Nat)=>WS.Ok s3/\GB s2.pl (WS.pl s3)/\(WS.pl s3).length<=s2.pl.length+1/\n3<(WS.pl s3).length/\(WS.pl s3).getD n3 (0,0)=Ai m i 2/\(∀a,a<(WS.pl s3).length->a<s2.pl.length\/a=n3)/\(WS.pl s3,n3)=GP s2.pl (Ai m i 2)) (tg λ(s3:WS) (n3:Nat)=>[(1,(pP b1 0)),(2,(pP b2 0)),(3,(pP b3 0)),(5,(qz gc.p ((Aw m).length) gc.c)),(6,(vN i)),(7,(pP b4 0)),(8,(vI 2)),(10,(vN n3)),(4,(qz s3.p1 s3.pl.length s3.c1))]) (tg λ(s3:WS) (n3:Nat)=>[AY b7 72 (Ay (Ai m i 2)),AY b6 72 (Ay (Ai m i 1)),AY b5 72 (Ay (Ai m i 0)),AY b4 71 ([(vN n1),(vN n2),(vI 0)]),AN gc.p (rowsL A7 (Aw m)),rowW s3.p1 72 2 s3.pl.length s3.c1 (rowsL Ay s3.pl),rowW none 71 3 0 0 (rowsL Af ([])),rowW p3 71 3 ts.length c3 (rowsL Af ts),rowW s3.p2 90 2 s3.pl.length s3.c2 (rowsL CT (s3.pts m)),AY b3 87 ([(qz s3.p2 s3.pl.length s3.c2),(qz p3 ts.length c3),jj]),AY b2 87 ([jj,jj,jj]),AY b1 26 (E2 m),AN m.p (DC m.cs)]) ?_ ?_
       ·refine zK O (λhc4=>?_) (λhc4=>?_)
        ·replace hc4:=xT hc4
         refine q4 (AL O (AD (v:=(vN s2.pl.length)) (AE O underlying152) O (asg' O (q3 (sL [1,2,3,5,6,7,8,4,9,11,10] O) (AL O (Ak 0 Cl O (ze (V:=λb8=>(qz (jk b8) 1 1)) (T:=72) (cs:=Ay (Ai m i 2)) (AI O) (Ax (z:=.agg (Ay ((0,0):P2)).toArray) (cs:=Ay (Ai m i 2)) (pv:=[(0,(aG (Ay (Ai m i 2))))]) underlying152 sizeOf72 zeroValue72 jY jY O (FQ (Ai m i 2))) O (A_ O) λb8=>zw 6 (j:=0) (cs2:=rowsL Ay (s2.pl++[(Ai m i 2)])) Wl O hs2.o1 (AZ C4 _) O O O O O jY (Ma Z) Z (by rw [Bb];rfl) O λp_5 c_5 ho_5 hne_5=>asg' O (oNl' (zB (sL [1,2,3,5,6,7,8,4,9,11,10] O) ?_)))))))))
         refine zA (rC [(0,true),(1,true),(2,true),(3,true),(4,false),(5,false),(6,false),(7,true)] 8 [] (sk (sk (sk (sk (sk (sk (sk (sk (sk (sl sr)))))))))) (sk (sk (sk (sk (sk (sk (sk (sk (sk (sl sr)))))))))) jV (λ_ _ d _ _ h=>by cases d<;>exact h) (vE (v:=(pP b3 0)) O (AA O underlying87 O sizeOf85 O) O (vE O (AH (i:=9) (v:=(qz s2.p2 s2.pl.length s2.c2)) O O TP.a O) O (vE (v:=(aG (E2 m))) O (Ad (i:=11) (vs:=E2 m) O O ON.a ON.s O O) O (vE (v:=(aG (Ay (Ai m i 2)))) O (Ad (i:=1) (vs:=Ay (Ai m i 2)) O O Cl.a Cl.s O O) O (zu O (C3 call82 (λw hw=>I6 m (Ai m i 2) (EI Z) w (CL hw 13 O lm)) O (zp (sk (sk (sk (sk (sk (sk (sk (sk (sk (sl sr)))))))))) (zu O (ze (V:=λb9=>(qz (jk b9) 1 1)) (T:=90) (cs:=CT ((mapM m).at_ (Ai m i 2))) (AI O) (Ax (z:=.agg (CT ((0,0):Int×Int)).toArray) (cs:=CT ((mapM m).at_ (Ai m i 2))) (pv:=[(0,(aG (CT ((mapM m).at_ (Ai m i 2)))))]) underlying85 sizeOf90 zeroValue90 jY jY O (FR ((mapM m).at_ (Ai m i 2)))) O (A_ O) λb9=>zp (sl (sk (sk (sk (sk (sk (sk (sk (sk (sk (sl sr))))))))))) ?_))))))))))
         refine zu O (zw 10 (j:=0) (cs2:=rowsL CT ((s2.pts m)++[((mapM m).at_ (Ai m i 2))])) bB O hs2.o2 (by rw [AZ F4];simp [WS.pts]) O O O O O jY (Ma Z) Z (by rw [Bb];rfl) O λp_6 c_6 ho_6 hne_6=>zp (sl (sk (sk (sk (sk (sk (sk (sk (sk (sk (sl sr))))))))))) (vE (v:=(pP b3 0)) O (AA O underlying87 O sizeOf85 O) O (yL O (Fj 11 (off:=0) (vs:=[(qz p_6 (s2.pl.length+1) c_6)]) (cs':=[(qz p_6 (s2.pl.length+1) c_6),(qz p3 ts.length c3),jj]) (AI O) O sizeOf85 O (zD (sl (sk (sk (sk (sk (sk (sk (sk (sk (sk (sl (sl sr)))))))))))) (zQ (zB (sL [1,2,3,5,6,7,8,4,9,11,10] O) ?_)))))))
         rw [show s2.pl.length+1=(s2.pl++[Ai m i 2]).length by simp]
         rw [show s2.pts m++[(mapM m).at_ (Ai m i 2)]=WS.pts (WS.mk (s2.pl++[Ai m i 2]) p_5 c_5 p_6 c_6) m by simp [WS.pts]]
         exact yK (WS.mk (s2.pl++[Ai m i 2]) p_5 c_5 p_6 c_6) s2.pl.length (⟨⟨(by simpa using ho_5),(by simpa using ho_6),λp hp=>(List.mem_append.1 hp).elim (hs2.small p) (λe=>by rw [xO.1 e];exact EI Z),Ku hs2.dst (λj hj=>(ha.elim id (λh=>absurd h.1 Z)).2 j Z)⟩,GB.snoc _ _,by simp,by simp,DI _ _,λa ha=>by simp only [xL,List.length_singleton] at ha;omega,Lk λj hj=>(ha.elim id (λh=>absurd h.1 Z)).2 j Z⟩) (sF O) (sl (sl sr))
        ·replace hc4:=xS hc4
         refine yO (k:=10) (u:=(vN a.toNat)) O (by show Value.int _ _=Value.int _ _;congr 1;omega) (zC ?_)
         obtain ⟨ha1,ha2,ha3⟩:=ha.resolve_left (λh=>by have:=h.1;omega)
         exact yK s2 a.toNat (⟨hs2,GB.refl _,Z,Z,ha3,(λa ha=>.inl ha),Ll hs2.dst Z ha3⟩) (sF O) sr
       ·intro s3 n3 hJ
        obtain ⟨hs3,hm3,hl3,hn3,hg3,hu3,hf3⟩:=hJ
        refine zA (zH (AL O (AL O (AD (v:=(pP b4 2)) (AB (j:=2) O O underlying71 sizeOf3 O jY O) O (Fj 3 (off:=2) (vs:=[(vN n3)]) (cs':=[(vN n1),(vN n2),(vN n3)]) (AI O) O sizeOf3 O (oNl' (zB (sL [1,2,3,5,6,7,8,10,4] O) (zF (zA (zH (AL O ?_)))))))))))
        refine AD (AS (c:=(3:Int)) O O jY) O (asg' O (oNl' (zB (sL [1,2,3,5,6,7,8,10,4] O) (zk (zZ (zX (q4 (AL O (AD (Ab (c:=false) O O jY) O (oNl' (zB (sL [1,2,3,5,6,7,8,10,4,25] O) ?_)))))))))))
        refine zA (zS O (zU (zO (zO (zP (zA (zH (AD (v:=(pP b3 1)) (AA O underlying87 O sizeOf28 O) O (BG 9 (qz p3 ts.length c3) C5 O (Ak 3 Ec O (ze (V:=λb8=>(qz (jk b8) 1 1)) (T:=71) (cs:=Af (n1,n2,n3)) (AI O) (Ax (z:=.agg (Af jJ).toArray) (cs:=Af (n1,n2,n3)) (pv:=[(0,(aG ([(vN n1),(vN n2),(vN n3)])))]) underlying28 sizeOf71 zeroValue71 jY jY O (G9 (n1,n2,n3))) O (A_ O) λb8=>?_)))))))))))
        refine zw 8 (j:=0) (cs2:=rowsL Af (ts++[(n1,n2,n3)])) a_ O h3 (AZ Av _) O O O O O jY (Ma Z) Z (by rw [Bb];rfl) O λp_7 c_7 ho_7 hne_7=>AD (v:=(pP b3 1)) (AA O underlying87 O sizeOf28 O) O (Fj 10 (off:=1) (vs:=[(qz p_7 (ts.length+1) c_7)]) (cs':=[(qz s3.p2 s3.pl.length s3.c2),(qz p_7 (ts.length+1) c_7),jj]) (AI O) O sizeOf28 O (oNl' (zB (sL [1,2,3,5,6,7,8,10,4] O) (zF (zA (zH (AL O (AD (AS (c:=((i+1:Nat):Int)) O O (AV (a:=i) (b:=1) Z)) O (asg' O (oNl' ?_))))))))))
        refine zB (sL [1,2,3,5,6,7,8,10,4] O) ?_
        rw [show ts.length+1=(ts++[(n1,n2,n3)]).length by simp]
        exact OkQ.round5 (i+1) s3 p_7 c_7 (ts++[(n1,n2,n3)]) (⟨Z,hs3,(by simpa using ho_7),hv.step ((hm1.trans hm2).trans hm3) Z hs3.small ⟨⟨by show n1<_;have:=hm2.1;have:=hm3.1;omega,(hm3.2 _ (by have:=hm2.1;omega)).trans ((hm2.2 _ Z).trans hg1)⟩,⟨by show n2<_;have:=hm3.1;omega,(hm3.2 _ Z).trans hg2⟩,⟨by show n3<_;omega,hg3⟩⟩ (λa ha=>by rcases hu3 a ha with h|h;(rcases hu2 a h with h|h;(rcases hu1 a h with h|h;exact .inl h;exact .inr (.inl h.symm));exact .inr (.inr (.inl h.symm)));exact .inr (.inr (.inr h.symm))) (W3 hv.fn hf1 hf2 hf3)⟩) Z (sF O) (sl (sl (sl (sl (sl sr)))))
 ·replace hc0:=xS hc0
  have hi9:i=(Aw m).length:=by omega
  rw [hi9] at hv
  refine zU (zO (OkQ.round5_exit (zP (q1 (q4 (asg' O (oNl' (zA (zI ?_)))))))))
  refine yR (tg λ(ai:Nat) (p4:Option Addr) (c4:Nat) (ss:List (Tq3))=>ai<=s.pl.length/\OwnOk p4 ss.length c4/\ss.length<=ai*108/\ss=FP m ts s.pl.length ai) (tg λ(ai:Nat) (p4:Option Addr) (c4:Nat) (ss:List (Tq3))=>[(1,(pP b1 0)),(2,(pP b2 0)),(3,(pP b3 0)),(4,(qz s.p1 s.pl.length s.c1)),(12,(vN ai))]) (tg λ(ai:Nat) (p4:Option Addr) (c4:Nat) (ss:List (Tq3))=>[AN gc.p (rowsL A7 (Aw m)),rowW s.p1 72 2 s.pl.length s.c1 (rowsL Ay s.pl),rowW p4 71 3 ss.length c4 (rowsL Af ss),rowW p3 71 3 ts.length c3 (rowsL Af ts),rowW s.p2 90 2 s.pl.length s.c2 (rowsL CT (s.pts m)),AY b3 87 ([(qz s.p2 s.pl.length s.c2),(qz p3 ts.length c3),(qz p4 ss.length c4)]),AY b2 87 ([jj,jj,jj]),AY b1 26 (E2 m),AN m.p (DC m.cs)]) (tg λ(ai:Nat) (p4:Option Addr) (c4:Nat) (ss:List (Tq3))=>s.pl.length-ai) 0 none 0 ([]:List (Tq3)) (⟨xJ _,OwnOk.none,by simp,rfl⟩) (sF O) sr (λai p4 c4 ss hJ=>?_)
  obtain ⟨hai,h4,hsl,hsd⟩:=hJ
  refine zX (q4 (AL O (AL O (AD (v:=(vN s.pl.length)) (AE O underlying152) O (AD (Ab (c:=(decide (ai<s.pl.length))) O O (DA (a:=ai) (b:=s.pl.length))) O (oNl' (zB (sL [1,2,3,4,12,87] O) (zA ?_))))))))
  refine zK O (λhc5=>?_) (λhc5=>?_)
  ·replace hc5:=xT hc5
   refine zC (q1 (zI (q4 (AL O (AD (AS (c:=((ai+1:Nat):Int)) O O (AV (a:=ai) (b:=1) Z)) O (asg' O (oNl' (zB (sL [1,2,3,4,12,13] O) (zA (zI ?_))))))))))
   refine yR (tg λ(bi:Nat) (p5:Option Addr) (c5:Nat) (sq9:List (Tq3))=>bi<=s.pl.length/\ai+1<=bi/\OwnOk p5 sq9.length c5/\sq9.length<=ai*108+bi/\sq9=FP m ts s.pl.length ai++Jy m ts ai (bi-(ai+1))) (tg λ(bi:Nat) (p5:Option Addr) (c5:Nat) (sq9:List (Tq3))=>[(1,(pP b1 0)),(2,(pP b2 0)),(3,(pP b3 0)),(4,(qz s.p1 s.pl.length s.c1)),(12,(vN ai)),(13,(vN bi))]) (tg λ(bi:Nat) (p5:Option Addr) (c5:Nat) (sq9:List (Tq3))=>[AN gc.p (rowsL A7 (Aw m)),rowW s.p1 72 2 s.pl.length s.c1 (rowsL Ay s.pl),rowW p5 71 3 sq9.length c5 (rowsL Af sq9),rowW p3 71 3 ts.length c3 (rowsL Af ts),rowW s.p2 90 2 s.pl.length s.c2 (rowsL CT (s.pts m)),AY b3 87 ([(qz s.p2 s.pl.length s.c2),(qz p3 ts.length c3),(qz p5 sq9.length c5)]),AY b2 87 ([jj,jj,jj]),AY b1 26 (E2 m),AN m.p (DC m.cs)]) (tg λ(bi:Nat) (p5:Option Addr) (c5:Nat) (sq9:List (Tq3))=>s.pl.length-bi) (ai+1) p4 c4 ss (⟨Z,Nat.le_refl _,h4,Z,by rw [hsd,Nat.sub_self];exact (List.append_nil _).symm⟩) (sF O) sr (λbi p5 c5 sq9 hJ=>?_)
   obtain ⟨hbi,hba,h5,hsr,hsq⟩:=hJ
   refine zX (q4 (AL O (AL O (AD (v:=(vN s.pl.length)) (AE O underlying152) O (AD (Ab (c:=(decide (bi<s.pl.length))) O O (DA (a:=bi) (b:=s.pl.length))) O (oNl' (zB (sL [1,2,3,4,12,13,95] O) (zA ?_))))))))
   refine zK O (λhc6=>?_) (λhc6=>?_)
   ·replace hc6:=xT hc6
    refine zC (q1 (zI (q4 (asg' O (oNl' (q1 (q4 (asg' O (oNl' (zA (zI ?_)))))))))))
    refine yE (tg λ(ti:Nat) (cn:Nat)=>ti<=ts.length/\cn<=ti/\cn=Ht ts ai bi ti) (tg λ(ti:Nat) (cn:Nat)=>[(1,(pP b1 0)),(2,(pP b2 0)),(3,(pP b3 0)),(4,(qz s.p1 s.pl.length s.c1)),(12,(vN ai)),(13,(vN bi)),(15,(vN ti)),(14,(vN cn))]) (tg λ(ti:Nat) (cn:Nat)=>[AN gc.p (rowsL A7 (Aw m)),rowW s.p1 72 2 s.pl.length s.c1 (rowsL Ay s.pl),rowW p5 71 3 sq9.length c5 (rowsL Af sq9),rowW p3 71 3 ts.length c3 (rowsL Af ts),rowW s.p2 90 2 s.pl.length s.c2 (rowsL CT (s.pts m)),AY b3 87 ([(qz s.p2 s.pl.length s.c2),(qz p3 ts.length c3),(qz p5 sq9.length c5)]),AY b2 87 ([jj,jj,jj]),AY b1 26 (E2 m),AN m.p (DC m.cs)]) (tg λ(ti:Nat) (cn:Nat)=>ts.length-ti) 0 0 (⟨xJ _,Nat.le_refl _,rfl⟩) (sF O) sr (λti cn hJ=>?_)
    obtain ⟨hti,hcn,hcw⟩:=hJ
    refine zX (q4 (AL O (AD (v:=(pP b3 1)) (AA O underlying87 O sizeOf28 O) O (BG 5 (qz p3 ts.length c3) C5 O (AD (v:=(vN ts.length)) (AE O underlying28) O (AD (Ab (c:=(decide (ti<ts.length))) O O (DA (a:=ti) (b:=ts.length))) O (oNl' (zB (sL [1,2,3,4,12,13,15,14,102] O) (zA ?_)))))))))
    refine zK O (λhc7=>?_) (λhc7=>?_)
    ·replace hc7:=xT hc7
     refine zC (q1 (zI (q4 (AD (v:=(pP b3 1)) (AA O underlying87 O sizeOf28 O) O (BG 5 (qz p3 ts.length c3) C5 O (AL O (AD (v:=(pP (pB p3) (pO p3+ti*3))) (AO (j:=ti) O O h3.row underlying28 sizeOf71 O Z) O (AD (v:=(aG (Af (ts.getD ti jJ)))) (Cp (vs:=Af (ts.getD ti jJ)) (i:=3) O O h3 (AZ Av _) (A8.ne h3.row Z) Ec (Ae Av _ _ _ Z) (Av _)) O (AL O (ck' call42 (VH (ts.getD ti jJ) ai) O (AL O ?_)))))))))))
     refine zi (FM:=[(1,(pP b1 0)),(2,(pP b2 0)),(3,(pP b3 0)),(4,(qz s.p1 s.pl.length s.c1)),(12,(vN ai)),(13,(vN bi)),(15,(vN ti)),(14,(vN cn)),(105,(pP b3 1)),(106,(qz p3 ts.length c3)),(107,(vN ti)),(108,(pP (pB p3) (pO p3+ti*3))),(109,(aG (Af (ts.getD ti jJ)))),(110,(vN ai)),(111,(qa (Gb (ts.getD ti jJ) ai))),(112,(qa (Gb (ts.getD ti jJ) ai))),(120,(qa ((Gb (ts.getD ti jJ) ai)&&(Gb (ts.getD ti jJ) bi))))]) (LM:=[AN gc.p (rowsL A7 (Aw m)),rowW s.p1 72 2 s.pl.length s.c1 (rowsL Ay s.pl),rowW p5 71 3 sq9.length c5 (rowsL Af sq9),rowW p3 71 3 ts.length c3 (rowsL Af ts),rowW s.p2 90 2 s.pl.length s.c2 (rowsL CT (s.pts m)),AY b3 87 ([(qz s.p2 s.pl.length s.c2),(qz p3 ts.length c3),(qz p5 sq9.length c5)]),AY b2 87 ([jj,jj,jj]),AY b1 26 (E2 m),AN m.p (DC m.cs)]) 8 ?_ ?_
     ·rcases xQ (Gb (ts.getD ti jJ) ai) with hg1|hg1
      ·refine zL (k:=112) (u:=qa true) O (by rw [hg1]) ?_
       have hg1':=hg1
       skip
       exact BI (v:=(pP b3 1)) O (AA O underlying87 O sizeOf28 O) (BI (v:=(qz p3 ts.length c3)) O (AH (i:=5) (v:=(qz p3 ts.length c3)) O O C5.a O) (Gq O (BI (v:=(pP (pB p3) (pO p3+ti*3))) O (AO (j:=ti) O O h3.row underlying28 sizeOf71 O Z) (BI (v:=(aG (Af (ts.getD ti jJ)))) O (Cp (vs:=Af (ts.getD ti jJ)) (i:=3) O O h3 (AZ Av _) (A8.ne h3.row Z) Ec (Ae Av _ _ _ Z) (Av _)) (Gq O (zg (v:=(qa (Gb (ts.getD ti jJ) bi))) (AU O) (Am (args:=[(aG (Af (ts.getD ti jJ))),(vN bi)]) O O call42) (λw hw=>VH (ts.getD ti jJ) bi w) O (A_ O) (AD (v:=(qa (Gb (ts.getD ti jJ) bi))) (AX O O) O (oNl' (zT Cd (xR _))))))))))
      ·refine zL (k:=112) (u:=qa false) O (by rw [hg1]) ?_
       have hg1':=hg1
       skip
       exact BT O (BT O (BT O (BT O (BT O (BT O (BT O (AD (v:=(qa false)) (AP O O) O (oNl' (zT Cd (xR _))))))))))
     refine oNl' (zB (sL [1,2,3,4,12,13,15,14,120] O) (zA ?_))
     refine zK O (λhc8=>?_) (λhc8=>?_)
     ·simp only [jK] at hc8
      refine zH (AL O (AD (AS (c:=((cn+1:Nat):Int)) O O (AV (a:=cn) (b:=1) Z)) O (asg' O (oNl' (zB (sL [1,2,3,4,12,13,15,14] O) (zF (zA (zH (AL O (AD (AS (c:=((ti+1:Nat):Int)) O O (AV (a:=ti) (b:=1) Z)) O (asg' O ?_)))))))))))
      exact oNl' (zB (sL [1,2,3,4,12,13,15,14] O) (zn (ti+1) (cn+1) (⟨Z,Z,by rw [hcw];exact (Uj hc8).symm⟩) Z (sF O) sr))
     ·simp only [jK] at hc8
      exact zC (zF (zA (zH (AL O (AD (AS (c:=((ti+1:Nat):Int)) O O (AV (a:=ti) (b:=1) Z)) O (asg' O (oNl' (zB (sL [1,2,3,4,12,13,15,14] O) (zn (ti+1) cn (⟨Z,Z,by rw [hcw];exact (Xm hc8).symm⟩) Z (sF O) sr)))))))))
    ·replace hc7:=xS hc7
     have hte:ti=ts.length:=by omega
     rw [hte] at hcw
     refine zU (zO (zl (zP (q2 (AL O (AD (BM (c:=(decide (cn=1))) O O (O5 (a:=cn) (b:=1))) O (oNl' (zB (sL [1,2,3,4,12,13,15,14,124] O) (zA ?_)))))))))
     refine zK O (λhc9=>?_) (λhc9=>?_)
     ·replace hc9:=xT hc9
      refine zH (AD (v:=(pP b3 2)) (AA O underlying87 O sizeOf28 O) O (BG 5 (qz p5 sq9.length c5) C5 O (AL O (AL O (AL O (AL O (AD (Bo (c:=((3*bi:Nat):Int)) O O (Cr (a:=3) (b:=bi) Z)) O (AD (AS (c:=((ai+(3*bi):Nat):Int)) O O (AV (a:=ai) (b:=3*bi) Z)) O (AD (v:=(pP b1 8)) (AA O underlying26 O sizeOf5 O) O (BG 7 (vK .u8 m.fst) Wo O (AD (Aq (c:=((m.fst:Nat):Int)) O underlying5 underlying3 (CP Z)) O ?_)))))))))))
      refine AD (AS (c:=(((ai+(3*bi))+m.fst:Nat):Int)) O O (AV (a:=ai+(3*bi)) (b:=m.fst) Z)) O (AD (CE (c:=((((ai+(3*bi))+m.fst)%5:Nat):Int)) O O Z (JH (a:=(ai+(3*bi))+m.fst) (b:=5))) O (AD (v:=(aG (Af (ai,bi,((ai+(3*bi))+m.fst)%5)))) (Ao (zs:=Af jJ) (vs:=Af (ai,bi,((ai+(3*bi))+m.fst)%5)) (pv:=[(0,(vN ai)),(1,(vN bi)),(2,(vN (((ai+(3*bi))+m.fst)%5)))]) zeroValue71 underlying71 sizeOf3 O (Lx ai bi (((ai+(3*bi))+m.fst)%5))) O (ze (V:=λb4=>(qz (jk b4) 1 1)) (T:=71) (cs:=Af (ai,bi,((ai+(3*bi))+m.fst)%5)) (AI O) (Ax (z:=.agg (Af jJ).toArray) (cs:=Af (ai,bi,((ai+(3*bi))+m.fst)%5)) (pv:=[(0,(aG (Af (ai,bi,((ai+(3*bi))+m.fst)%5))))]) underlying28 sizeOf71 zeroValue71 jY jY O (G9 (ai,bi,((ai+(3*bi))+m.fst)%5))) O (A_ O) λb4=>zw 3 (j:=0) (cs2:=rowsL Af (sq9++[(ai,bi,((ai+(3*bi))+m.fst)%5)])) a_ O h5 (AZ Av _) O O O O O jY (Ma Z) Z (by rw [Bb];rfl) O λp_8 c_8 ho_8 hne_8=>AD (v:=(pP b3 2)) (AA O underlying87 O sizeOf28 O) O (Fj 6 (off:=2) (vs:=[(qz p_8 (sq9.length+1) c_8)]) (cs':=[(qz s.p2 s.pl.length s.c2),(qz p3 ts.length c3),(qz p_8 (sq9.length+1) c_8)]) (AI O) O sizeOf28 O (oNl' (zB (sL [1,2,3,4,12,13,15,14] O) (zF (zA (zH ?_)))))))))
      refine AL O (AD (AS (c:=((bi+1:Nat):Int)) O O (AV (a:=bi) (b:=1) Z)) O (asg' O (oNl' (zB (sL [1,2,3,4,12,13,15,14] O) ?_))))
      rw [show sq9.length+1=(sq9++[(ai,bi,((ai+(3*bi))+m.fst)%5)]).length by simp]
      exact z8 (bi+1) p_8 c_8 (sq9++[(ai,bi,((ai+(3*bi))+m.fst)%5)]) (⟨Z,Z,(by simpa using ho_8),by rw [xL];simp only [List.length_singleton];omega,(by rw [hsq];exact WN Z (by rw [<-hcw,hc9]))⟩) Z (sF O) (sl sr)
     ·replace hc9:=xS hc9
      exact zC (zF (zA (zH (AL O (AD (AS (c:=((bi+1:Nat):Int)) O O (AV (a:=bi) (b:=1) Z)) O (asg' O (oNl' (zB (sL [1,2,3,4,12,13,15,14] O) (z8 (bi+1) p5 c5 sq9 (⟨Z,Z,h5,Z,(by rw [hsq];exact Y2 Z (by rw [<-hcw];exact hc9))⟩) Z (sF O) sr)))))))))
   ·replace hc6:=xS hc6
    exact zU (zO (yC (zP (zF (zA (zH (AL O (AD (AS (c:=((ai+1:Nat):Int)) O O (AV (a:=ai) (b:=1) Z)) O (asg' O (oNl' (zB (sL [1,2,3,4,12,13] O) (z8 (ai+1) p5 c5 sq9 (⟨Z,h5,Z,by rw [hsq,show bi=s.pl.length by omega];rfl⟩) Z (sF O) sr))))))))))))
  ·replace hc5:=xS hc5
   exact zU (zO (yC (zP (q2 (Ak 5 eO O (Fj 6 (off:=0) (vs:=[(qz s.p2 s.pl.length s.c2),(qz p3 ts.length c3),(qz p4 ss.length c4)]) (cs':=[(qz s.p2 s.pl.length s.c2),(qz p3 ts.length c3),(qz p4 ss.length c4)]) (AI O) O sizeOf87 O (oNl' (zB (sL [1,2,3,4,12] O) (zA (zG (ret_one O (An (i:=6) (cs:=[(qz s.p2 s.pl.length s.c2),(qz p3 ts.length c3),(qz p4 ss.length c4)]) O O isAgg87 sizeOf87 O) (λw hw=>(cL hw (WM.mk s.pl ts ss hv hs.dst Z (by rw [hsd,show ai=s.pl.length by omega]) ⟨s.p2,s.c2,hs.o2.row⟩ ⟨p3,c3,h3.row⟩ ⟨p4,c4,h4.row⟩) h3 3 O (GO (S:=λ_=>False) hw 4 O hs.o2 (by rw [AZ F4];simp [WS.pts])) (GO (S:=λ_=>False) hw 3 O h3 (AZ Av _)) (GO (S:=λ_=>False) hw 2 O h4 (AZ Av _)) O)))))))))))))
end
end Go.Proofs.YtbfdamnfcmefmaaGreatDoor
