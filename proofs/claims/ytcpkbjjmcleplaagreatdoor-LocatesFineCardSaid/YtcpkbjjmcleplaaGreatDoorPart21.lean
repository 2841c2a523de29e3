import Derived.Test.YtcpkbjjmcleplaaGreatDoorPart19
import Derived.Test.YtcpkbjjmcleplaaGreatDoorPart20
namespace Go.Proofs.YtcpkbjjmcleplaaGreatDoor
open Go Go.RowKit Go.Proofs.Tryz
open Go.Value renaming slice→qz,bool→qa
set_option linter.unusedVariables false
set_option linter.unusedSimpArgs false
section
set_option maxRecDepth 100000
theorem X5:ElemT prog 138 141 2 16:=⟨underlying138,Cx jV⟩
theorem fb:ElemT prog 23 64 3 24:=⟨underlying23,Cx jV⟩
theorem dX:ElemT prog 98 102 2 16:=⟨underlying98,Cx jV⟩
theorem WT (t:Tq3) (x:Nat) (w:World)  :Calls prog 62 #[(aG (BC t)),(vN x)] w (Ac w (qa (Ih t x))):=by
 refine AV (args:=[(aG (BC t)),(vN x)]) func62 O O (leB O) (zI (sL [0,1] O) (q4 (BH (cs:=BC t) O λb1=>asg' O (q3 (sL [1,2,4] O) (st' (v:=(pP b1 0)) (AB (j:=0) O O underlying64 sizeOf3 O jY O) O (BL 0 (vN t.1) Dc O (AK O (st' (Au (c:=(decide (t.1=x))) O O (K0 (a:=t.1) (b:=x))) O (AK O ?_)))))))))
 refine zg (FM:=[(1,(vN x)),(2,(pP b1 0)),(4,(qa false)),(5,(pP b1 0)),(6,(vN t.1)),(7,(vN x)),(8,(qa (decide (t.1=x)))),(9,(qa (decide (t.1=x)))),(14,(qa ((decide (t.1=x))||(decide (t.2.1=x)))))]) (LM:=[AO b1 64 (BC t)]) 5 ?_ ?_
 ·rcases xO (decide (t.1=x)) with hg1|hg1
  ·refine zN (k:=9) (u:=qa true) O (by rw [hg1]) ?_
   have hg1':=xR hg1
   exact BP O (BP O (BP O (BP O (st' (v:=(qa true)) (ex_pick_true O O) O (oNl' (zT CT (xP _)))))))
  ·refine zN (k:=9) (u:=qa false) O (by rw [hg1]) ?_
   have hg1':=xQ hg1
   exact BV (v:=(pP b1 1)) O (AB (j:=1) O O underlying64 sizeOf3 O jY O) (BV (v:=(vN t.2.1)) O (AR (i:=0) (v:=(vN t.2.1)) O O Dc.a O) (FR O (BV (v:=(qa (decide (t.2.1=x)))) O (Au (c:=(decide (t.2.1=x))) O O (K0 (a:=t.2.1) (b:=x))) (st' (v:=(qa (decide (t.2.1=x)))) (AN O O) O (oNl' (zT CT (xP _)))))))
 refine AK O ?_
 refine zg (FM:=[(1,(vN x)),(2,(pP b1 0)),(4,(qa false)),(5,(pP b1 0)),(6,(vN t.1)),(7,(vN x)),(8,(qa (decide (t.1=x)))),(9,(qa (decide (t.1=x)))),(14,(qa ((decide (t.1=x))||(decide (t.2.1=x))))),(15,(qa ((decide (t.1=x))||(decide (t.2.1=x))))),(20,(qa (((decide (t.1=x))||(decide (t.2.1=x)))||(decide (t.2.2=x)))))]) (LM:=[AO b1 64 (BC t)]) 5 ?_ ?_
 ·rcases xO ((decide (t.1=x))||(decide (t.2.1=x))) with hg2|hg2
  ·refine zN (k:=15) (u:=qa true) O (by rw [hg2]) ?_
   have hg2':=hg2
   simp only [jK] at hg2'
   exact BP O (BP O (BP O (BP O (st' (v:=(qa true)) (ex_pick_true O O) O (oNl' (zT IQ (xP _)))))))
  ·refine zN (k:=15) (u:=qa false) O (by rw [hg2]) ?_
   have hg2':=hg2
   simp only [jK] at hg2'
   exact BV (v:=(pP b1 2)) O (AB (j:=2) O O underlying64 sizeOf3 O jY O) (BV (v:=(vN t.2.2)) O (AR (i:=0) (v:=(vN t.2.2)) O O Dc.a O) (FR O (BV (v:=(qa (decide (t.2.2=x)))) O (Au (c:=(decide (t.2.2=x))) O O (K0 (a:=t.2.2) (b:=x))) (st' (v:=(qa (decide (t.2.2=x)))) (AN O O) O (oNl' (zT IQ (xP _)))))))
 exact asg' O (oNl' (zB (sL [4] O) (zA (zF (ret_one O (rd_tmp (v:=(qa (((decide (t.1=x))||(decide (t.2.1=x)))||(decide (t.2.2=x))))) O) (λw hw=>⟨by first|rfl|simp [Ih,Bool.or_assoc],hw.out⟩))))))
theorem Fi (x0:P2):Instr.fill (λi=>some (i*2,2)) ((Array.range (1*2)).map ((Value.agg (BD ((0,0):P2)).toArray).cells[·%(Value.agg (BD ((0,0):P2)).toArray).cells.size]!)) [(0,.agg (BD x0).toArray)]=some (BD x0).toArray:=by kernel_rfl
theorem Fh (x0:Int×Int):Instr.fill (λi=>some (i*2,2)) ((Array.range (1*2)).map ((Value.agg (CZ ((0,0):Int×Int)).toArray).cells[·%(Value.agg (CZ ((0,0):Int×Int)).toArray).cells.size]!)) [(0,.agg (CZ x0).toArray)]=some (CZ x0).toArray:=by kernel_rfl
theorem H1 (x0:Tq3):Instr.fill (λi=>some (i*3,3)) ((Array.range (1*3)).map ((Value.agg (BC jJ).toArray).cells[·%(Value.agg (BC jJ).toArray).cells.size]!)) [(0,.agg (BC x0).toArray)]=some (BC x0).toArray:=by kernel_rfl
theorem Ml (x0 x1 x2:Nat):Instr.fill (λi=>some (i*1,1)) (BC jJ).toArray [(0,vN x0),(1,vN x1),(2,vN x2)]=some (BC (x0,x1,x2)).toArray:=by kernel_rfl
set_option maxHeartbeats 2000000 in
theorem L7 (m:MQ) (w:World) {S:Nat->Prop} (hm:Ro S w m):Calls prog 27 #[(aG (Em m))] w (Aj (bM m) (λ_=>False) w):=by
 have hf:=m.hfst
 have hf3:m.fst/3<=85:=by omega
 have lm:=Bx (W:=w) hm
 refine AZ (args:=[(aG (Em m))]) (L:=[AI m.p (C7 m.cs)]) func27 O O (leB O) (GT hm Ao) (zI (sL [0] O) (q4 (BH (cs:=Em m) O λb1=>al TW O λb2=>q3 (sL [1,2] O) (al TW O λb3=>zm 102 2 (zm 64 3 (zm 64 3 (oNl' (q2 ?_))))))))
 refine asg' O (zm 141 2 (oNl' (q2 (Af 6 Mi O (cX (S:=S) (cs:=rowsL BA (BT m)) (k:=(BT m).length) (args:=[(aG (Em m))]) call60 (λw hw=>Ub m w (inS hw 7 O lm)) O O O λgc lgc=>asg' O (q6 (sL [1,2,3,4,5] O) (q4 (asg' O (oNl' (zA ?_))))))))))
 refine zM ?_
 refine yq (tg λ(i:Nat) (s:WS) (p3:Option Addr) (c3:Nat) (ts:List (Tq3))=>i<=(BT m).length/\WS.Ok s/\OwnOk p3 ts.length c3/\PT m i (WS.pl s) ts) (tg λ(i:Nat) (s:WS) (p3:Option Addr) (c3:Nat) (ts:List (Tq3))=>[(1,(pP b1 0)),(2,(pP b2 0)),(3,(pP b3 0)),(5,(qz gc.p ((BT m).length) gc.c)),(6,(vN i)),(4,(qz s.p1 s.pl.length s.c1))]) (tg λ(i:Nat) (s:WS) (p3:Option Addr) (c3:Nat) (ts:List (Tq3))=>[AI gc.p (rowsL BA (BT m)),rowW s.p1 141 2 s.pl.length s.c1 (rowsL BD s.pl),rowW none 64 3 0 0 (rowsL BC ([])),rowW p3 64 3 ts.length c3 (rowsL BC ts),rowW s.p2 102 2 s.pl.length s.c2 (rowsL CZ (s.pts m)),AO b3 100 ([(qz s.p2 s.pl.length s.c2),(qz p3 ts.length c3),jj]),AO b2 100 ([jj,jj,jj]),AO b1 49 (Em m),AI m.p (C7 m.cs)]) (tg λ(i:Nat) (s:WS) (p3:Option Addr) (c3:Nat) (ts:List (Tq3))=>(BT m).length-i) 0 (WS.mk [] none 0 none 0) none 0 ([]:List (Tq3)) (⟨xH _,⟨OwnOk.none,OwnOk.none,(λp hp=>by cases hp),Y9⟩,OwnOk.none,fq m⟩) (sF O) sr (λi s p3 c3 ts hJ=>?_)
 obtain ⟨hi,hs,h3,hv⟩:=hJ
 have hpl:=hv.pll
 have htl:=hv.tl
 have hcl:=Gz m
 refine zS (q4 (AK O (AK O (st' (v:=(vN ((BT m).length))) (AD O underlying139) O (st' (Aa (c:=(decide (i<((BT m).length)))) O O (DE (a:=i) (b:=(BT m).length))) O (oNl' (zB (sL [1,2,3,5,6,4,21] O) (zA ?_))))))))
 refine zK O (λhc0=>?_) (λhc0=>?_)
 ·replace hc0:=xR hc0
  refine zG (q1 (zM (q4 (al ax O λb4=>oNl' (q1 (q4 (asg' O (oNl' (zA (zM ?_))))))))))
  refine yF 4 (zl (zS (q4 (AK O (st' (Aa (c:=true) O O jY) O (oNl' (zB (sL [1,2,3,5,6,4,7,8,25] O) (zA (zY O (zG (q1 ?_)))))))))))
  refine zM (zS (B9 (EV 18++[(18,false),(19,false)]) sr (Bi O (Bi O (Bi O (Am (v:=(pP b1 8)) O (AA O underlying49 O sizeOf5 O) (CL 8 (vK .u8 m.fst) VT O (Am O (Al (c:=((m.fst:Nat):Int)) O underlying5 underlying3 (B6 Z)) (Am O (AX (c:=((0+m.fst:Nat):Int)) O O (AU (a:=0) (b:=m.fst) Z)) (Bi O (Am (v:=(pP b1 8)) O (AA O underlying49 O sizeOf5 O) ?_)))))))))))
  refine CL 8 (vK .u8 m.fst) VT O (Am O (Ec (c:=((m.fst/3:Nat):Int)) O O Z (Oq (a:=m.fst) (b:=3) Z)) (Am O (Al (c:=((m.fst/3:Nat):Int)) O underlying5 underlying3 (B6 Z)) ?_))
  have hmul:i*(m.fst/3)<=36*85:=Nat.mul_le_mul Z hf3
  refine Am O (B5 (c:=((i*(m.fst/3):Nat):Int)) O O (DT (a:=i) (b:=m.fst/3) Z)) (Am O (AX (c:=(((0+m.fst)+(i*(m.fst/3)):Nat):Int)) O O (AU (a:=0+m.fst) (b:=i*(m.fst/3)) Z)) ?_)
  obtain ⟨r9,hr9⟩:∃r,r=Uz m i 0:=⟨_,rfl⟩
  have hr3:r9<3:=by rw [hr9];exact Nat.mod_lt _ jY
  refine Am O (Cz (c:=((r9:Nat):Int)) O O jY (by rw [hr9];exact HD (a:=0+m.fst+i*(m.fst/3)) (b:=3))) (Am (v:=(pP (pB gc.p) (pO gc.p+i*6))) O (AQ (j:=i) O O gc.ok underlying139 sizeOf142 O Z) (Am (v:=(pP (pB gc.p) (pO gc.p+(i*6+r9*2)))) O (AB (j:=r9) O O underlying142 sizeOf141 O hr3 (Nat.add_assoc _ _ _)) (Am (v:=(aG (BD (Aq m i 0)))) O (Ak (vs:=BD (Aq m i 0)) (i:=1) O O (BG.ne gc.ok Z) B4 (J9 _ i r9 Z hr3 _ O _ (by rw [hr9];rfl)) O) (zD O (al KZ O λb5=>zC (sl sr) (zD O (An O sizeOf141 O (zC (sl sr) (zP (zB (sL [1,2,3,5,6,4,7,8,9] O) ?_))))))))))
  refine q2 (asg' O (oNl' (q1 (q4 (asg' O (oNl' (zA (zM ?_))))))))
  refine yC (tg λ(k:Nat) (a:Int)=>k<=s.pl.length/\((a = -1/\∀j,j<k->s.pl.getD j (0,0)≠Aq m i 0)\/0<=a/\a<(k:Int)/\s.pl.getD (Int.toNat a) (0,0)=Aq m i 0)) (tg λ(k:Nat) (a:Int)=>[(1,(pP b1 0)),(2,(pP b2 0)),(3,(pP b3 0)),(5,(qz gc.p ((BT m).length) gc.c)),(6,(vN i)),(4,(qz s.p1 s.pl.length s.c1)),(7,(pP b4 0)),(8,(vI 0)),(9,(pP b5 0)),(11,(vN k)),(10,(vI a))]) (tg λ(k:Nat) (a:Int)=>[AO b5 141 (BD (Aq m i 0)),AO b4 64 (BC jJ),AI gc.p (rowsL BA (BT m)),rowW s.p1 141 2 s.pl.length s.c1 (rowsL BD s.pl),rowW none 64 3 0 0 (rowsL BC ([])),rowW p3 64 3 ts.length c3 (rowsL BC ts),rowW s.p2 102 2 s.pl.length s.c2 (rowsL CZ (s.pts m)),AO b3 100 ([(qz s.p2 s.pl.length s.c2),(qz p3 ts.length c3),jj]),AO b2 100 ([jj,jj,jj]),AO b1 49 (Em m),AI m.p (C7 m.cs)]) (tg λ(k:Nat) (a:Int)=>s.pl.length-k) 0 (-1:Int) (⟨xH _,.inl ⟨rfl,λj hj=>absurd hj (Nat.not_lt_zero _)⟩⟩) (sF O) sr (λk a hJ=>?_)
  obtain ⟨hk,ha⟩:=hJ
  refine zS (q4 (AK O (AK O (st' (v:=(vN s.pl.length)) (AD O underlying138) O (st' (Aa (c:=(decide (k<s.pl.length))) O O (DE (a:=k) (b:=s.pl.length))) O (oNl' (zB (sL [1,2,3,5,6,4,7,8,9,11,10,49] O) (zA ?_))))))))
  refine zK O (λhc2=>?_) (λhc2=>?_)
  ·replace hc2:=xR hc2
   refine zG (q1 (zM (zS (B9 (EV 6) sr (Bi O (Bi O (Am (v:=(pP (pB s.p1) (pO s.p1+k*2))) O (AQ (j:=k) O O hs.o1.row underlying138 sizeOf141 O Z) (Am (v:=(aG (BD (s.pl.getD k ((0,0):P2))))) O (BB (vs:=BD (s.pl.getD k ((0,0):P2))) (i:=3) O O hs.o1 (AT Dl _) (BG.ne hs.o1.row Z) B4 (BE Dl _ _ _ Z) (Dl _)) (B3 0 B4 O (Am O (CB (c:=decide (s.pl.getD k ((0,0):P2)=(Aq m i 0))) O O eqGuardType141 (OR 9998 (s.pl.getD k ((0,0):P2)) (Aq m i 0))) (zP ?_)))))))))))
   refine zB (sL [1,2,3,5,6,4,7,8,9,11,10,57] O) (zA ?_)
   refine zK O (λhc3=>?_) (λhc3=>?_)
   ·replace hc3:=xR hc3
    refine zH (AK O (asg' O (oNl' (zB (sL [1,2,3,5,6,4,7,8,9,11,10] O) (zJ (zA (zH (AK O (st' (AX (c:=((k+1:Nat):Int)) O O (AU (a:=k) (b:=1) Z)) O (asg' O (oNl' ?_)))))))))))
    exact zB (sL [1,2,3,5,6,4,7,8,9,11,10] O) (zi (k+1) (k:Int) (⟨Z,.inr ⟨Z,Z,by simpa using hc3⟩⟩) Z (sF O) sr)
   ·replace hc3:=xQ hc3
    exact zG (zJ (zA (zH (AK O (st' (AX (c:=((k+1:Nat):Int)) O O (AU (a:=k) (b:=1) Z)) O (asg' O (oNl' (zB (sL [1,2,3,5,6,4,7,8,9,11,10] O) (zi (k+1) a (⟨Z,ha.elim (λh=>.inl ⟨h.1,λj hj=>by rcases Nat.lt_or_ge j k with h1|h1;exact h.2 j h1;(obtain rfl:j=k:=by omega);simpa using hc3⟩) (λh=>.inr ⟨h.1,Z,h.2.2⟩)⟩) Z (sF O) sr)))))))))
  ·replace hc2:=xQ hc2
   refine zW (zO (zh (zR (q1 (q4 (AK O (st' (Aa (c:=(decide (a<(0:Int)))) O O O) O (oNl' (zB (sL [1,2,3,5,6,4,7,8,9,11,10,60] O) (zA ?_))))))))))
   refine yV (tg λ(s1:WS) (n1:Nat)=>WS.Ok s1/\Gt s.pl (WS.pl s1)/\(WS.pl s1).length<=s.pl.length+1/\n1<(WS.pl s1).length/\(WS.pl s1).getD n1 (0,0)=Aq m i 0/\(∀a,a<(WS.pl s1).length->a<s.pl.length\/a=n1)/\(WS.pl s1,n1)=HA s.pl (Aq m i 0)) (tg λ(s1:WS) (n1:Nat)=>[(1,(pP b1 0)),(2,(pP b2 0)),(3,(pP b3 0)),(5,(qz gc.p ((BT m).length) gc.c)),(6,(vN i)),(7,(pP b4 0)),(8,(vI 0)),(10,(vN n1)),(4,(qz s1.p1 s1.pl.length s1.c1))]) (tg λ(s1:WS) (n1:Nat)=>[AO b5 141 (BD (Aq m i 0)),AO b4 64 (BC jJ),AI gc.p (rowsL BA (BT m)),rowW s1.p1 141 2 s1.pl.length s1.c1 (rowsL BD s1.pl),rowW none 64 3 0 0 (rowsL BC ([])),rowW p3 64 3 ts.length c3 (rowsL BC ts),rowW s1.p2 102 2 s1.pl.length s1.c2 (rowsL CZ (s1.pts m)),AO b3 100 ([(qz s1.p2 s1.pl.length s1.c2),(qz p3 ts.length c3),jj]),AO b2 100 ([jj,jj,jj]),AO b1 49 (Em m),AI m.p (C7 m.cs)]) ?_ ?_
   ·refine zK O (λhc4=>?_) (λhc4=>?_)
    ·replace hc4:=xR hc4
     refine q4 (AK O (st' (v:=(vN s.pl.length)) (AD O underlying138) O (asg' O (q3 (sL [1,2,3,5,6,4,7,8,9,11,10] O) (AK O (Af 0 B4 O (zZ (V:=λb6=>(qz (jk b6) 1 1)) (T:=141) (cs:=BD (Aq m i 0)) (AG O) (Ai (z:=.agg (BD ((0,0):P2)).toArray) (cs:=BD (Aq m i 0)) (pv:=[(0,(aG (BD (Aq m i 0))))]) underlying138 sizeOf141 zeroValue141 jY jY O (Fi (Aq m i 0))) O (leB O) λb6=>zj 4 (j:=0) (cs2:=rowsL BD (s.pl++[(Aq m i 0)])) X5 O hs.o1 (AT Dl _) O O O O O jY (GC Z) Z (by rw [Aw];rfl) O λp_1 c_1 ho_1 hne_1=>asg' O (oNl' (zB (sL [1,2,3,5,6,4,7,8,9,11,10] O) ?_)))))))))
     refine zA (rC [(0,true),(1,true),(2,true),(3,true),(4,false),(5,false),(6,false),(7,true)] 8 [] (sk (sk (sk (sk (sk (sk (sk (sl sr)))))))) (sk (sk (sk (sk (sk (sk (sk (sl sr)))))))) jV (λ_ _ d _ _ h=>by cases d<;>exact h) (vE (v:=(pP b3 0)) O (AA O underlying100 O sizeOf98 O) O (vE O (AR (i:=7) (v:=(qz s.p2 s.pl.length s.c2)) O O O5.a O) O (vE (v:=(aG (Em m))) O (AY (i:=9) (vs:=Em m) O O Mi.a Mi.s O O) O (vE (v:=(aG (BD (Aq m i 0)))) O (AY (i:=1) (vs:=BD (Aq m i 0)) O O B4.a B4.s O O) O (yA O (CQ call61 (λw hw=>Ju m (Aq m i 0) (E_ Z) w (inS hw 11 O lm)) O (z6 (sk (sk (sk (sk (sk (sk (sk (sl sr)))))))) (yA O (zZ (V:=λb7=>(qz (jk b7) 1 1)) (T:=102) (cs:=CZ ((mapM m).at_ (Aq m i 0))) (AG O) (Ai (z:=.agg (CZ ((0,0):Int×Int)).toArray) (cs:=CZ ((mapM m).at_ (Aq m i 0))) (pv:=[(0,(aG (CZ ((mapM m).at_ (Aq m i 0)))))]) underlying98 sizeOf102 zeroValue102 jY jY O (Fh ((mapM m).at_ (Aq m i 0)))) O (leB O) λb7=>z6 (sl (sk (sk (sk (sk (sk (sk (sk (sl sr))))))))) ?_))))))))))
     refine yA O (zj 8 (j:=0) (cs2:=rowsL CZ ((s.pts m)++[((mapM m).at_ (Aq m i 0))])) dX O hs.o2 (by rw [AT FU];simp [WS.pts]) O O O O O jY (GC Z) Z (by rw [Aw];rfl) O λp_2 c_2 ho_2 hne_2=>z6 (sl (sk (sk (sk (sk (sk (sk (sk (sl sr))))))))) (vE (v:=(pP b3 0)) O (AA O underlying100 O sizeOf98 O) O (yZ O (Dt 9 (off:=0) (vs:=[(qz p_2 (s.pl.length+1) c_2)]) (cs':=[(qz p_2 (s.pl.length+1) c_2),(qz p3 ts.length c3),jj]) (AG O) O sizeOf98 O (zC (sl (sk (sk (sk (sk (sk (sk (sk (sl (sl sr)))))))))) (zP (zB (sL [1,2,3,5,6,4,7,8,9,11,10] O) ?_)))))))
     rw [show s.pl.length+1=(s.pl++[Aq m i 0]).length by simp]
     rw [show s.pts m++[(mapM m).at_ (Aq m i 0)]=WS.pts (WS.mk (s.pl++[Aq m i 0]) p_1 c_1 p_2 c_2) m by simp [WS.pts]]
     exact zn (WS.mk (s.pl++[Aq m i 0]) p_1 c_1 p_2 c_2) s.pl.length (⟨⟨(by simpa using ho_1),(by simpa using ho_2),λp hp=>(List.mem_append.1 hp).elim (hs.small p) (λe=>by rw [xM.1 e];exact E_ Z),Ld hs.dst (λj hj=>(ha.elim id (λh=>absurd h.1 Z)).2 j Z)⟩,Gt.snoc _ _,by simp,by simp,D4 _ _,λa ha=>by simp only [xJ,List.length_singleton] at ha;omega,ML λj hj=>(ha.elim id (λh=>absurd h.1 Z)).2 j Z⟩) (sF O) (sl (sl sr))
    ·replace hc4:=xQ hc4
     refine yH (k:=10) (u:=(vN a.toNat)) O (by show Value.int _ _=Value.int _ _;congr 1;omega) (zG ?_)
     obtain ⟨ha1,ha2,ha3⟩:=ha.resolve_left (λh=>by have:=h.1;omega)
     exact zn s a.toNat (⟨hs,Gt.refl _,Z,Z,ha3,(λa ha=>.inl ha),MM hs.dst Z ha3⟩) (sF O) sr
   ·intro s1 n1 hJ
    obtain ⟨hs1,hm1,hl1,hn1,hg1,hu1,hf1⟩:=hJ
    refine zA (zH (AK O (AK O (st' (v:=(pP b4 0)) (AB (j:=0) O O underlying64 sizeOf3 O jY O) O (Dt 1 (off:=0) (vs:=[(vN n1)]) (cs':=[(vN n1),(vI 0),(vI 0)]) (AG O) O sizeOf3 O (oNl' (zB (sL [1,2,3,5,6,7,8,10,4] O) (zJ (zA (zH (AK O ?_)))))))))))
    refine st' (AX (c:=(1:Int)) O O jY) O (asg' O (oNl' (zB (sL [1,2,3,5,6,7,8,10,4] O) (z8 (zl (zS (q4 (AK O (st' (Aa (c:=true) O O jY) O (oNl' (zB (sL [1,2,3,5,6,7,8,10,4,25] O) ?_)))))))))))
    refine zA (zY O (zG (q1 (zM (zS (B9 (EV 18++[(18,false),(19,false)]) sr (Bi O (Bi O (Bi O (Am (v:=(pP b1 8)) O (AA O underlying49 O sizeOf5 O) (CL 9 (vK .u8 m.fst) VT O ?_)))))))))))
    refine Am O (Al (c:=((m.fst:Nat):Int)) O underlying5 underlying3 (B6 Z)) (Am O (AX (c:=((1+m.fst:Nat):Int)) O O (AU (a:=1) (b:=m.fst) Z)) (Bi O (Am (v:=(pP b1 8)) O (AA O underlying49 O sizeOf5 O) (CL 9 (vK .u8 m.fst) VT O (Am O (Ec (c:=((m.fst/3:Nat):Int)) O O Z (Oq (a:=m.fst) (b:=3) Z)) (Am O (Al (c:=((m.fst/3:Nat):Int)) O underlying5 underlying3 (B6 Z)) ?_))))))
    have hmul:i*(m.fst/3)<=36*85:=Nat.mul_le_mul Z hf3
    refine Am O (B5 (c:=((i*(m.fst/3):Nat):Int)) O O (DT (a:=i) (b:=m.fst/3) Z)) (Am O (AX (c:=(((1+m.fst)+(i*(m.fst/3)):Nat):Int)) O O (AU (a:=1+m.fst) (b:=i*(m.fst/3)) Z)) ?_)
    obtain ⟨r9,hr9⟩:∃r,r=Uz m i 1:=⟨_,rfl⟩
    have hr3:r9<3:=by rw [hr9];exact Nat.mod_lt _ jY
    refine Am O (Cz (c:=((r9:Nat):Int)) O O jY (by rw [hr9];exact HD (a:=1+m.fst+i*(m.fst/3)) (b:=3))) (Am (v:=(pP (pB gc.p) (pO gc.p+i*6))) O (AQ (j:=i) O O gc.ok underlying139 sizeOf142 O Z) (Am (v:=(pP (pB gc.p) (pO gc.p+(i*6+r9*2)))) O (AB (j:=r9) O O underlying142 sizeOf141 O hr3 (Nat.add_assoc _ _ _)) (Am (v:=(aG (BD (Aq m i 1)))) O (Ak (vs:=BD (Aq m i 1)) (i:=2) O O (BG.ne gc.ok Z) B4 (J9 _ i r9 Z hr3 _ O _ (by rw [hr9];rfl)) O) (zD O (al KZ O λb6=>zC (sl sr) (zD O (An O sizeOf141 O (zC (sl sr) (zP (zB (sL [1,2,3,5,6,7,8,10,4,9] O) ?_))))))))))
    refine q2 (asg' O (oNl' (q1 (q4 (asg' O (oNl' (zA (zM ?_))))))))
    refine yC (tg λ(k:Nat) (a:Int)=>k<=s1.pl.length/\((a = -1/\∀j,j<k->s1.pl.getD j (0,0)≠Aq m i 1)\/0<=a/\a<(k:Int)/\s1.pl.getD (Int.toNat a) (0,0)=Aq m i 1)) (tg λ(k:Nat) (a:Int)=>[(1,(pP b1 0)),(2,(pP b2 0)),(3,(pP b3 0)),(5,(qz gc.p ((BT m).length) gc.c)),(6,(vN i)),(7,(pP b4 0)),(8,(vI 1)),(4,(qz s1.p1 s1.pl.length s1.c1)),(9,(pP b6 0)),(11,(vN k)),(10,(vI a))]) (tg λ(k:Nat) (a:Int)=>[AO b6 141 (BD (Aq m i 1)),AO b5 141 (BD (Aq m i 0)),AO b4 64 ([(vN n1),(vI 0),(vI 0)]),AI gc.p (rowsL BA (BT m)),rowW s1.p1 141 2 s1.pl.length s1.c1 (rowsL BD s1.pl),rowW none 64 3 0 0 (rowsL BC ([])),rowW p3 64 3 ts.length c3 (rowsL BC ts),rowW s1.p2 102 2 s1.pl.length s1.c2 (rowsL CZ (s1.pts m)),AO b3 100 ([(qz s1.p2 s1.pl.length s1.c2),(qz p3 ts.length c3),jj]),AO b2 100 ([jj,jj,jj]),AO b1 49 (Em m),AI m.p (C7 m.cs)]) (tg λ(k:Nat) (a:Int)=>s1.pl.length-k) 0 (-1:Int) (⟨xH _,.inl ⟨rfl,λj hj=>absurd hj (Nat.not_lt_zero _)⟩⟩) (sF O) sr (λk a hJ=>?_)
    obtain ⟨hk,ha⟩:=hJ
    refine zS (q4 (AK O (AK O (st' (v:=(vN s1.pl.length)) (AD O underlying138) O (st' (Aa (c:=(decide (k<s1.pl.length))) O O (DE (a:=k) (b:=s1.pl.length))) O (oNl' (zB (sL [1,2,3,5,6,7,8,4,9,11,10,49] O) (zA ?_))))))))
    refine zK O (λhc2=>?_) (λhc2=>?_)
    ·replace hc2:=xR hc2
     refine zG (q1 (zM (zS (B9 (EV 6) sr (Bi O (Bi O (Am (v:=(pP (pB s1.p1) (pO s1.p1+k*2))) O (AQ (j:=k) O O hs1.o1.row underlying138 sizeOf141 O Z) (Am (v:=(aG (BD (s1.pl.getD k ((0,0):P2))))) O (BB (vs:=BD (s1.pl.getD k ((0,0):P2))) (i:=4) O O hs1.o1 (AT Dl _) (BG.ne hs1.o1.row Z) B4 (BE Dl _ _ _ Z) (Dl _)) (B3 0 B4 O (Am O (CB (c:=decide (s1.pl.getD k ((0,0):P2)=(Aq m i 1))) O O eqGuardType141 (OR 9998 (s1.pl.getD k ((0,0):P2)) (Aq m i 1))) (zP ?_)))))))))))
     refine zB (sL [1,2,3,5,6,7,8,4,9,11,10,57] O) (zA ?_)
     refine zK O (λhc3=>?_) (λhc3=>?_)
     ·replace hc3:=xR hc3
      refine zH (AK O (asg' O (oNl' (zB (sL [1,2,3,5,6,7,8,4,9,11,10] O) (zJ (zA (zH (AK O (st' (AX (c:=((k+1:Nat):Int)) O O (AU (a:=k) (b:=1) Z)) O (asg' O (oNl' ?_)))))))))))
      exact zB (sL [1,2,3,5,6,7,8,4,9,11,10] O) (zi (k+1) (k:Int) (⟨Z,.inr ⟨Z,Z,by simpa using hc3⟩⟩) Z (sF O) sr)
     ·replace hc3:=xQ hc3
      exact zG (zJ (zA (zH (AK O (st' (AX (c:=((k+1:Nat):Int)) O O (AU (a:=k) (b:=1) Z)) O (asg' O (oNl' (zB (sL [1,2,3,5,6,7,8,4,9,11,10] O) (zi (k+1) a (⟨Z,ha.elim (λh=>.inl ⟨h.1,λj hj=>by rcases Nat.lt_or_ge j k with h1|h1;exact h.2 j h1;(obtain rfl:j=k:=by omega);simpa using hc3⟩) (λh=>.inr ⟨h.1,Z,h.2.2⟩)⟩) Z (sF O) sr)))))))))
    ·replace hc2:=xQ hc2
     refine zW (zO (zh (zR (q1 (q4 (AK O (st' (Aa (c:=(decide (a<(0:Int)))) O O O) O (oNl' (zB (sL [1,2,3,5,6,7,8,4,9,11,10,60] O) (zA ?_))))))))))
     refine yV (tg λ(s2:WS) (n2:Nat)=>WS.Ok s2/\Gt s1.pl (WS.pl s2)/\(WS.pl s2).length<=s1.pl.length+1/\n2<(WS.pl s2).length/\(WS.pl s2).getD n2 (0,0)=Aq m i 1/\(∀a,a<(WS.pl s2).length->a<s1.pl.length\/a=n2)/\(WS.pl s2,n2)=HA s1.pl (Aq m i 1)) (tg λ(s2:WS) (n2:Nat)=>[(1,(pP b1 0)),(2,(pP b2 0)),(3,(pP b3 0)),(5,(qz gc.p ((BT m).length) gc.c)),(6,(vN i)),(7,(pP b4 0)),(8,(vI 1)),(10,(vN n2)),(4,(qz s2.p1 s2.pl.length s2.c1))]) (tg λ(s2:WS) (n2:Nat)=>[AO b6 141 (BD (Aq m i 1)),AO b5 141 (BD (Aq m i 0)),AO b4 64 ([(vN n1),(vI 0),(vI 0)]),AI gc.p (rowsL BA (BT m)),rowW s2.p1 141 2 s2.pl.length s2.c1 (rowsL BD s2.pl),rowW none 64 3 0 0 (rowsL BC ([])),rowW p3 64 3 ts.length c3 (rowsL BC ts),rowW s2.p2 102 2 s2.pl.length s2.c2 (rowsL CZ (s2.pts m)),AO b3 100 ([(qz s2.p2 s2.pl.length s2.c2),(qz p3 ts.length c3),jj]),AO b2 100 ([jj,jj,jj]),AO b1 49 (Em m),AI m.p (C7 m.cs)]) ?_ ?_
     ·refine zK O (λhc4=>?_) (λhc4=>?_)
      ·replace hc4:=xR hc4
       refine q4 (AK O (st' (v:=(vN s1.pl.length)) (AD O underlying138) O (asg' O (q3 (sL [1,2,3,5,6,7,8,4,9,11,10] O) (AK O (Af 0 B4 O (zZ (V:=λb7=>(qz (jk b7) 1 1)) (T:=141) (cs:=BD (Aq m i 1)) (AG O) (Ai (z:=.agg (BD ((0,0):P2)).toArray) (cs:=BD (Aq m i 1)) (pv:=[(0,(aG (BD (Aq m i 1))))]) underlying138 sizeOf141 zeroValue141 jY jY O (Fi (Aq m i 1))) O (leB O) λb7=>zj 5 (j:=0) (cs2:=rowsL BD (s1.pl++[(Aq m i 1)])) X5 O hs1.o1 (AT Dl _) O O O O O jY (GC Z) Z (by rw [Aw];rfl) O λp_3 c_3 ho_3 hne_3=>asg' O (oNl' (zB (sL [1,2,3,5,6,7,8,4,9,11,10] O) ?_)))))))))
       refine zA (rC [(0,true),(1,true),(2,true),(3,true),(4,false),(5,false),(6,false),(7,true)] 8 [] (sk (sk (sk (sk (sk (sk (sk (sk (sl sr))))))))) (sk (sk (sk (sk (sk (sk (sk (sk (sl sr))))))))) jV (λ_ _ d _ _ h=>by cases d<;>exact h) (vE (v:=(pP b3 0)) O (AA O underlying100 O sizeOf98 O) O (vE O (AR (i:=8) (v:=(qz s1.p2 s1.pl.length s1.c2)) O O O5.a O) O (vE (v:=(aG (Em m))) O (AY (i:=10) (vs:=Em m) O O Mi.a Mi.s O O) O (vE (v:=(aG (BD (Aq m i 1)))) O (AY (i:=1) (vs:=BD (Aq m i 1)) O O B4.a B4.s O O) O (yA O (CQ call61 (λw hw=>Ju m (Aq m i 1) (E_ Z) w (inS hw 12 O lm)) O (z6 (sk (sk (sk (sk (sk (sk (sk (sk (sl sr))))))))) (yA O (zZ (V:=λb8=>(qz (jk b8) 1 1)) (T:=102) (cs:=CZ ((mapM m).at_ (Aq m i 1))) (AG O) (Ai (z:=.agg (CZ ((0,0):Int×Int)).toArray) (cs:=CZ ((mapM m).at_ (Aq m i 1))) (pv:=[(0,(aG (CZ ((mapM m).at_ (Aq m i 1)))))]) underlying98 sizeOf102 zeroValue102 jY jY O (Fh ((mapM m).at_ (Aq m i 1)))) O (leB O) λb8=>z6 (sl (sk (sk (sk (sk (sk (sk (sk (sk (sl sr)))))))))) ?_))))))))))
       refine yA O (zj 9 (j:=0) (cs2:=rowsL CZ ((s1.pts m)++[((mapM m).at_ (Aq m i 1))])) dX O hs1.o2 (by rw [AT FU];simp [WS.pts]) O O O O O jY (GC Z) Z (by rw [Aw];rfl) O λp_4 c_4 ho_4 hne_4=>z6 (sl (sk (sk (sk (sk (sk (sk (sk (sk (sl sr)))))))))) (vE (v:=(pP b3 0)) O (AA O underlying100 O sizeOf98 O) O (yZ O (Dt 10 (off:=0) (vs:=[(qz p_4 (s1.pl.length+1) c_4)]) (cs':=[(qz p_4 (s1.pl.length+1) c_4),(qz p3 ts.length c3),jj]) (AG O) O sizeOf98 O (zC (sl (sk (sk (sk (sk (sk (sk (sk (sk (sl (sl sr))))))))))) (zP (zB (sL [1,2,3,5,6,7,8,4,9,11,10] O) ?_)))))))
       rw [show s1.pl.length+1=(s1.pl++[Aq m i 1]).length by simp]
       rw [show s1.pts m++[(mapM m).at_ (Aq m i 1)]=WS.pts (WS.mk (s1.pl++[Aq m i 1]) p_3 c_3 p_4 c_4) m by simp [WS.pts]]
       exact zn (WS.mk (s1.pl++[Aq m i 1]) p_3 c_3 p_4 c_4) s1.pl.length (⟨⟨(by simpa using ho_3),(by simpa using ho_4),λp hp=>(List.mem_append.1 hp).elim (hs1.small p) (λe=>by rw [xM.1 e];exact E_ Z),Ld hs1.dst (λj hj=>(ha.elim id (λh=>absurd h.1 Z)).2 j Z)⟩,Gt.snoc _ _,by simp,by simp,D4 _ _,λa ha=>by simp only [xJ,List.length_singleton] at ha;omega,ML λj hj=>(ha.elim id (λh=>absurd h.1 Z)).2 j Z⟩) (sF O) (sl (sl sr))
      ·replace hc4:=xQ hc4
       refine yH (k:=10) (u:=(vN a.toNat)) O (by show Value.int _ _=Value.int _ _;congr 1;omega) (zG ?_)
       obtain ⟨ha1,ha2,ha3⟩:=ha.resolve_left (λh=>by have:=h.1;omega)
       exact zn s1 a.toNat (⟨hs1,Gt.refl _,Z,Z,ha3,(λa ha=>.inl ha),MM hs1.dst Z ha3⟩) (sF O) sr
     ·intro s2 n2 hJ
      obtain ⟨hs2,hm2,hl2,hn2,hg2,hu2,hf2⟩:=hJ
      refine zA (zH (AK O (AK O (st' (v:=(pP b4 1)) (AB (j:=1) O O underlying64 sizeOf3 O jY O) O (Dt 2 (off:=1) (vs:=[(vN n2)]) (cs':=[(vN n1),(vN n2),(vI 0)]) (AG O) O sizeOf3 O (oNl' (zB (sL [1,2,3,5,6,7,8,10,4] O) (zJ (zA (zH (AK O ?_)))))))))))
      refine st' (AX (c:=(2:Int)) O O jY) O (asg' O (oNl' (zB (sL [1,2,3,5,6,7,8,10,4] O) (z8 (zl (zS (q4 (AK O (st' (Aa (c:=true) O O jY) O (oNl' (zB (sL [1,2,3,5,6,7,8,10,4,25] O) ?_)))))))))))
      refine zA (zY O (zG (q1 (zM (zS (B9 (EV 18++[(18,false),(19,false)]) sr (Bi O (Bi O (Bi O (Am (v:=(pP b1 8)) O (AA O underlying49 O sizeOf5 O) (CL 10 (vK .u8 m.fst) VT O ?_)))))))))))
      refine Am O (Al (c:=((m.fst:Nat):Int)) O underlying5 underlying3 (B6 Z)) (Am O (AX (c:=((2+m.fst:Nat):Int)) O O (AU (a:=2) (b:=m.fst) Z)) (Bi O (Am (v:=(pP b1 8)) O (AA O underlying49 O sizeOf5 O) (CL 10 (vK .u8 m.fst) VT O (Am O (Ec (c:=((m.fst/3:Nat):Int)) O O Z (Oq (a:=m.fst) (b:=3) Z)) (Am O (Al (c:=((m.fst/3:Nat):Int)) O underlying5 underlying3 (B6 Z)) ?_))))))
      have hmul:i*(m.fst/3)<=36*85:=Nat.mul_le_mul Z hf3
      refine Am O (B5 (c:=((i*(m.fst/3):Nat):Int)) O O (DT (a:=i) (b:=m.fst/3) Z)) (Am O (AX (c:=(((2+m.fst)+(i*(m.fst/3)):Nat):Int)) O O (AU (a:=2+m.fst) (b:=i*(m.fst/3)) Z)) ?_)
      obtain ⟨r9,hr9⟩:∃r,r=Uz m i 2:=⟨_,rfl⟩
      have hr3:r9<3:=by rw [hr9];exact Nat.mod_lt _ jY
      refine Am O (Cz (c:=((r9:Nat):Int)) O O jY (by rw [hr9];exact HD (a:=2+m.fst+i*(m.fst/3)) (b:=3))) (Am (v:=(pP (pB gc.p) (pO gc.p+i*6))) O (AQ (j:=i) O O gc.ok underlying139 sizeOf142 O Z) (Am (v:=(pP (pB gc.p) (pO gc.p+(i*6+r9*2)))) O (AB (j:=r9) O O underlying142 sizeOf141 O hr3 (Nat.add_assoc _ _ _)) (Am (v:=(aG (BD (Aq m i 2)))) O (Ak (vs:=BD (Aq m i 2)) (i:=3) O O (BG.ne gc.ok Z) B4 (J9 _ i r9 Z hr3 _ O _ (by rw [hr9];rfl)) O) (zD O (al KZ O λb7=>zC (sl sr) (zD O (An O sizeOf141 O (zC (sl sr) (zP (zB (sL [1,2,3,5,6,7,8,10,4,9] O) ?_))))))))))
      refine q2 (asg' O (oNl' (q1 (q4 (asg' O (oNl' (zA (zM ?_))))))))
      refine yC (tg λ(k:Nat) (a:Int)=>k<=s2.pl.length/\((a = -1/\∀j,j<k->s2.pl.getD j (0,0)≠Aq m i 2)\/0<=a/\a<(k:Int)/\s2.pl.getD (Int.toNat a) (0,0)=Aq m i 2)) (tg λ(k:Nat) (a:Int)=>[(1,(pP b1 0)),(2,(pP b2 0)),(3,(pP b3 0)),(5,(qz gc.p ((BT m).length) gc.c)),(6,(vN i)),(7,(pP b4 0)),(8,(vI 2)),(4,(qz s2.p1 s2.pl.length s2.c1)),(9,(pP b7 0)),(11,(vN k)),(10,(vI a))]) (tg λ(k:Nat) (a:Int)=>[AO b7 141 (BD (Aq m i 2)),AO b6 141 (BD (Aq m i 1)),AO b5 141 (BD (Aq m i 0)),AO b4 64 ([(vN n1),(vN n2),(vI 0)]),AI gc.p (rowsL BA (BT m)),rowW s2.p1 141 2 s2.pl.length s2.c1 (rowsL BD s2.pl),rowW none 64 3 0 0 (rowsL BC ([])),rowW p3 64 3 ts.length c3 (rowsL BC ts),rowW s2.p2 102 2 s2.pl.length s2.c2 (rowsL CZ (s2.pts m)),AO b3 100 ([(qz s2.p2 s2.pl.length s2.c2),(qz p3 ts.length c3),jj]),AO b2 100 ([jj,jj,jj]),AO b1 49 (Em m),AI m.p (C7 m.cs)]) (tg λ(k:Nat) (a:Int)=>s2.pl.length-k) 0 (-1:Int) (⟨xH _,.inl ⟨rfl,λj hj=>absurd hj (Nat.not_lt_zero _)⟩⟩) (sF O) sr (λk a hJ=>?_)
      obtain ⟨hk,ha⟩:=hJ
      refine zS (q4 (AK O (AK O (st' (v:=(vN s2.pl.length)) (AD O underlying138) O (st' (Aa (c:=(decide (k<s2.pl.length))) O O (DE (a:=k) (b:=s2.pl.length))) O (oNl' (zB (sL [1,2,3,5,6,7,8,4,9,11,10,49] O) (zA ?_))))))))
      refine zK O (λhc2=>?_) (λhc2=>?_)
      ·replace hc2:=xR hc2
       refine zG (q1 (zM (zS (B9 (EV 6) sr (Bi O (Bi O (Am (v:=(pP (pB s2.p1) (pO s2.p1+k*2))) O (AQ (j:=k) O O hs2.o1.row underlying138 sizeOf141 O Z) (Am (v:=(aG (BD (s2.pl.getD k ((0,0):P2))))) O (BB (vs:=BD (s2.pl.getD k ((0,0):P2))) (i:=5) O O hs2.o1 (AT Dl _) (BG.ne hs2.o1.row Z) B4 (BE Dl _ _ _ Z) (Dl _)) (B3 0 B4 O (Am O (CB (c:=decide (s2.pl.getD k ((0,0):P2)=(Aq m i 2))) O O eqGuardType141 (OR 9998 (s2.pl.getD k ((0,0):P2)) (Aq m i 2))) (zP ?_)))))))))))
       refine zB (sL [1,2,3,5,6,7,8,4,9,11,10,57] O) (zA ?_)
       refine zK O (λhc3=>?_) (λhc3=>?_)
       ·replace hc3:=xR hc3
        refine zH (AK O (asg' O (oNl' (zB (sL [1,2,3,5,6,7,8,4,9,11,10] O) (zJ (zA (zH (AK O (st' (AX (c:=((k+1:Nat):Int)) O O (AU (a:=k) (b:=1) Z)) O (asg' O (oNl' ?_)))))))))))
        exact zB (sL [1,2,3,5,6,7,8,4,9,11,10] O) (zi (k+1) (k:Int) (⟨Z,.inr ⟨Z,Z,by simpa using hc3⟩⟩) Z (sF O) sr)
       ·replace hc3:=xQ hc3
        exact zG (zJ (zA (zH (AK O (st' (AX (c:=((k+1:Nat):Int)) O O (AU (a:=k) (b:=1) Z)) O (asg' O (oNl' (zB (sL [1,2,3,5,6,7,8,4,9,11,10] O) (zi (k+1) a (⟨Z,ha.elim (λh=>.inl ⟨h.1,λj hj=>by rcases Nat.lt_or_ge j k with h1|h1;exact h.2 j h1;(obtain rfl:j=k:=by omega);simpa using hc3⟩) (λh=>.inr ⟨h.1,Z,h.2.2⟩)⟩) Z (sF O) sr)))))))))
      ·replace hc2:=xQ hc2
       refine zW (zO (zh (zR (q1 (q4 (AK O (st' (Aa (c:=(decide (a<(0:Int)))) O O O) O (oNl' (zB (sL [1,2,3,5,6,7,8,4,9,11,10,60] O) (zA ?_))))))))))
       refine yV (tg λ(s3:WS) (n3:Nat)=>WS.Ok s3/\Gt s2.pl (WS.pl s3)/\(WS.pl s3).length<=s2.pl.length+1/\n3<(WS.pl s3).length/\(WS.pl s3).getD n3 (0,0)=Aq m i 2/\(∀a,a<(WS.pl s3).length->a<s2.pl.length\/a=n3)/\(WS.pl s3,n3)=HA s2.pl (Aq m i 2)) (tg λ(s3:WS) (n3:Nat)=>[(1,(pP b1 0)),(2,(pP b2 0)),(3,(pP b3 0)),(5,(qz gc.p ((BT m).length) gc.c)),(6,(vN i)),(7,(pP b4 0)),(8,(vI 2)),(10,(vN n3)),(4,(qz s3.p1 s3.pl.length s3.c1))]) (tg λ(s3:WS) (n3:Nat)=>[AO b7 141 (BD (Aq m i 2)),AO b6 141 (BD (Aq m i 1)),AO b5 141 (BD (Aq m i 0)),AO b4 64 ([(vN n1),(vN n2),(vI 0)]),AI gc.p (rowsL BA (BT m)),rowW s3.p1 141 2 s3.pl.length s3.c1 (rowsL BD s3.pl),rowW none 64 3 0 0 (rowsL BC ([])),rowW p3 64 3 ts.length c3 (rowsL BC ts),rowW s3.p2 102 2 s3.pl.length s3.c2 (rowsL CZ (s3.pts m)),AO b3 100 ([(qz s3.p2 s3.pl.length s3.c2),(qz p3 ts.length c3),jj]),AO b2 100 ([jj,jj,jj]),AO b1 49 (Em m),AI m.p (C7 m.cs)]) ?_ ?_
       ·refine zK O (λhc4=>?_) (λhc4=>?_)
        ·replace hc4:=xR hc4
         refine q4 (AK O (st' (v:=(vN s2.pl.length)) (AD O underlying138) O (asg' O (q3 (sL [1,2,3,5,6,7,8,4,9,11,10] O) (AK O (Af 0 B4 O (zZ (V:=λb8=>(qz (jk b8) 1 1)) (T:=141) (cs:=BD (Aq m i 2)) (AG O) (Ai (z:=.agg (BD ((0,0):P2)).toArray) (cs:=BD (Aq m i 2)) (pv:=[(0,(aG (BD (Aq m i 2))))]) underlying138 sizeOf141 zeroValue141 jY jY O (Fi (Aq m i 2))) O (leB O) λb8=>zj 6 (j:=0) (cs2:=rowsL BD (s2.pl++[(Aq m i 2)])) X5 O hs2.o1 (AT Dl _) O O O O O jY (GC Z) Z (by rw [Aw];rfl) O λp_5 c_5 ho_5 hne_5=>asg' O (oNl' (zB (sL [1,2,3,5,6,7,8,4,9,11,10] O) ?_)))))))))
         refine zA (rC [(0,true),(1,true),(2,true),(3,true),(4,false),(5,false),(6,false),(7,true)] 8 [] (sk (sk (sk (sk (sk (sk (sk (sk (sk (sl sr)))))))))) (sk (sk (sk (sk (sk (sk (sk (sk (sk (sl sr)))))))))) jV (λ_ _ d _ _ h=>by cases d<;>exact h) (vE (v:=(pP b3 0)) O (AA O underlying100 O sizeOf98 O) O (vE O (AR (i:=9) (v:=(qz s2.p2 s2.pl.length s2.c2)) O O O5.a O) O (vE (v:=(aG (Em m))) O (AY (i:=11) (vs:=Em m) O O Mi.a Mi.s O O) O (vE (v:=(aG (BD (Aq m i 2)))) O (AY (i:=1) (vs:=BD (Aq m i 2)) O O B4.a B4.s O O) O (yA O (CQ call61 (λw hw=>Ju m (Aq m i 2) (E_ Z) w (inS hw 13 O lm)) O (z6 (sk (sk (sk (sk (sk (sk (sk (sk (sk (sl sr)))))))))) (yA O (zZ (V:=λb9=>(qz (jk b9) 1 1)) (T:=102) (cs:=CZ ((mapM m).at_ (Aq m i 2))) (AG O) (Ai (z:=.agg (CZ ((0,0):Int×Int)).toArray) (cs:=CZ ((mapM m).at_ (Aq m i 2))) (pv:=[(0,(aG (CZ ((mapM m).at_ (Aq m i 2)))))]) underlying98 sizeOf102 zeroValue102 jY jY O (Fh ((mapM m).at_ (Aq m i 2)))) O (leB O) λb9=>z6 (sl (sk (sk (sk (sk (sk (sk (sk (sk (sk (sl sr))))))))))) ?_))))))))))
         refine yA O (zj 10 (j:=0) (cs2:=rowsL CZ ((s2.pts m)++[((mapM m).at_ (Aq m i 2))])) dX O hs2.o2 (by rw [AT FU];simp [WS.pts]) O O O O O jY (GC Z) Z (by rw [Aw];rfl) O λp_6 c_6 ho_6 hne_6=>z6 (sl (sk (sk (sk (sk (sk (sk (sk (sk (sk (sl sr))))))))))) (vE (v:=(pP b3 0)) O (AA O underlying100 O sizeOf98 O) O (yZ O (Dt 11 (off:=0) (vs:=[(qz p_6 (s2.pl.length+1) c_6)]) (cs':=[(qz p_6 (s2.pl.length+1) c_6),(qz p3 ts.length c3),jj]) (AG O) O sizeOf98 O (zC (sl (sk (sk (sk (sk (sk (sk (sk (sk (sk (sl (sl sr)))))))))))) (zP (zB (sL [1,2,3,5,6,7,8,4,9,11,10] O) ?_)))))))
         rw [show s2.pl.length+1=(s2.pl++[Aq m i 2]).length by simp]
         rw [show s2.pts m++[(mapM m).at_ (Aq m i 2)]=WS.pts (WS.mk (s2.pl++[Aq m i 2]) p_5 c_5 p_6 c_6) m by simp [WS.pts]]
         exact zn (WS.mk (s2.pl++[Aq m i 2]) p_5 c_5 p_6 c_6) s2.pl.length (⟨⟨(by simpa using ho_5),(by simpa using ho_6),λp hp=>(List.mem_append.1 hp).elim (hs2.small p) (λe=>by rw [xM.1 e];exact E_ Z),Ld hs2.dst (λj hj=>(ha.elim id (λh=>absurd h.1 Z)).2 j Z)⟩,Gt.snoc _ _,by simp,by simp,D4 _ _,λa ha=>by simp only [xJ,List.length_singleton] at ha;omega,ML λj hj=>(ha.elim id (λh=>absurd h.1 Z)).2 j Z⟩) (sF O) (sl (sl sr))
        ·replace hc4:=xQ hc4
         refine yH (k:=10) (u:=(vN a.toNat)) O (by show Value.int _ _=Value.int _ _;congr 1;omega) (zG ?_)
         obtain ⟨ha1,ha2,ha3⟩:=ha.resolve_left (λh=>by have:=h.1;omega)
         exact zn s2 a.toNat (⟨hs2,Gt.refl _,Z,Z,ha3,(λa ha=>.inl ha),MM hs2.dst Z ha3⟩) (sF O) sr
       ·intro s3 n3 hJ
        obtain ⟨hs3,hm3,hl3,hn3,hg3,hu3,hf3⟩:=hJ
        refine zA (zH (AK O (AK O (st' (v:=(pP b4 2)) (AB (j:=2) O O underlying64 sizeOf3 O jY O) O (Dt 3 (off:=2) (vs:=[(vN n3)]) (cs':=[(vN n1),(vN n2),(vN n3)]) (AG O) O sizeOf3 O (oNl' (zB (sL [1,2,3,5,6,7,8,10,4] O) (zJ (zA (zH (AK O ?_)))))))))))
        refine st' (AX (c:=(3:Int)) O O jY) O (asg' O (oNl' (zB (sL [1,2,3,5,6,7,8,10,4] O) (z8 (zl (zS (q4 (AK O (st' (Aa (c:=false) O O jY) O (oNl' (zB (sL [1,2,3,5,6,7,8,10,4,25] O) ?_)))))))))))
        refine zA (zU O (zW (zO (zO (zR (zA (zH (st' (v:=(pP b3 1)) (AA O underlying100 O sizeOf23 O) O (BL 9 (qz p3 ts.length c3) Ez O (Af 3 Qa O (zZ (V:=λb8=>(qz (jk b8) 1 1)) (T:=64) (cs:=BC (n1,n2,n3)) (AG O) (Ai (z:=.agg (BC jJ).toArray) (cs:=BC (n1,n2,n3)) (pv:=[(0,(aG ([(vN n1),(vN n2),(vN n3)])))]) underlying23 sizeOf64 zeroValue64 jY jY O (H1 (n1,n2,n3))) O (leB O) λb8=>?_)))))))))))
        refine zj 8 (j:=0) (cs2:=rowsL BC (ts++[(n1,n2,n3)])) fb O h3 (AT Bv _) O O O O O jY (GC Z) Z (by rw [Aw];rfl) O λp_7 c_7 ho_7 hne_7=>st' (v:=(pP b3 1)) (AA O underlying100 O sizeOf23 O) O (Dt 10 (off:=1) (vs:=[(qz p_7 (ts.length+1) c_7)]) (cs':=[(qz s3.p2 s3.pl.length s3.c2),(qz p_7 (ts.length+1) c_7),jj]) (AG O) O sizeOf23 O (oNl' (zB (sL [1,2,3,5,6,7,8,10,4] O) (zJ (zA (zH (AK O (st' (AX (c:=((i+1:Nat):Int)) O O (AU (a:=i) (b:=1) Z)) O (asg' O (oNl' ?_))))))))))
        refine zB (sL [1,2,3,5,6,7,8,10,4] O) ?_
        rw [show ts.length+1=(ts++[(n1,n2,n3)]).length by simp]
        exact yg (i+1) s3 p_7 c_7 (ts++[(n1,n2,n3)]) (⟨Z,hs3,(by simpa using ho_7),hv.step ((hm1.trans hm2).trans hm3) Z hs3.small ⟨⟨by show n1<_;have:=hm2.1;have:=hm3.1;omega,(hm3.2 _ (by have:=hm2.1;omega)).trans ((hm2.2 _ Z).trans hg1)⟩,⟨by show n2<_;have:=hm3.1;omega,(hm3.2 _ Z).trans hg2⟩,⟨by show n3<_;omega,hg3⟩⟩ (λa ha=>by rcases hu3 a ha with h|h;(rcases hu2 a h with h|h;(rcases hu1 a h with h|h;exact .inl h;exact .inr (.inl h.symm));exact .inr (.inr (.inl h.symm)));exact .inr (.inr (.inr h.symm))) (YL hv.fn hf1 hf2 hf3)⟩) Z (sF O) (sl (sl (sl (sl (sl sr)))))
 ·replace hc0:=xQ hc0
  have hi9:i=(BT m).length:=by omega
  rw [hi9] at hv
  refine zW (zO (yO (zR (q1 (q4 (asg' O (oNl' (zA (zM ?_)))))))))
  refine yX (tg λ(ai:Nat) (p4:Option Addr) (c4:Nat) (ss:List (Tq3))=>ai<=s.pl.length/\OwnOk p4 ss.length c4/\ss.length<=ai*108/\ss=Mb m ts s.pl.length ai) (tg λ(ai:Nat) (p4:Option Addr) (c4:Nat) (ss:List (Tq3))=>[(1,(pP b1 0)),(2,(pP b2 0)),(3,(pP b3 0)),(4,(qz s.p1 s.pl.length s.c1)),(12,(vN ai))]) (tg λ(ai:Nat) (p4:Option Addr) (c4:Nat) (ss:List (Tq3))=>[AI gc.p (rowsL BA (BT m)),rowW s.p1 141 2 s.pl.length s.c1 (rowsL BD s.pl),rowW p4 64 3 ss.length c4 (rowsL BC ss),rowW p3 64 3 ts.length c3 (rowsL BC ts),rowW s.p2 102 2 s.pl.length s.c2 (rowsL CZ (s.pts m)),AO b3 100 ([(qz s.p2 s.pl.length s.c2),(qz p3 ts.length c3),(qz p4 ss.length c4)]),AO b2 100 ([jj,jj,jj]),AO b1 49 (Em m),AI m.p (C7 m.cs)]) (tg λ(ai:Nat) (p4:Option Addr) (c4:Nat) (ss:List (Tq3))=>s.pl.length-ai) 0 none 0 ([]:List (Tq3)) (⟨xH _,OwnOk.none,by simp,rfl⟩) (sF O) sr (λai p4 c4 ss hJ=>?_)
  obtain ⟨hai,h4,hsl,hsd⟩:=hJ
  refine zS (q4 (AK O (AK O (st' (v:=(vN s.pl.length)) (AD O underlying138) O (st' (Aa (c:=(decide (ai<s.pl.length))) O O (DE (a:=ai) (b:=s.pl.length))) O (oNl' (zB (sL [1,2,3,4,12,87] O) (zA ?_))))))))
  refine zK O (λhc5=>?_) (λhc5=>?_)
  ·replace hc5:=xR hc5
   refine zG (q1 (zM (q4 (AK O (st' (AX (c:=((ai+1:Nat):Int)) O O (AU (a:=ai) (b:=1) Z)) O (asg' O (oNl' (zB (sL [1,2,3,4,12,13] O) (zA (zM ?_))))))))))
   refine yX (tg λ(bi:Nat) (p5:Option Addr) (c5:Nat) (sq9:List (Tq3))=>bi<=s.pl.length/\ai+1<=bi/\OwnOk p5 sq9.length c5/\sq9.length<=ai*108+bi/\sq9=Mb m ts s.pl.length ai++R4 m ts ai (bi-(ai+1))) (tg λ(bi:Nat) (p5:Option Addr) (c5:Nat) (sq9:List (Tq3))=>[(1,(pP b1 0)),(2,(pP b2 0)),(3,(pP b3 0)),(4,(qz s.p1 s.pl.length s.c1)),(12,(vN ai)),(13,(vN bi))]) (tg λ(bi:Nat) (p5:Option Addr) (c5:Nat) (sq9:List (Tq3))=>[AI gc.p (rowsL BA (BT m)),rowW s.p1 141 2 s.pl.length s.c1 (rowsL BD s.pl),rowW p5 64 3 sq9.length c5 (rowsL BC sq9),rowW p3 64 3 ts.length c3 (rowsL BC ts),rowW s.p2 102 2 s.pl.length s.c2 (rowsL CZ (s.pts m)),AO b3 100 ([(qz s.p2 s.pl.length s.c2),(qz p3 ts.length c3),(qz p5 sq9.length c5)]),AO b2 100 ([jj,jj,jj]),AO b1 49 (Em m),AI m.p (C7 m.cs)]) (tg λ(bi:Nat) (p5:Option Addr) (c5:Nat) (sq9:List (Tq3))=>s.pl.length-bi) (ai+1) p4 c4 ss (⟨Z,Nat.le_refl _,h4,Z,by rw [hsd,Nat.sub_self];exact (List.append_nil _).symm⟩) (sF O) sr (λbi p5 c5 sq9 hJ=>?_)
   obtain ⟨hbi,hba,h5,hsr,hsq⟩:=hJ
   refine zS (q4 (AK O (AK O (st' (v:=(vN s.pl.length)) (AD O underlying138) O (st' (Aa (c:=(decide (bi<s.pl.length))) O O (DE (a:=bi) (b:=s.pl.length))) O (oNl' (zB (sL [1,2,3,4,12,13,95] O) (zA ?_))))))))
   refine zK O (λhc6=>?_) (λhc6=>?_)
   ·replace hc6:=xR hc6
    refine zG (q1 (zM (q4 (asg' O (oNl' (q1 (q4 (asg' O (oNl' (zA (zM ?_)))))))))))
    refine yC (tg λ(ti:Nat) (cn:Nat)=>ti<=ts.length/\cn<=ti/\cn=OL ts ai bi ti) (tg λ(ti:Nat) (cn:Nat)=>[(1,(pP b1 0)),(2,(pP b2 0)),(3,(pP b3 0)),(4,(qz s.p1 s.pl.length s.c1)),(12,(vN ai)),(13,(vN bi)),(15,(vN ti)),(14,(vN cn))]) (tg λ(ti:Nat) (cn:Nat)=>[AI gc.p (rowsL BA (BT m)),rowW s.p1 141 2 s.pl.length s.c1 (rowsL BD s.pl),rowW p5 64 3 sq9.length c5 (rowsL BC sq9),rowW p3 64 3 ts.length c3 (rowsL BC ts),rowW s.p2 102 2 s.pl.length s.c2 (rowsL CZ (s.pts m)),AO b3 100 ([(qz s.p2 s.pl.length s.c2),(qz p3 ts.length c3),(qz p5 sq9.length c5)]),AO b2 100 ([jj,jj,jj]),AO b1 49 (Em m),AI m.p (C7 m.cs)]) (tg λ(ti:Nat) (cn:Nat)=>ts.length-ti) 0 0 (⟨xH _,Nat.le_refl _,rfl⟩) (sF O) sr (λti cn hJ=>?_)
    obtain ⟨hti,hcn,hcw⟩:=hJ
    refine zS (q4 (AK O (st' (v:=(pP b3 1)) (AA O underlying100 O sizeOf23 O) O (BL 5 (qz p3 ts.length c3) Ez O (st' (v:=(vN ts.length)) (AD O underlying23) O (st' (Aa (c:=(decide (ti<ts.length))) O O (DE (a:=ti) (b:=ts.length))) O (oNl' (zB (sL [1,2,3,4,12,13,15,14,102] O) (zA ?_)))))))))
    refine zK O (λhc7=>?_) (λhc7=>?_)
    ·replace hc7:=xR hc7
     refine zG (q1 (zM (q4 (st' (v:=(pP b3 1)) (AA O underlying100 O sizeOf23 O) O (BL 5 (qz p3 ts.length c3) Ez O (AK O (st' (v:=(pP (pB p3) (pO p3+ti*3))) (AQ (j:=ti) O O h3.row underlying23 sizeOf64 O Z) O (st' (v:=(aG (BC (ts.getD ti jJ)))) (BB (vs:=BC (ts.getD ti jJ)) (i:=3) O O h3 (AT Bv _) (BG.ne h3.row Z) Qa (BE Bv _ _ _ Z) (Bv _)) O (AK O (ck' call62 (WT (ts.getD ti jJ) ai) O (AK O ?_)))))))))))
     refine zg (FM:=[(1,(pP b1 0)),(2,(pP b2 0)),(3,(pP b3 0)),(4,(qz s.p1 s.pl.length s.c1)),(12,(vN ai)),(13,(vN bi)),(15,(vN ti)),(14,(vN cn)),(105,(pP b3 1)),(106,(qz p3 ts.length c3)),(107,(vN ti)),(108,(pP (pB p3) (pO p3+ti*3))),(109,(aG (BC (ts.getD ti jJ)))),(110,(vN ai)),(111,(qa (Ih (ts.getD ti jJ) ai))),(112,(qa (Ih (ts.getD ti jJ) ai))),(120,(qa ((Ih (ts.getD ti jJ) ai)&&(Ih (ts.getD ti jJ) bi))))]) (LM:=[AI gc.p (rowsL BA (BT m)),rowW s.p1 141 2 s.pl.length s.c1 (rowsL BD s.pl),rowW p5 64 3 sq9.length c5 (rowsL BC sq9),rowW p3 64 3 ts.length c3 (rowsL BC ts),rowW s.p2 102 2 s.pl.length s.c2 (rowsL CZ (s.pts m)),AO b3 100 ([(qz s.p2 s.pl.length s.c2),(qz p3 ts.length c3),(qz p5 sq9.length c5)]),AO b2 100 ([jj,jj,jj]),AO b1 49 (Em m),AI m.p (C7 m.cs)]) 8 ?_ ?_
     ·rcases xO (Ih (ts.getD ti jJ) ai) with hg1|hg1
      ·refine zN (k:=112) (u:=qa true) O (by rw [hg1]) ?_
       have hg1':=hg1
       skip
       exact BV (v:=(pP b3 1)) O (AA O underlying100 O sizeOf23 O) (BV (v:=(qz p3 ts.length c3)) O (AR (i:=5) (v:=(qz p3 ts.length c3)) O O Ez.a O) (FR O (BV (v:=(pP (pB p3) (pO p3+ti*3))) O (AQ (j:=ti) O O h3.row underlying23 sizeOf64 O Z) (BV (v:=(aG (BC (ts.getD ti jJ)))) O (BB (vs:=BC (ts.getD ti jJ)) (i:=3) O O h3 (AT Bv _) (BG.ne h3.row Z) Qa (BE Bv _ _ _ Z) (Bv _)) (FR O (zd (v:=(qa (Ih (ts.getD ti jJ) bi))) (AE O) (Ag (args:=[(aG (BC (ts.getD ti jJ))),(vN bi)]) O O call62) (λw hw=>WT (ts.getD ti jJ) bi w) O (leB O) (st' (v:=(qa (Ih (ts.getD ti jJ) bi))) (ex_pick_true O O) O (oNl' (zT CT (xP _))))))))))
      ·refine zN (k:=112) (u:=qa false) O (by rw [hg1]) ?_
       have hg1':=hg1
       skip
       exact BP O (BP O (BP O (BP O (BP O (BP O (BP O (st' (v:=(qa false)) (AN O O) O (oNl' (zT CT (xP _))))))))))
     refine oNl' (zB (sL [1,2,3,4,12,13,15,14,120] O) (zA ?_))
     refine zK O (λhc8=>?_) (λhc8=>?_)
     ·simp only [jK] at hc8
      refine zH (AK O (st' (AX (c:=((cn+1:Nat):Int)) O O (AU (a:=cn) (b:=1) Z)) O (asg' O (oNl' (zB (sL [1,2,3,4,12,13,15,14] O) (zJ (zA (zH (AK O (st' (AX (c:=((ti+1:Nat):Int)) O O (AU (a:=ti) (b:=1) Z)) O (asg' O ?_)))))))))))
      exact oNl' (zB (sL [1,2,3,4,12,13,15,14] O) (zi (ti+1) (cn+1) (⟨Z,Z,by rw [hcw];exact (V7 hc8).symm⟩) Z (sF O) sr))
     ·simp only [jK] at hc8
      exact zG (zJ (zA (zH (AK O (st' (AX (c:=((ti+1:Nat):Int)) O O (AU (a:=ti) (b:=1) Z)) O (asg' O (oNl' (zB (sL [1,2,3,4,12,13,15,14] O) (zi (ti+1) cn (⟨Z,Z,by rw [hcw];exact (Y1 hc8).symm⟩) Z (sF O) sr)))))))))
    ·replace hc7:=xQ hc7
     have hte:ti=ts.length:=by omega
     rw [hte] at hcw
     refine zW (zO (zh (zR (q2 (AK O (st' (Au (c:=(decide (cn=1))) O O (K0 (a:=cn) (b:=1))) O (oNl' (zB (sL [1,2,3,4,12,13,15,14,124] O) (zA ?_)))))))))
     refine zK O (λhc9=>?_) (λhc9=>?_)
     ·replace hc9:=xR hc9
      refine zH (st' (v:=(pP b3 2)) (AA O underlying100 O sizeOf23 O) O (BL 5 (qz p5 sq9.length c5) Ez O (AK O (AK O (AK O (AK O (st' (B5 (c:=((3*bi:Nat):Int)) O O (DT (a:=3) (b:=bi) Z)) O (st' (AX (c:=((ai+(3*bi):Nat):Int)) O O (AU (a:=ai) (b:=3*bi) Z)) O (st' (v:=(pP b1 8)) (AA O underlying49 O sizeOf5 O) O (BL 7 (vK .u8 m.fst) VT O (st' (Al (c:=((m.fst:Nat):Int)) O underlying5 underlying3 (B6 Z)) O ?_)))))))))))
      refine st' (AX (c:=(((ai+(3*bi))+m.fst:Nat):Int)) O O (AU (a:=ai+(3*bi)) (b:=m.fst) Z)) O (st' (Cz (c:=((((ai+(3*bi))+m.fst)%5:Nat):Int)) O O Z (HD (a:=(ai+(3*bi))+m.fst) (b:=5))) O (st' (v:=(aG (BC (ai,bi,((ai+(3*bi))+m.fst)%5)))) (Az (zs:=BC jJ) (vs:=BC (ai,bi,((ai+(3*bi))+m.fst)%5)) (pv:=[(0,(vN ai)),(1,(vN bi)),(2,(vN (((ai+(3*bi))+m.fst)%5)))]) zeroValue64 underlying64 sizeOf3 O (Ml ai bi (((ai+(3*bi))+m.fst)%5))) O (zZ (V:=λb4=>(qz (jk b4) 1 1)) (T:=64) (cs:=BC (ai,bi,((ai+(3*bi))+m.fst)%5)) (AG O) (Ai (z:=.agg (BC jJ).toArray) (cs:=BC (ai,bi,((ai+(3*bi))+m.fst)%5)) (pv:=[(0,(aG (BC (ai,bi,((ai+(3*bi))+m.fst)%5))))]) underlying23 sizeOf64 zeroValue64 jY jY O (H1 (ai,bi,((ai+(3*bi))+m.fst)%5))) O (leB O) λb4=>zj 3 (j:=0) (cs2:=rowsL BC (sq9++[(ai,bi,((ai+(3*bi))+m.fst)%5)])) fb O h5 (AT Bv _) O O O O O jY (GC Z) Z (by rw [Aw];rfl) O λp_8 c_8 ho_8 hne_8=>st' (v:=(pP b3 2)) (AA O underlying100 O sizeOf23 O) O (Dt 6 (off:=2) (vs:=[(qz p_8 (sq9.length+1) c_8)]) (cs':=[(qz s.p2 s.pl.length s.c2),(qz p3 ts.length c3),(qz p_8 (sq9.length+1) c_8)]) (AG O) O sizeOf23 O (oNl' (zB (sL [1,2,3,4,12,13,15,14] O) (zJ (zA (zH ?_)))))))))
      refine AK O (st' (AX (c:=((bi+1:Nat):Int)) O O (AU (a:=bi) (b:=1) Z)) O (asg' O (oNl' (zB (sL [1,2,3,4,12,13,15,14] O) ?_))))
      rw [show sq9.length+1=(sq9++[(ai,bi,((ai+(3*bi))+m.fst)%5)]).length by simp]
      exact zr (bi+1) p_8 c_8 (sq9++[(ai,bi,((ai+(3*bi))+m.fst)%5)]) (⟨Z,Z,(by simpa using ho_8),by rw [xJ];simp only [List.length_singleton];omega,(by rw [hsq];exact Xe Z (by rw [<-hcw,hc9]))⟩) Z (sF O) (sl sr)
     ·replace hc9:=xQ hc9
      exact zG (zJ (zA (zH (AK O (st' (AX (c:=((bi+1:Nat):Int)) O O (AU (a:=bi) (b:=1) Z)) O (asg' O (oNl' (zB (sL [1,2,3,4,12,13,15,14] O) (zr (bi+1) p5 c5 sq9 (⟨Z,Z,h5,Z,(by rw [hsq];exact aV Z (by rw [<-hcw];exact hc9))⟩) Z (sF O) sr)))))))))
   ·replace hc6:=xQ hc6
    exact zW (zO (z7 (zR (zJ (zA (zH (AK O (st' (AX (c:=((ai+1:Nat):Int)) O O (AU (a:=ai) (b:=1) Z)) O (asg' O (oNl' (zB (sL [1,2,3,4,12,13] O) (zr (ai+1) p5 c5 sq9 (⟨Z,h5,Z,by rw [hsq,show bi=s.pl.length by omega];rfl⟩) Z (sF O) sr))))))))))))
  ·replace hc5:=xQ hc5
   exact zW (zO (z7 (zR (q2 (Af 5 fX O (Dt 6 (off:=0) (vs:=[(qz s.p2 s.pl.length s.c2),(qz p3 ts.length c3),(qz p4 ss.length c4)]) (cs':=[(qz s.p2 s.pl.length s.c2),(qz p3 ts.length c3),(qz p4 ss.length c4)]) (AG O) O sizeOf100 O (oNl' (zB (sL [1,2,3,4,12] O) (zA (zF (ret_one O (Ab (i:=6) (cs:=[(qz s.p2 s.pl.length s.c2),(qz p3 ts.length c3),(qz p4 ss.length c4)]) O O isAgg100 sizeOf100 O) (λw hw=>(fE hw (WM.mk s.pl ts ss hv hs.dst Z (by rw [hsd,show ai=s.pl.length by omega]) ⟨s.p2,s.c2,hs.o2.row⟩ ⟨p3,c3,h3.row⟩ ⟨p4,c4,h4.row⟩) h3 3 O (Fp (S:=λ_=>False) hw 4 O hs.o2 (by rw [AT FU];simp [WS.pts])) (Fp (S:=λ_=>False) hw 3 O h3 (AT Bv _)) (Fp (S:=λ_=>False) hw 2 O h4 (AT Bv _)) O)))))))))))))
theorem Uf (m:MQ) (w:World) {S:Nat->Prop} (hm:Ro S w m):Calls prog 27 #[(aG (Em m))] w (Aj (WM m) S w):=(L7 m w hm).mono λe w1 h=>h.ofWMF
end
end Go.Proofs.YtcpkbjjmcleplaaGreatDoor
