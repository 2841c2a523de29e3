import Derived.Test.YtcpkbjjmcleplaaGreatDoorPart23
import Derived.Test.YtcpkbjjmcleplaaGreatDoorPart37
namespace Go.Proofs.YtcpkbjjmcleplaaGreatDoor
open Go Go.RowKit Go.Proofs.Tryz
open Go.Value renaming slice→qz,bool→qa
set_option linter.unusedVariables false
set_option linter.unusedSimpArgs false
section
set_option maxRecDepth 100000
theorem RN {ps:List Pt} {zt ss:List Z3} (x:MZ ps zt ss) (w:World) {S:Nat->Prop} (hx:Ro S w x):Calls prog 29 #[(aG (D4 x))] w (Ai (CF 67 (D4 x)) S w):=by
 have lx:=Bs (W:=w) hx
 refine AX (args:=[(aG (D4 x))]) (L:=[AI x.a.p (rowsL Ae ps),AI x.b.p (rowsL BB zt),AI x.c.p (rowsL BB ss)]) func29 O O (leB O) (GN hx Al) (zG (sL [0] O) (q4 (A9 (cs:=D4 x) O λb1=>yg 0 O O λhnb1=>asg' O (q3 (sL [1,2] O) (st' (v:=(Value.func (.func 67) #[] #[(pP b1 0)])) (Er (vs:=[]) (us:=[(pP b1 0)]) O O) O (asg' O (oNl' (zB (sL [2] O) (zA ?_)))))))))
 exact zF (ret_one O (rd_tmp (v:=(Value.func (.func 67) #[] #[(pP b1 0)])) O) (λw hw=>(DC hw (a:=(⟨b1⟩:CF 67 (D4 x))) (dp (x:=(⟨b1⟩:BX (D4 x))) hw 0 O hnb1) O)))
theorem KD (x0 x1 x2:Pt):Instr.fill (λi=>some (i*10,10)) (GM ((⟨0,0⟩,⟨0,0⟩,⟨0,0⟩):P3)).toArray [(0,.agg (Ae x0).toArray),(1,.agg (Ae x1).toArray),(2,.agg (Ae x2).toArray)]=some (GM (x0,x1,x2)).toArray:=by kernel_rfl
theorem OQ {ps:List Pt} {zt ss:List Z3} (x:MZ ps zt ss) (hl:zt.length<4611686018427387904) (bo:BX (D4 x)) (l:Nat) (J:Nat->World->Prop) (X:World->Prop) (hL:Lp prog l (nZ ps.length zt) (λt=>[vN t,aG (GM (Bz ps ((zt.map natT).getD t (0,0,0))))]) J X) {S:Nat->Prop} (hro:∀t W,J t W->Ro S W bo/\Ro S W x) (w:World) (h0:J 0 w):Calls prog 67 #[(Value.func (.yield l) #[] #[]),(pP bo.b 0)] w ((λe W2=>(∃v,e=.returned v)/\(J (nZ ps.length zt) W2\/X W2))):=by
 have hbo:=(hro 0 w h0).1
 have hx:=(hro 0 w h0).2
 have lbo:=Bs (W:=w) hbo
 have lx:=Bs (W:=w) hx
 refine AX (args:=[(Value.func (.yield l) #[] #[]),(pP bo.b 0)]) (L:=[AI (some ⟨bo.b,0,none⟩) (D4 x),AI x.a.p (rowsL Ae ps),AI x.b.p (rowsL BB zt),AI x.c.p (rowsL BB ss)]) func67 O O (leB O) (GN hbo (GN hx Al)) (zG (sL [0,1] O) (zV (q4 (st' (v:=(aG (D4 x))) (Af (q:=some ⟨bo.b,0,none⟩) (vs:=D4 x) (off:=0) (i:=0) O O (λe=>by cases e) Fy O O) O (CC call68 (λw hw=>UP x.rq hl w (ef (inS hw 1 O lx))) O (st' (Bh (c:=(!(Du ps.length zt))) O O) O (oNl' (zB (sL [0,1,9] O) (zA ?_)))))))))
 refine zK O (λhc0=>?_) (λhc0=>?_)
 ·simp only [jK] at hc0
  exact zF (zH (Cv (.inl O) O  (λw hw=>⟨⟨_,rfl⟩,.inl (by rw [show nZ ps.length zt=0 from if_neg (by simp [hc0])];exact hL.grow _ _ _ h0 hw.out)⟩)))
 ·simp only [jK] at hc0
  refine zI (q2 (st' (v:=(pP bo.b 1)) (AA O underlying37 O sizeOf23 O) O (st' (Aj (q:=some ⟨bo.b,0,none⟩) (v:=(qz x.b.p zt.length x.b.c)) (off:=1) (i:=0) O O (λe=>by cases e) HY O) O (st' (v:=(vN zt.length)) (AD O underlying23) O (AL O (oNl' (zB (sL [0,1,12,13] O) (zA (zN (zG (F':=[(13,(vI 0)),(12,(vN zt.length)),(0,(Value.func (.yield l) #[] #[])),(1,(pP bo.b 0))]) (sF O) ?_))))))))))
  refine y7 hL (λt=>[(13,(vN t)),(12,(vN zt.length)),(0,(Value.func (.yield l) #[] #[])),(1,(pP bo.b 0))]) [AI (some ⟨bo.b,0,none⟩) (D4 x),AI x.a.p (rowsL Ae ps),AI x.b.p (rowsL BB zt),AI x.c.p (rowsL BB ss)] (λt W h=>A6.startR (GN (hro t W h).1 (GN (hro t W h).2 Al))) (λt W ht hj=>?_) (λW hj=>?_) h0
  ·obtain ⟨hnb,hti,htl⟩:=Vi ht
   have lbo:=Bs (W:=W) (hro t W hj).1
   have lx:=Bs (W:=W) (hro t W hj).2
   refine zG (F':=[(13,(vN t)),(12,(vN zt.length)),(0,(Value.func (.yield l) #[] #[])),(1,(pP bo.b 0))]) (sF O) (q4 (st' (Ag (c:=true) O O (by simp;omega)) O (oNl' (q1 (zY O (zI (q1 (zN (q4 (AL O (asg' O ?_)))))))))))
   refine q3 (sL [13,12,0,1,3] O) (st' (v:=(aG (D4 x))) (Af (q:=some ⟨bo.b,0,none⟩) (vs:=D4 x) (off:=0) (i:=0) O O (λe=>by cases e) Fy O O) O (AL O (CC call69 (λw hw=>OL x t hti hnb w (inS hw 1 O lx)) O (AL O (st' (AH (v:=(aG (Ae (BJ ps ((zt.map natT).getD t (0,0,0)).1)))) O O) O (st' (AH (v:=(aG (Ae (BJ ps ((zt.map natT).getD t (0,0,0)).2.1)))) O O) O (st' (AH (v:=(aG (Ae (BJ ps ((zt.map natT).getD t (0,0,0)).2.2)))) O O) O (al E6 O λb1=>al E6 O λb2=>al E6 O λb3=>Ee O sizeOf62 O ?_))))))))
   refine DG O sizeOf62 O (Am O sizeOf62 O (q6 (sL [13,12,0,1,3,4,5,6] O) ?_))
   refine xC (BL.cut 6 (λ_ _ h=>by obtain ⟨⟨v,hv⟩,_⟩:=h;cases hv) O ?_)
   refine AL O (AL O (Ah 2 A_ O (Ah 1 A_ O (Ah 0 A_ O (st' (v:=(aG (GM (BJ ps ((zt.map natT).getD t (0,0,0)).1,BJ ps ((zt.map natT).getD t (0,0,0)).2.1,BJ ps ((zt.map natT).getD t (0,0,0)).2.2)))) (Cf (zs:=GM ((⟨0,0⟩,⟨0,0⟩,⟨0,0⟩):P3)) (vs:=GM (BJ ps ((zt.map natT).getD t (0,0,0)).1,BJ ps ((zt.map natT).getD t (0,0,0)).2.1,BJ ps ((zt.map natT).getD t (0,0,0)).2.2)) (pv:=[(0,(aG (Ae (BJ ps ((zt.map natT).getD t (0,0,0)).1)))),(1,(aG (Ae (BJ ps ((zt.map natT).getD t (0,0,0)).2.1)))),(2,(aG (Ae (BJ ps ((zt.map natT).getD t (0,0,0)).2.2))))]) zeroValue108 underlying108 sizeOf62 O (KD (BJ ps ((zt.map natT).getD t (0,0,0)).1) (BJ ps ((zt.map natT).getD t (0,0,0)).2.1) (BJ ps ((zt.map natT).getD t (0,0,0)).2.2))) O (oNl' ?_))))))
   refine yL (Ht.yield t hL ht (λw hw=>hL.grow t _ _ hj hw.out) O O O (λW2 hj2=>?_) (λW2 hx=>?_))
   ·refine Ht.ofL (λ_ _ h=>by obtain ⟨⟨v,hv⟩,_⟩:=h;cases hv) O (st' (Bh (c:=false) O O) O (oNl' (zB (sL [13,12,0,1,3,4,5,6,30] O) (zA (zU O (zI (zM (zA (zL (st' (Ad (c:=((t+1:Nat):Int)) O O (Ab (a:=t) (b:=1) Z)) O (AL O ?_)))))))))))
    exact oNl' (zB (sL [13,12,0,1,3,4,5,6] O) (yL λa w ha hw=>⟨ha.sub (sF O),hL.grow (t+1) _ _ hj2 hw.out⟩))
   ·exact Ht.ofL (λ_ _ h=>by obtain ⟨⟨v,hv⟩,_⟩:=h;cases hv) O (st' (Bh (c:=true) O O) O (oNl' (zB (sL [13,12,0,1,3,4,5,6,30] O) (zA (zY O (zF (zT (zH (zH (zT (Cv (.inl O) O  (λw hw=>⟨⟨_,rfl⟩,.inr (hL.growX _ _ hx hw.out)⟩))))))))))))
  ·have hN:nZ ps.length zt=zt.length:=if_pos hc0
   exact zG (F':=[(13,(vN (nZ ps.length zt))),(12,(vN zt.length)),(0,(Value.func (.yield l) #[] #[])),(1,(pP bo.b 0))]) (sF O) (q4 (st' (Ag (c:=false) O O (by simp;omega)) O (oNl' (q1 (zU O (zW (zO (zO (zR (Cv (.inr O) O  (λw hw=>⟨⟨_,rfl⟩,.inl (hL.grow _ _ _ hj hw.out)⟩)))))))))))
theorem UK {ps:List Pt} {zt ss:List Z3} (x:MZ ps zt ss) (hl:zt.length<4611686018427387904) (q:Pt) (hz:∀i,BD (BJ ps i)<=4) (hq:BD q<=1000000) (w:World) {S:Nat->Prop} (hx:Ro S w x):Calls prog 15 #[(aG (D4 x)),(aG (Ae q))] w (AY w (Value.tuple #[(vI ((fdA ps zt q).1)),(vN ((fdA ps zt q).2))])):=by
 have lx:=Bs (W:=w) hx
 refine FO (args:=[(aG (D4 x)),(aG (Ae q))]) (L:=[AI x.a.p (rowsL Ae ps),AI x.b.p (rowsL BB zt),AI x.c.p (rowsL BB ss)]) func15 O O (leB O) (GN hx Al) (BL.subF (sL [0,1] O) (BL.seq (BL.region (λ_ _ h=>by cases h.1) O (A9 (cs:=D4 x) O λb1=>A9 (cs:=Ae q) O λb2=>al dx O λb3=>al dx O λb4=>oNl' (zB (sL [2,3,4,5] O) (zX (BL.seq ?_)))))))
 refine BL.seq (BL.region (λ_ _ h=>by cases h.1) O (Ah 3 Fy O (zu (S:=S) (α:=CF 67 (D4 x)) (args:=[(aG (D4 x))]) call29 (λw hw=>RN x w (inS hw 4 O lx)) O O O λfa lfa=>oNl' (zB (sL [3,4,5,10] O) (zX (BL.block (BL.subF (F':=[(10,(Value.func (.func 67) #[] #[(pP fa.b 0)])),(3,(pP b2 0)),(4,(pP b3 0)),(5,(pP b4 0))]) (sF O) ?_)))))))
 refine BL.rangeFunc (σ:=Unit) O call67 O O (nZ ps.length zt) (λt=>(vN t)) (λt=>(aG (GM (Bz ps ((zt.map natT).getD t (0,0,0)))))) (λt s=>findAt ps q (zt.map natT) 0=findAt ps q ((zt.map natT).drop t) t) (λt s=>Du ps.length zt=true/\findAt ps q (zt.map natT) 0=((t:Int),BR ps q ((zt.map natT).getD t (0,0,0)))) (λt s=>[AI (some ⟨fa.b,0,none⟩) (D4 x),AQ b4 3 ([(vI 0)]),AQ b3 3 ([(vI 0)]),AQ b2 62 (Ae q),AQ b1 37 (D4 x),AI x.a.p (rowsL Ae ps),AI x.b.p (rowsL BB zt),AI x.c.p (rowsL BB ss)]) (λt s=>[AI (some ⟨fa.b,0,none⟩) (D4 x),AQ b4 3 ([(vN (BR ps q ((zt.map natT).getD t (0,0,0))))]),AQ b3 3 ([(vN t)]),AQ b2 62 (Ae q),AQ b1 37 (D4 x),AI x.a.p (rowsL Ae ps),AI x.b.p (rowsL BB zt),AI x.c.p (rowsL BB ss)]) () sr O (λl J X W hJ hL h0=>OQ x hl fa.bx l J X hL (λt W h=>by obtain ⟨s,_,hw⟩:=hJ t W h;exact ⟨Ro.top (inS hw 0 O lfa:Ro _ _ fa),Ro.top (inS hw 5 O lx)⟩) W h0) (λl la1 la2 da t s ht hP K hK=>?_) (λla D s hP=>?_) (λla D t s hP=>?_)
 ·obtain ⟨hnb,hti,htl⟩:=Vi ht
  refine BL.subF (F':=[(12,(aG (GM (Bz ps ((zt.map natT).getD t (0,0,0)))))),(11,(vN t)),(10,(Value.func (.func 67) #[] #[(pP fa.b 0)])),(3,(pP b2 0)),(4,(pP b3 0)),(5,(pP b4 0))]) (sF O) (BL.subL (L':=[la1,da,AI (some ⟨fa.b,0,none⟩) (D4 x),AQ b4 3 ([(vI 0)]),AQ b3 3 ([(vI 0)]),AQ b2 62 (Ae q),AQ b1 37 (D4 x),AI x.a.p (rowsL Ae ps),AI x.b.p (rowsL BB zt),AI x.c.p (rowsL BB ss)]) (xP _) (BL.seq (BL.region (λ_ _ h=>h) O (asg' O (oNl' (zX (BL.region (λ_ _ h=>h) O (al PW O λb5=>Am O sizeOf108 O (oNl' ?_)))))))))
  refine yL (hK 1 _ _ O ?_)
  refine BL.subL (L':=[AQ b5 108 (GM (Bz ps ((zt.map natT).getD t (0,0,0)))),la2,da,AI (some ⟨fa.b,0,none⟩) (D4 x),AQ b4 3 ([(vI 0)]),AQ b3 3 ([(vI 0)]),AQ b2 62 (Ae q),AQ b1 37 (D4 x),AI x.a.p (rowsL Ae ps),AI x.b.p (rowsL BB zt),AI x.c.p (rowsL BB ss)]) (xP _) (BL.block (BL.seq (BL.region (λ_ _ h=>h) O (st' (v:=(pP b5 0)) (AC (j:=0) O O underlying108 sizeOf62 O jY O) O (Br 0 (Ae ((Bz ps ((zt.map natT).getD t (0,0,0))).1)) A_ O (st' (v:=(pP b5 10)) (AC (j:=1) O O underlying108 sizeOf62 O jY O) O (Br 0 (Ae ((Bz ps ((zt.map natT).getD t (0,0,0))).2.1)) A_ O (st' (v:=(pP b5 20)) (AC (j:=2) O O underlying108 sizeOf62 O jY O) O (Br 0 (Ae ((Bz ps ((zt.map natT).getD t (0,0,0))).2.2)) A_ O (Ah 6 A_ O (ck' call30 (F1 (BJ ps ((zt.map natT).getD t (0,0,0)).1) (BJ ps ((zt.map natT).getD t (0,0,0)).2.1) (BJ ps ((zt.map natT).getD t (0,0,0)).2.2) q (by have z1:=hz ((zt.map natT).getD t (0,0,0)).1;have z2:=hz ((zt.map natT).getD t (0,0,0)).2.1;have z3:=hz ((zt.map natT).getD t (0,0,0)).2.2;omega)) O ?_)))))))))))
  refine asg' O (oNl' (zX (BL.seq (BL.region (λ_ _ h=>h) O (AL O (st' (C1 (c:=(decide ((BR ps q ((zt.map natT).getD t (0,0,0)))≠0))) O O (cX (a:=BR ps q ((zt.map natT).getD t (0,0,0))) (b:=0))) O (oNl' (zX ?_))))))))
  refine BL.cond O (λhc0=>?_) (λhc0=>?_)
  ·replace hc0:=xR hc0
   exact BL.seq (BL.region (λ_ _ h=>h) O (AL O (AL O (EV 5 (off:=0) (vs:=[(vN t)]) (cs':=[(vN t)]) (AJ O) O sizeOf3 O (EV 4 (off:=0) (vs:=[(vN (BR ps q ((zt.map natT).getD t (0,0,0))))]) (cs':=[(vN (BR ps q ((zt.map natT).getD t (0,0,0))))]) (AJ O) O sizeOf3 O (oNl' (zX (BL.ret (zT (xD () ⟨hnb,hP.trans (H_ hti (by simpa using hc0))⟩ (sl sr)))))))))))
  ·replace hc0:=xQ hc0
   exact BL.skip (zM (yP () (hP.trans (HK hti (by simpa using hc0))) (sl sr)))
 ·refine Eb.behind ?_
  have hr:=Xy hP
  exact Eb.subF (F':=[(10,(Value.func (.func 67) #[] #[(pP fa.b 0)])),(3,(pP b2 0)),(4,(pP b3 0)),(5,(pP b4 0))]) (sF O) (Eb.seq (Eb.region (λ_ _ h=>by cases h.1) O (EV 4 (off:=0) (vs:=[(vI (-1:Int))]) (cs':=[(vI (-1:Int))]) (AJ O) O sizeOf3 O (Fd O sizeOf3 O (oNl' (yM (Eb.ret (Qo 1 O (Bf O (HU (i:=4) (v:=(vI (-1:Int))) O O isAgg3 O) (HU (i:=3) (v:=(vI 0)) O O isAgg3 O) (λw hw=>⟨by rw [hr]<;>rfl,hw.out⟩))))))))))
 ·refine Eb.out ?_
  have hr:=Xz hP.1 hP.2
  exact Qo 1 O (Bf O (HU (i:=4) (v:=(vN t)) O O isAgg3 O) (HU (i:=3) (v:=(vN (BR ps q ((zt.map natT).getD t (0,0,0))))) O O isAgg3 O) (λw hw=>⟨by rw [hr]<;>rfl,hw.out⟩))
end
section
set_option maxRecDepth 100000
theorem WY (c0 c1 c2 a b:Pt) (s0:BD c0<=6) (s1:BD c1<=6) (s2:BD c2<=6) (sa:BD a<=6) (sb:BD b<=6) (hT:AF c0 c1 c2=0) (w:World)  :Calls prog 35 #[(aG (GM (c0,c1,c2))),(aG (Ae a)),(aG (Ae b))] w (AY w (Value.tuple #[(aG (AB (0:Rat))),(aG (AB (1:Rat))),(qa false)])):=by
 refine AS (args:=[(aG (GM (c0,c1,c2))),(aG (Ae a)),(aG (Ae b))]) func35 O O (leB O) (zG (sL [0,1,2] O) (q4 (A9 (cs:=GM (c0,c1,c2)) O λb1=>A9 (cs:=Ae a) O λb2=>A9 (cs:=Ae b) O λb3=>al CZ O λb4=>al CZ O λb5=>asg' O (q3 (sL [3,4,5,6,7,8] O) (st' (v:=(pP b1 0)) (AC (j:=0) O O underlying108 sizeOf62 O jY O) O (Br 4 (Ae c0) A_ O ?_))))))
 refine st' (v:=(pP b1 10)) (AC (j:=1) O O underlying108 sizeOf62 O jY O) O (Br 4 (Ae c1) A_ O (st' (v:=(pP b1 20)) (AC (j:=2) O O underlying108 sizeOf62 O jY O) O (Br 4 (Ae c2) A_ O (Ah 3 A_ O (ck' call70 (KX c0 c1 c2 a Z hT) O (AL O (st' (AH (v:=(aG (AB (0:Rat)++AB (0:Rat)++AB (0:Rat)))) O O) O (st' (AH (v:=(vI 1)) O O) O (al H0 O λb6=>Am O sizeOf153 O (asg' O ?_))))))))))
 refine q3 (sL [3,5,6,7,8,9,10] O) (st' (v:=(pP b1 0)) (AC (j:=0) O O underlying108 sizeOf62 O jY O) O (Br 5 (Ae c0) A_ O (st' (v:=(pP b1 10)) (AC (j:=1) O O underlying108 sizeOf62 O jY O) O (Br 5 (Ae c1) A_ O (st' (v:=(pP b1 20)) (AC (j:=2) O O underlying108 sizeOf62 O jY O) O (Br 5 (Ae c2) A_ O (Ah 3 A_ O (ck' call70 (KX c0 c1 c2 b Z hT) O (AL O (st' (AH (v:=(aG (AB (0:Rat)++AB (0:Rat)++AB (0:Rat)))) O O) O (st' (AH (v:=(vI 1)) O O) O ?_)))))))))))
 refine al H0 O λb7=>Am O sizeOf153 O (asg' O (q3 (sL [3,6,7,8,9,10,11] O) (CC (args:=[(vI 0)]) (v:=(aG (AB (0:Rat)))) call17 (λw hw=>(by have h9:=Eo (0:Int) Z Z w;rw [show ((0:Int):Rat)=(0:Rat) by decide +kernel] at h9;exact h9)) O (CC (args:=[(vI 1)]) (v:=(aG (AB (1:Rat)))) call17 (λw hw=>(by have h9:=Eo (1:Int) Z Z w;rw [show ((1:Int):Rat)=(1:Rat) by decide +kernel] at h9;exact h9)) O (Fd O sizeOf60 O (Ee O sizeOf60 O (q6 (sL [3,6,7,8,9,10,11] O) (q4 (AL O (st' (C1 (c:=true) O O jY) O ?_))))))))))
 refine oNl' (zB (sL [3,6,7,8,9,11,42] O) (zA (zY O (zV (B8 [(0,true),(1,true),(2,false),(3,false),(4,true)] sr (Bv 3 Ay O (Bv 2 Ay O (zD O (Fd O sizeOf60 O (zC sr (zD O ?_)))))))))))
 exact Ee O sizeOf60 O (zC sr (pS' O (zP (zB (sL [3,6,7,8,9,11] O) (zA (zF (zH (DD O (Aa (i:=3) (cs:=AB (0:Rat)) O O isAgg60 sizeOf60 O) (Aa (i:=2) (cs:=AB (1:Rat)) O O isAgg60 sizeOf60 O) (rd_tmp (v:=(qa false)) O) (λw hw=>⟨rfl,hw.out⟩)))))))))
theorem WZ (c0 c1 c2 a b:Pt) (s0:BD c0<=6) (s1:BD c1<=6) (s2:BD c2<=6) (sa:BD a<=6) (sb:BD b<=6) (w:World):Calls prog 35 #[aG (GM (c0,c1,c2)),aG (Ae a),aG (Ae b)] w (AY w (.tuple #[aG (AB (Fc (c0,c1,c2) a b).1),aG (AB (Fc (c0,c1,c2) a b).2.1),.bool (Fc (c0,c1,c2) a b).2.2])):=by
 by_cases h:AF c0 c1 c2=0
 ·rw [Y6 h];exact WY c0 c1 c2 a b s0 s1 s2 sa sb h w
 ·rw [Y7 h];exact Ld c0 c1 c2 a b s0 s1 s2 sa sb h w
theorem Eh (x0:Nat) (x1:Rat) (x2:Rat):Instr.fill ([(0,1),(1,5),(6,5)].toArray[·]?) ([(vI 0)]++AB (0:Rat)++AB (0:Rat)).toArray [(0,vN x0),(1,.agg (AB x1).toArray),(2,.agg (AB x2).toArray)]=some ([(vN x0)]++AB x1++AB x2).toArray:=by kernel_rfl
theorem Lu (x0:Pc):Instr.fill (λi=>some (i*11,11)) ((Array.range (1*11)).map ((Value.agg ([(vI 0)]++AB (0:Rat)++AB (0:Rat)).toArray).cells[·%(Value.agg ([(vI 0)]++AB (0:Rat)++AB (0:Rat)).toArray).cells.size]!)) [(0,.agg (CI x0).toArray)]=some (CI x0).toArray:=by kernel_rfl
set_option maxHeartbeats 2000000 in
theorem XN {ps:List Pt} {zt ss:List Z3} (x:MZ ps zt ss) (hl:zt.length<=1000) (a b:Pt) (hz:∀i,BD (BJ ps i)<=4) (sa:BD a<=6) (sb:BD b<=6) (hab:¬a=b)  (w:World) {S:Nat->Prop} (hx:Ro S w x):Calls prog 18 #[(aG (D4 x)),(aG (Ae a)),(aG (Ae b))] w (Ai (CX (rowsL CI (WG ps (zt.map natT) a b (nZ ps.length zt))) (WG ps (zt.map natT) a b (nZ ps.length zt)).length) S w):=by
 have lx:=Bs (W:=w) hx
 refine FO (args:=[(aG (D4 x)),(aG (Ae a)),(aG (Ae b))]) (L:=[AI x.a.p (rowsL Ae ps),AI x.b.p (rowsL BB zt),AI x.c.p (rowsL BB ss)]) func18 O O (leB O) (GN hx Al) (BL.subF (sL [0,1,2] O) (BL.seq (BL.region (λ_ _ h=>by obtain ⟨_,h,_⟩:=h;cases h) O (A9 (cs:=D4 x) O λb1=>A9 (cs:=Ae a) O λb2=>A9 (cs:=Ae b) O λb3=>asg' O (oNl' (zB (sL [3,4,5,6] O) (zX (BL.seq ?_))))))))
 refine BL.region (λ_ _ h=>by obtain ⟨_,h,_⟩:=h;cases h) O (al ZF O λb4=>zk 75 11 (oNl' (zX (BL.seq (BL.seq (BL.region (λ_ _ h=>by obtain ⟨_,h,_⟩:=h;cases h) O (Ah 3 A_ O (Ah 2 A_ O (st' (Cg (c:=decide (a=b)) O O eqGuardType62 (Nc 9994 a b)) O (oNl' ?_))))))))))
 refine zB (sL [3,4,5,6,7,18] O) (zX ?_)
 refine BL.cond O (λhc0=>?_) (λhc0=>?_)
 ·replace hc0:=xR hc0
  exact absurd hc0 hab
 ·replace hc0:=xQ hc0
  refine BL.skip (zX (BL.seq (BL.region (λ_ _ h=>by obtain ⟨_,h,_⟩:=h;cases h) O (ck' call14 (JG (1:Int) (2:Int) Z Z Z Z Z) O (AL O (st' (AH (v:=(aG (AB (((1:Int):Rat)/((2:Int):Rat))))) O O) O (st' (AH (v:=(vI 0)) O O) O (al CZ O λb5=>Am O sizeOf60 O (asg' O (oNl' ?_))))))))))
  refine zB (sL [3,4,5,6,7,8] O) (zX (BL.seq (BL.seq (BL.region (λ_ _ h=>by obtain ⟨_,h,_⟩:=h;cases h) O (Ah 5 Fy O (zu (S:=S) (α:=CF 67 (D4 x)) (args:=[(aG (D4 x))]) call29 (λw hw=>RN x w (inS hw 6 O lx)) O O O λfa lfa=>oNl' (zB (sL [4,5,6,7,8,24] O) (zX (BL.block (BL.subF (F':=[(24,(Value.func (.func 67) #[] #[(pP fa.b 0)])),(4,(pP b2 0)),(5,(pP b3 0)),(6,jj),(7,(pP b4 0)),(8,(pP b5 0))]) (sF O) ?_))))))))))
  refine BL.rangeFunc (σ:=Option Addr×Nat) O call67 O O ((nZ ps.length zt)) (λt=>(vN t)) (λt=>(aG (GM (Bz ps ((zt.map natT).getD t (0,0,0)))))) (λt s=>IS (BW ps (zt.map natT) a b t) s) (λt s=>False) (λt s=>[AI (some ⟨fa.b,0,none⟩) (D4 x),AQ b5 60 (AB (((1:Int):Rat)/((2:Int):Rat))),rowW s.1 75 11 ((BW ps (zt.map natT) a b t).length) s.2 (rowsL CI (BW ps (zt.map natT) a b t)),AQ b4 72 ([(qz s.1 ((BW ps (zt.map natT) a b t).length) s.2)]),AQ b3 62 (Ae b),AQ b2 62 (Ae a),AQ b1 37 (D4 x),AI x.a.p (rowsL Ae ps),AI x.b.p (rowsL BB zt),AI x.c.p (rowsL BB ss)]) (λt s=>[]) (none,0) sr ⟨OwnOk.none,λ_=>rfl⟩ (λl J X W hJ hL h0=>OQ x Z fa.bx l J X hL (λt W h=>by obtain ⟨s,_,hw⟩:=hJ t W h;exact ⟨Ro.top (inS hw 0 O lfa:Ro _ _ fa),Ro.top (inS hw 7 O lx)⟩) W h0) (λl la1 la2 da t s ht hP K hK=>?_) (λla D s hP=>?_) (λla D t s hP=>?_)
  ·obtain ⟨hnb,hti,htl⟩:=Vi ht
   have hrl:=GC (ps:=ps) (ts:=zt.map natT) (a:=a) (b:=b) t
   obtain ⟨sv,hsv⟩:∃s,s=Fc (Bz ps ((zt.map natT).getD t (0,0,0))) a b:=⟨_,rfl⟩
   have hsz:Sz sv.1<=400/\Sz sv.2.1<=400:=by rw [hsv];exact Wa (c:=Bz ps ((zt.map natT).getD t (0,0,0))) (xK (hz _) jY) (xK (hz _) jY) (xK (hz _) jY) sa sb
   have hhf:Sz (((1:Int):Rat)/((2:Int):Rat))<=2:=by decide +kernel
   obtain ⟨z1,z2⟩:=hsz
   refine BL.subF (F':=[(26,(aG (GM (Bz ps ((zt.map natT).getD t (0,0,0)))))),(25,(vN t)),(24,(Value.func (.func 67) #[] #[(pP fa.b 0)])),(4,(pP b2 0)),(5,(pP b3 0)),(6,jj),(7,(pP b4 0)),(8,(pP b5 0))]) (sF O) (BL.subL (L':=[la1,da,AI (some ⟨fa.b,0,none⟩) (D4 x),AQ b5 60 (AB (((1:Int):Rat)/((2:Int):Rat))),rowW s.1 75 11 ((BW ps (zt.map natT) a b t).length) s.2 (rowsL CI (BW ps (zt.map natT) a b t)),AQ b4 72 ([(qz s.1 ((BW ps (zt.map natT) a b t).length) s.2)]),AQ b3 62 (Ae b),AQ b2 62 (Ae a),AQ b1 37 (D4 x),AI x.a.p (rowsL Ae ps),AI x.b.p (rowsL BB zt),AI x.c.p (rowsL BB ss)]) (xP _) (BL.seq (BL.region (λ_ _ h=>h) O (asg' O (oNl' (zX (BL.region (λ_ _ h=>h) O (al PW O λb6=>Am O sizeOf108 O (oNl' ?_)))))))))
   refine yL (hK 1 _ _ O ?_)
   refine BL.subL (L':=[AQ b6 108 (GM (Bz ps ((zt.map natT).getD t (0,0,0)))),la2,da,AI (some ⟨fa.b,0,none⟩) (D4 x),AQ b5 60 (AB (((1:Int):Rat)/((2:Int):Rat))),rowW s.1 75 11 ((BW ps (zt.map natT) a b t).length) s.2 (rowsL CI (BW ps (zt.map natT) a b t)),AQ b4 72 ([(qz s.1 ((BW ps (zt.map natT) a b t).length) s.2)]),AQ b3 62 (Ae b),AQ b2 62 (Ae a),AQ b1 37 (D4 x),AI x.a.p (rowsL Ae ps),AI x.b.p (rowsL BB zt),AI x.c.p (rowsL BB ss)]) (xP _) (BL.block (BL.seq (BL.region (λ_ _ h=>h) O (Ah 0 Wj O (Ah 8 A_ O (Ah 7 A_ O (CC (args:=[(aG (GM (Bz ps ((zt.map natT).getD t (0,0,0))))),(aG (Ae a)),(aG (Ae b))]) (v:=(Value.tuple #[(aG (AB sv.1)),(aG (AB sv.2.1)),(qa sv.2.2)])) call35 (λw hw=>(by rw [hsv];exact (WZ (BJ ps ((zt.map natT).getD t (0,0,0)).1) (BJ ps ((zt.map natT).getD t (0,0,0)).2.1) (BJ ps ((zt.map natT).getD t (0,0,0)).2.2) a b (by have:=hz ((zt.map natT).getD t (0,0,0)).1;omega) (by have:=hz ((zt.map natT).getD t (0,0,0)).2.1;omega) (by have:=hz ((zt.map natT).getD t (0,0,0)).2.2;omega) sa sb w))) O (AL O (st' (AH (v:=(aG (AB sv.1))) O O) O (st' (AH (v:=(aG (AB sv.2.1))) O O) O (st' (AH (v:=(qa sv.2.2)) O O) O ?_)))))))))))
   refine al CZ O λb7=>al CZ O λb8=>DG O sizeOf60 O (Am O sizeOf60 O (asg' O (oNl' (zX (BL.seq (BL.seq (BL.region (λ_ _ h=>h) O (AL O (st' (Bh (c:=(!sv.2.2)) O O) O ?_)))))))))
   refine oNl' (zX ?_)
   refine BL.cond O (λhc1=>?_) (λhc1=>?_)
   ·simp only [jK] at hc1
    replace hc1:sv.2.2=false:=by simpa using hc1
    have e:=Ta hsv hc1
    refine BL.exit (zO (zR ?_))
    rw [<-e]
    exact yP s (by show IS (BW ps (zt.map natT) a b (t+1)) s;rw [e];exact hP) (sl (sl (sl sr)))
   ·simp only [jK] at hc1
    replace hc1:sv.2.2=true:=by simpa using hc1
    refine BL.skip (zX (BL.seq (iN [(0,true),(1,true),(2,true),(4,true),(5,true),(6,true),(3,false),(7,false),(8,false),(9,false),(10,false)] [⟨11,15,62,Ae (⟨0,0⟩:Pt)⟩] [(12,false)] sr jV (λ_ _ d _ _ h=>by cases d<;>exact h) (FY O O E6 O (Fj)) O (λ_ _ h=>h) O (EI 10 A_ O (EI 9 A_ O (EI 10 A_ O (EI 6 Ay O (EI 1 Ay O (EI 0 Ay O (ze O λEF EL=>?_))))))))))
    have hz1:=Bi b a
    refine ck' call38 (Ho b a Z) O (zd sr O (ze O λEF EL=>?_))
    have hz2:=DY sv.1 sv.2.1
    refine ck' call31 (Ga sv.1 sv.2.1 (by (try simp only [BE]);omega)) O (zd sr O (ze O λEF EL=>?_))
    have hz3:=CU (((1:Int):Rat)/((2:Int):Rat)) (sv.1+sv.2.1)
    refine ck' call39 (E_ (((1:Int):Rat)/((2:Int):Rat)) (sv.1+sv.2.1) (by (try simp only [BE]);omega)) O (zd sr O (ze O λEF EL=>?_))
    have hz4:=Ef (b-a) ((((1:Int):Rat)/((2:Int):Rat))*(sv.1+sv.2.1))
    refine ck' call37 (JS (b-a) ((((1:Int):Rat)/((2:Int):Rat))*(sv.1+sv.2.1)) Z) O (zd sr O (ze O λEF EL=>?_))
    have hz5:=GP a (Bg (b-a) ((((1:Int):Rat)/((2:Int):Rat))*(sv.1+sv.2.1)))
    refine ck' call36 (Nq a (Bg (b-a) ((((1:Int):Rat)/((2:Int):Rat))*(sv.1+sv.2.1))) Z) O (zd sr O (zm λb9=>zD O (Am O sizeOf62 O (zC (sl sr) (zP (zX (BL.seq (BL.region (λ_ _ h=>h) O (st' (v:=(pP b6 0)) (AC (j:=0) O O underlying108 sizeOf62 O jY O) O (Br 3 (Ae ((Bz ps ((zt.map natT).getD t (0,0,0))).1)) A_ O ?_))))))))))
    refine st' (v:=(pP b6 10)) (AC (j:=1) O O underlying108 sizeOf62 O jY O) O (Br 3 (Ae ((Bz ps ((zt.map natT).getD t (0,0,0))).2.1)) A_ O (st' (v:=(pP b6 20)) (AC (j:=2) O O underlying108 sizeOf62 O jY O) O (Br 3 (Ae ((Bz ps ((zt.map natT).getD t (0,0,0))).2.2)) A_ O (Ah 0 A_ O (ck' call30 (F1 (BJ ps ((zt.map natT).getD t (0,0,0)).1) (BJ ps ((zt.map natT).getD t (0,0,0)).2.1) (BJ ps ((zt.map natT).getD t (0,0,0)).2.2) (F9 a b sv.1 sv.2.1) (by have z1:=hz ((zt.map natT).getD t (0,0,0)).1;have z2:=hz ((zt.map natT).getD t (0,0,0)).2.1;have z3:=hz ((zt.map natT).getD t (0,0,0)).2.2;unfold F9;omega)) O (st' (Az (c:=(decide ((BR ps (F9 a b sv.1 sv.2.1) ((zt.map natT).getD t (0,0,0)))=1))) O O (OI (a:=BR ps (F9 a b sv.1 sv.2.1) ((zt.map natT).getD t (0,0,0))) (b:=1))) O (oNl' (zX ?_))))))))
    refine BL.cond O (λhc2=>?_) (λhc2=>?_)
    ·replace hc2:=xR hc2
     have e:=WE hsv hc1 hc2
     refine BL.region (λ_ _ h=>h) O (BZ 9 (qz s.1 ((BW ps (zt.map natT) a b t).length) s.2) N5 O (AL O (Ah 2 Ay O (Ah 1 Ay O (st' (v:=(aG ([(vN t)]++AB sv.1++AB sv.2.1))) (AR (zs:=[(vI 0)]++AB (0:Rat)++AB (0:Rat)) (vs:=[(vN t)]++AB sv.1++AB sv.2.1) (pv:=[(0,(vN t)),(1,(aG (AB sv.1))),(2,(aG (AB sv.2.1)))]) (places:=[(0,1),(1,5),(6,5)]) zeroValue75 underlying75 (λw=>by simp [sizeOf3,sizeOf60]) O (Eh t sv.1 sv.2.1)) O (zf (V:=λb10=>(qz (jk b10) 1 1)) (T:=75) (cs:=CI (⟨t,sv.1,sv.2.1⟩:Pc)) (AJ O) (Ar (z:=.agg ([(vI 0)]++AB (0:Rat)++AB (0:Rat)).toArray) (cs:=CI (⟨t,sv.1,sv.2.1⟩:Pc)) (pv:=[(0,(aG ([(vN t)]++AB sv.1++AB sv.2.1)))]) underlying72 sizeOf75 zeroValue75 jY jY O (Lu (⟨t,sv.1,sv.2.1⟩:Pc))) O (leB O) λb10=>yF 9 (j:=0) (cs2:=rowsL CI ((BW ps (zt.map natT) a b t)++[(⟨t,sv.1,sv.2.1⟩:Pc)])) bA O hP.1 (AV C5 _) O O O O O jY (G8 Z) Z (by rw [BM];rfl) O λp_1 c_1 ho_1 hne_1=>EV 10 (off:=0) (vs:=[(qz p_1 (((BW ps (zt.map natT) a b t).length)+1) c_1)]) (cs':=[(qz p_1 (((BW ps (zt.map natT) a b t).length)+1) c_1)]) (AJ O) O sizeOf72 O (oNl' (zM ?_))))))))
     rw [show (BW ps (zt.map natT) a b t).length+1=(BW ps (zt.map natT) a b t++[(⟨t,sv.1,sv.2.1⟩:Pc)]).length by simp,<-e]
     exact yP (p_1,c_1) (IS.more e ho_1) (sl (sl (sl (sl (sl sr)))))
    ·replace hc2:=xQ hc2
     have e:=TZ hsv hc1 hc2
     refine BL.skip (zM ?_)
     rw [<-e]
     exact yP s (by show IS (BW ps (zt.map natT) a b (t+1)) s;rw [e];exact hP) (sl (sl (sl (sl sr))))
  ·refine Eb.behind ?_
   have hnl:=Vh ps.length zt
   have hrl:=GC (ps:=ps) (ts:=zt.map natT) (a:=a) (b:=b) (nZ ps.length zt)
   have hpb:=LU (ts:=zt.map natT) hz sa sb (nZ ps.length zt) (by rw [xI];exact hnl)
   refine Eb.subF (F':=[(24,(Value.func (.func 67) #[] #[(pP fa.b 0)])),(4,(pP b2 0)),(5,(pP b3 0)),(6,jj),(7,(pP b4 0)),(8,(pP b5 0))]) (sF O) (Eb.seq (Eb.region (λ_ _ h=>by obtain ⟨_,h,_⟩:=h;cases h) O (BZ 5 (qz s.1 ((BW ps (zt.map natT) a b (nZ ps.length zt)).length) s.2) N5 O (y8 4 (cs':=rowsL CI (J_ (BW ps (zt.map natT) a b (nZ ps.length zt)))) (v:=(Value.tuple #[])) (AJ O) (Ac (args:=[(qz s.1 ((BW ps (zt.map natT) a b (nZ ps.length zt)).length) s.2),(Value.func (.func 41) #[] #[])]) O O call40) O (λw hw=>WX _ _ _ _ 75 hP.1 O Z hpb (PG _) w (hw.holds (i:=4) O)) (λd hd=>by cases hd<;>exact (leB O)) (oNl' (zB (sL [24,4,5,6,7,8] O) (yM (Eb.seq (Eb.region (λ_ _ h=>by obtain ⟨_,h,_⟩:=h;cases h) O (BZ 5 (qz s.1 ((BW ps (zt.map natT) a b (nZ ps.length zt)).length) s.2) N5 O (ck' call45 (NT s.1 _ s.2 hP.1.le) O ?_)))))))))))
   exact asg' O (oNl' (zB (sL [24,4,5,6,7,8] O) (yM (Eb.ret (Qo 1 O (ret_one O (rd_tmp (v:=(qz s.1 ((BW ps (zt.map natT) a b (nZ ps.length zt)).length) ((BW ps (zt.map natT) a b (nZ ps.length zt)).length))) O) (λw hw=>(by rw [show (WG ps (zt.map natT) a b (nZ ps.length zt)).length=(BW ps (zt.map natT) a b (nZ ps.length zt)).length from Lf _];exact cr hw 4 O hP.1 (by rw [AV C5,Lf]) O))))))))
  ·exact hP.elim
theorem US {ps:List Pt} {zt ss:List Z3} (x:MZ ps zt ss) (a:Pt) (w:World) {S:Nat->Prop} (hx:Ro S w x):Calls prog 18 #[(aG (D4 x)),(aG (Ae a)),(aG (Ae a))] w (AY w jj):=by
 have lx:=Bs (W:=w) hx
 refine AX (args:=[(aG (D4 x)),(aG (Ae a)),(aG (Ae a))]) (L:=[AI x.a.p (rowsL Ae ps),AI x.b.p (rowsL BB zt),AI x.c.p (rowsL BB ss)]) func18 O O (leB O) (GN hx Al) (zG (sL [0,1,2] O) (q4 (A9 (cs:=D4 x) O λb1=>A9 (cs:=Ae a) O λb2=>A9 (cs:=Ae a) O λb3=>asg' O (q3 (sL [3,4,5,6] O) (al ZF O λb4=>oNl' (q1 (q4 ?_)))))))
 refine Ah 2 A_ O (Ah 1 A_ O (st' (Cg (c:=decide (a=a)) O O eqGuardType62 (Nc 9994 a a)) O (oNl' (zB (sL [3,4,5,6,7,18] O) (zA ?_)))))
 refine zK O (λhc0=>?_) (λhc0=>?_)
 ·replace hc0:=xR hc0
  exact q4 (asg' O (oNl' (zA (zF (zH (ret_one O (rd_tmp (v:=jj) O) (λw hw=>⟨rfl,hw.out⟩)))))))
 ·replace hc0:=xQ hc0
  exact absurd O hc0
theorem XM {ps:List Pt} {zt ss:List Z3} (x:MZ ps zt ss) (hl:zt.length<=1000) (a b:Pt) (hz:∀i,BD (BJ ps i)<=4) (sa:BD a<=6) (sb:BD b<=6) (w:World) {S:Nat->Prop} (hx:Ro S w x):Calls prog 18 #[(aG (D4 x)),aG (Ae a),aG (Ae b)] w (Ai (CX (rowsL CI (JX ps zt a b)) (JX ps zt a b).length) S w):=by
 unfold JX
 by_cases h:a=b
 ·subst h
  rw [if_pos rfl]
  refine (US x a w hx).mono ?_
  rintro e w1 ⟨rfl,hb⟩
  exact ⟨⟨none,OwnOk.none.row⟩,rfl,hb,λy hy=>by rcases xM.1 hy with rfl;exact ⟨(λb e=>by cases e),(λb e=>by cases e)⟩⟩
 ·rw [if_neg h]
  exact XN x hl a b hz sa sb h w hx
end
section
set_option maxRecDepth 100000
set_option maxHeartbeats 2000000 in
theorem UN {ps:List Pt} {ts ss:List Z3} (x:MZ ps ts ss) (q:Pt) (hl:ps.length<=1000000000) (hz:∀i,BD (BJ ps i)<=4) (hzq:BD q<=6) (w:World) {S:Nat->Prop} (hx:Ro S w x):Calls prog 24 #[(aG (D4 x)),(aG (Ae q))] w (AY w (vI ((nerF (Z_ ps q) ps.length).1))):=by
 have lx:=Bs (W:=w) hx
 refine AX (args:=[(aG (D4 x)),(aG (Ae q))]) (L:=[AI x.a.p (rowsL Ae ps),AI x.b.p (rowsL BB ts),AI x.c.p (rowsL BB ss)]) func24 O O (leB O) (GN hx Al) (zG (sL [0,1] O) (q4 (A9 (cs:=D4 x) O λb1=>A9 (cs:=Ae q) O λb2=>asg' O (q3 (sL [2,3,4] O) (asg' O (oNl' (q2 (al CZ O λb3=>oNl' ?_))))))))
 refine q1 (q4 (st' (v:=(pP b1 0)) (AA O underlying37 O sizeOf35 O) O (BZ 2 (qz x.a.p ps.length x.a.c) KA O (st' (v:=(vN ps.length)) (AD O underlying35) O (AL O (oNl' (zB (sL [3,4,5,6,11,12,13] O) (zA (zN ?_)))))))))
 refine yI (tg λ(i:Nat) (b:Int) (l:Rat)=>i<=ps.length/\(b,l)=nerF (Z_ ps q) i/\Sz l<=1000) (tg λ(i:Nat) (b:Int) (l:Rat)=>[(3,(pP b2 0)),(4,(vI 0)),(6,(pP b3 0)),(11,(qz x.a.p ps.length x.a.c)),(12,(vN ps.length)),(13,(vN i)),(5,(vI b))]) (tg λ(i:Nat) (b:Int) (l:Rat)=>[AQ b3 60 (AB l),AQ b2 62 (Ae q),AQ b1 37 (D4 x),AI x.a.p (rowsL Ae ps),AI x.b.p (rowsL BB ts),AI x.c.p (rowsL BB ss)]) (tg λ(i:Nat) (b:Int) (l:Rat)=>ps.length-i) 0 (-1) (0:Rat) (⟨xH _,rfl,by decide +kernel⟩) (sF O) sr (λi b l hJ=>?_)
 obtain ⟨hi,hI,hlz⟩:=hJ
 have hzi:BD (ps.getD i (⟨0,0⟩:Pt))<=4:=hz i
 refine q4 (st' (Ag (c:=(decide (i<ps.length))) O O (DL (a:=i) (b:=ps.length))) O (oNl' (q1 ?_)))
 refine zK O (λhc0=>?_) (λhc0=>?_)
 ·replace hc0:=xR hc0
  refine zI (q1 (zN (q4 (AL O (st' (v:=(pP (pB x.a.p) (pO x.a.p+i*10))) (AU (j:=i) O O x.a.ok underlying35 sizeOf62 O Z) O (st' (v:=(aG (Ae (ps.getD i (⟨0,0⟩:Pt))))) (Af (vs:=Ae (ps.getD i (⟨0,0⟩:Pt))) (i:=3) O O (BI.ne x.a.ok Z) A_ (BG C6 _ _ _ Z) (C6 _)) O (al E6 O λb4=>asg' O (Am O sizeOf62 O (q3 (sL [3,4,6,11,12,13,5,8,7] O) (Ah 2 A_ O ?_))))))))))
  refine Ah 0 A_ O ?_
  have hz1:=Bi (ps.getD i (⟨0,0⟩:Pt)) q
  have hz2:=GR ((ps.getD i (⟨0,0⟩:Pt))-q) ((ps.getD i (⟨0,0⟩:Pt))-q)
  refine ck' call57 (Qh q (ps.getD i (⟨0,0⟩:Pt)) Z) O (al CZ O λb5=>Am O sizeOf60 O (q3 (sL [3,4,6,11,12,13,5,8,7,9] O) (AL O (st' (Az (c:=(decide (b=(-1:Int)))) O O O) O (AL O ?_)))))
  refine zg (FM:=[(3,(pP b2 0)),(4,(vI 0)),(6,(pP b3 0)),(11,(qz x.a.p ps.length x.a.c)),(12,(vN ps.length)),(13,(vN i)),(5,(vI b)),(8,(pP b4 0)),(7,(vN i)),(9,(pP b5 0)),(21,(vI b)),(22,(qa (decide (b=(-1:Int))))),(23,(qa (decide (b=(-1:Int))))),(28,(qa ((decide (b=(-1:Int)))||(decide ((BK (Cq ((ps.getD i (⟨0,0⟩:Pt))-q) ((ps.getD i (⟨0,0⟩:Pt))-q)) l)<(0:Int))))))]) (LM:=[AQ b5 60 (AB (Cq ((ps.getD i (⟨0,0⟩:Pt))-q) ((ps.getD i (⟨0,0⟩:Pt))-q))),AQ b4 62 (Ae (ps.getD i (⟨0,0⟩:Pt))),AQ b3 60 (AB l),AQ b2 62 (Ae q),AQ b1 37 (D4 x),AI x.a.p (rowsL Ae ps),AI x.b.p (rowsL BB ts),AI x.c.p (rowsL BB ss)]) 5 ?_ ?_
  ·rcases xO (decide (b=(-1:Int))) with hg1|hg1
   ·refine zJ (k:=23) (u:=qa true) O (by rw [hg1]) ?_
    have hg1':=xR hg1
    exact BF O (BF O (BF O (BF O (st' (v:=(qa true)) (ex_pick_true O O) O (oNl' (zS CK (xP _)))))))
   ·refine zJ (k:=23) (u:=qa false) O (by rw [hg1]) ?_
    have hg1':=xQ hg1
    exact BN (v:=(aG (AB (Cq ((ps.getD i (⟨0,0⟩:Pt))-q) ((ps.getD i (⟨0,0⟩:Pt))-q))))) O (AW (i:=0) (vs:=AB (Cq ((ps.getD i (⟨0,0⟩:Pt))-q) ((ps.getD i (⟨0,0⟩:Pt))-q))) O O Ay.a Ay.s O O) (BN (v:=(aG (AB l))) O (AW (i:=2) (vs:=AB l) O O Ay.a Ay.s O O) (zc (v:=(vI (BK (Cq ((ps.getD i (⟨0,0⟩:Pt))-q) ((ps.getD i (⟨0,0⟩:Pt))-q)) l))) (AE O) (Ac (args:=[(aG (AB (Cq ((ps.getD i (⟨0,0⟩:Pt))-q) ((ps.getD i (⟨0,0⟩:Pt))-q)))),(aG (AB l))]) O O call43) (λw hw=>KM (Cq ((ps.getD i (⟨0,0⟩:Pt))-q) ((ps.getD i (⟨0,0⟩:Pt))-q)) l Z w) O (leB O) (BN (v:=(qa (decide ((BK (Cq ((ps.getD i (⟨0,0⟩:Pt))-q) ((ps.getD i (⟨0,0⟩:Pt))-q)) l)<(0:Int))))) O (Ag (c:=(decide ((BK (Cq ((ps.getD i (⟨0,0⟩:Pt))-q) ((ps.getD i (⟨0,0⟩:Pt))-q)) l)<(0:Int)))) O O O) (st' (v:=(qa (decide ((BK (Cq ((ps.getD i (⟨0,0⟩:Pt))-q) ((ps.getD i (⟨0,0⟩:Pt))-q)) l)<(0:Int))))) (AN O O) O (oNl' (zS CK (xP _)))))))
  refine oNl' (zB (sL [3,4,6,11,12,13,5,8,7,9,28] O) (zA ?_))
  refine yd (tg λ(u2:Int) (l2:Rat)=>(u2,l2)=nerF (Z_ ps q) (i+1)/\Sz l2<=1000) (tg λ(u2:Int) (l2:Rat)=>[(3,(pP b2 0)),(4,(vI 0)),(6,(pP b3 0)),(11,(qz x.a.p ps.length x.a.c)),(12,(vN ps.length)),(13,(vN i)),(5,(vI u2))]) (tg λ(u2:Int) (l2:Rat)=>[AQ b5 60 (AB (Cq ((ps.getD i (⟨0,0⟩:Pt))-q) ((ps.getD i (⟨0,0⟩:Pt))-q))),AQ b4 62 (Ae (ps.getD i (⟨0,0⟩:Pt))),AQ b3 60 (AB l2),AQ b2 62 (Ae q),AQ b1 37 (D4 x),AI x.a.p (rowsL Ae ps),AI x.b.p (rowsL BB ts),AI x.c.p (rowsL BB ss)]) ?_ ?_
  ·refine zK O (λhc1=>?_) (λhc1=>?_)
   ·simp only [jK] at hc1
    exact B8 [(0,true),(1,true),(2,true),(3,false)] (sk (sk (sl sr))) (Bq O (Bv 0 Ay O (pS' O (zD O (Ee O sizeOf60 O (zC (sk (sk (sl sr))) (zP (zB (sL [3,4,6,11,12,13,5,8,9] O) (zw ((i:Nat):Int) (Cq ((ps.getD i (⟨0,0⟩:Pt))-q) ((ps.getD i (⟨0,0⟩:Pt))-q)) (⟨Vm hI (by simpa [Z_,BJ] using hc1),Z⟩) (sF O) sr)))))))))
   ·simp only [jK] at hc1
    exact zI (zw b l (⟨Vl hI (by simpa [Z_,BJ] using hc1),hlz⟩) (sF O) sr)
  ·intro u2 l2 hJ
   obtain ⟨hI2,hlz2⟩:=hJ
   exact zM (zA (zL (st' (Ad (c:=((i+1:Nat):Int)) O O (Ab (a:=i) (b:=1) Z)) O (AL O (oNl' (zB (sL [3,4,6,11,12,13,5] O) (z6 (i+1) u2 l2 (⟨Z,hI2,hlz2⟩) Z (sF O) (sl (sl sr)))))))))
 ·replace hc0:=xQ hc0
  exact zW (zO (zi (zR (q2 (AL O (asg' O (oNl' (zB (sL [3,4,6,11,12,13,5] O) (zA (zF (ret_one O (rd_tmp (v:=(vI b)) O) (λw hw=>⟨by rw [show ps.length=i by omega,<-hI],hw.out⟩))))))))))))
end
end Go.Proofs.YtcpkbjjmcleplaaGreatDoor
