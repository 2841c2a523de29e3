import Derived.Test.YtcpkbjjmcleplaaGreatDoorPart27
import Derived.Test.YtcpkbjjmcleplaaGreatDoorPart41
namespace Go.Proofs.YtcpkbjjmcleplaaGreatDoor
open Go Go.RowKit Go.Proofs.Tryz
open Go.Value renaming slice→qz,bool→qa
set_option linter.unusedVariables false
set_option linter.unusedSimpArgs false
section
set_option maxRecDepth 100000
theorem Sb {ps:List Pt} {zt ss:List Z3} (x:MZ ps zt ss) (w:World) {S:Nat->Prop} (hx:Ro S w x):Calls prog 29 #[(aG (EU x))] w (Aj (CF 67 (EU x)) S w):=by
 have lx:=Bx (W:=w) hx
 refine AZ (args:=[(aG (EU x))]) (L:=[AI x.a.p (rowsL Ah ps),AI x.b.p (rowsL Bn zt),AI x.c.p (rowsL Bn ss)]) func29 O O (leB O) (GT hx Ao) (zI (sL [0] O) (q4 (BH (cs:=EU x) O λb1=>yj 0 O O λhnb1=>asg' O (q3 (sL [1,2] O) (st' (v:=(Value.func (.func 67) #[] #[(pP b1 0)])) (FP (vs:=[]) (us:=[(pP b1 0)]) O O) O (asg' O (oNl' (zB (sL [2] O) (zA ?_)))))))))
 exact zF (ret_one O (rd_tmp (v:=(Value.func (.func 67) #[] #[(pP b1 0)])) O) (λw hw=>(DU hw (a:=(⟨b1⟩:CF 67 (EU x))) (f9 (x:=(⟨b1⟩:BX (EU x))) hw 0 O hnb1) O)))
theorem Kp (x0 x1 x2:Pt):Instr.fill (λi=>some (i*10,10)) (Gr ((⟨0,0⟩,⟨0,0⟩,⟨0,0⟩):P3)).toArray [(0,.agg (Ah x0).toArray),(1,.agg (Ah x1).toArray),(2,.agg (Ah x2).toArray)]=some (Gr (x0,x1,x2)).toArray:=by kernel_rfl
theorem PW {ps:List Pt} {zt ss:List Z3} (x:MZ ps zt ss) (hl:zt.length<4611686018427387904) (bo:BX (EU x)) (l:Nat) (J:Nat->World->Prop) (X:World->Prop) (hL:Lp prog l (nZ ps.length zt) (λt=>[vN t,aG (Gr (B_ ps ((zt.map natT).getD t (0,0,0))))]) J X) {S:Nat->Prop} (hro:∀t W,J t W->Ro S W bo/\Ro S W x) (w:World) (h0:J 0 w):Calls prog 67 #[(Value.func (.yield l) #[] #[]),(pP bo.b 0)] w ((λe W2=>(∃v,e=.returned v)/\(J (nZ ps.length zt) W2\/X W2))):=by
 have hbo:=(hro 0 w h0).1
 have hx:=(hro 0 w h0).2
 have lbo:=Bx (W:=w) hbo
 have lx:=Bx (W:=w) hx
 refine AZ (args:=[(Value.func (.yield l) #[] #[]),(pP bo.b 0)]) (L:=[AI (some ⟨bo.b,0,none⟩) (EU x),AI x.a.p (rowsL Ah ps),AI x.b.p (rowsL Bn zt),AI x.c.p (rowsL Bn ss)]) func67 O O (leB O) (GT hbo (GT hx Ao)) (zI (sL [0,1] O) (zS (q4 (st' (v:=(aG (EU x))) (Ak (q:=some ⟨bo.b,0,none⟩) (vs:=EU x) (off:=0) (i:=0) O O (λe=>by cases e) GQ O O) O (CQ call68 (λw hw=>Vd x.rq hl w (gl (inS hw 1 O lx))) O (st' (Bs (c:=(!(EO ps.length zt))) O O) O (oNl' (zB (sL [0,1,9] O) (zA ?_)))))))))
 refine zK O (λhc0=>?_) (λhc0=>?_)
 ·simp only [jK] at hc0
  exact zF (zL (DC (.inl O) O  (λw hw=>⟨⟨_,rfl⟩,.inl (by rw [show nZ ps.length zt=0 from if_neg (by simp [hc0])];exact hL.grow _ _ _ h0 hw.out)⟩)))
 ·simp only [jK] at hc0
  refine zG (q2 (st' (v:=(pP bo.b 1)) (AA O underlying37 O sizeOf23 O) O (st' (Ad (q:=some ⟨bo.b,0,none⟩) (v:=(qz x.b.p zt.length x.b.c)) (off:=1) (i:=0) O O (λe=>by cases e) Ez O) O (st' (v:=(vN zt.length)) (AD O underlying23) O (AK O (oNl' (zB (sL [0,1,12,13] O) (zA (zM (zI (F':=[(13,(vI 0)),(12,(vN zt.length)),(0,(Value.func (.yield l) #[] #[])),(1,(pP bo.b 0))]) (sF O) ?_))))))))))
  refine y5 hL (λt=>[(13,(vN t)),(12,(vN zt.length)),(0,(Value.func (.yield l) #[] #[])),(1,(pP bo.b 0))]) [AI (some ⟨bo.b,0,none⟩) (EU x),AI x.a.p (rowsL Ah ps),AI x.b.p (rowsL Bn zt),AI x.c.p (rowsL Bn ss)] (λt W h=>A_.startR (GT (hro t W h).1 (GT (hro t W h).2 Ao))) (λt W ht hj=>?_) (λW hj=>?_) h0
  ·obtain ⟨hnb,hti,htl⟩:=Ww ht
   have lbo:=Bx (W:=W) (hro t W hj).1
   have lx:=Bx (W:=W) (hro t W hj).2
   refine zI (F':=[(13,(vN t)),(12,(vN zt.length)),(0,(Value.func (.yield l) #[] #[])),(1,(pP bo.b 0))]) (sF O) (q4 (st' (Aa (c:=true) O O (by simp;omega)) O (oNl' (q1 (zY O (zG (q1 (zM (q4 (AK O (asg' O ?_)))))))))))
   refine q3 (sL [13,12,0,1,3] O) (st' (v:=(aG (EU x))) (Ak (q:=some ⟨bo.b,0,none⟩) (vs:=EU x) (off:=0) (i:=0) O O (λe=>by cases e) GQ O O) O (AK O (CQ call69 (λw hw=>PR x t hti hnb w (inS hw 1 O lx)) O (AK O (st' (AJ (v:=(aG (Ah (BU ps ((zt.map natT).getD t (0,0,0)).1)))) O O) O (st' (AJ (v:=(aG (Ah (BU ps ((zt.map natT).getD t (0,0,0)).2.1)))) O O) O (st' (AJ (v:=(aG (Ah (BU ps ((zt.map natT).getD t (0,0,0)).2.2)))) O O) O (al Fg O λb1=>al Fg O λb2=>al Fg O λb3=>E7 O sizeOf62 O ?_))))))))
   refine DK O sizeOf62 O (An O sizeOf62 O (q6 (sL [13,12,0,1,3,4,5,6] O) ?_))
   refine y9 (BS.cut 6 (λ_ _ h=>by obtain ⟨⟨v,hv⟩,_⟩:=h;cases hv) O ?_)
   refine AK O (AK O (Af 2 BJ O (Af 1 BJ O (Af 0 BJ O (st' (v:=(aG (Gr (BU ps ((zt.map natT).getD t (0,0,0)).1,BU ps ((zt.map natT).getD t (0,0,0)).2.1,BU ps ((zt.map natT).getD t (0,0,0)).2.2)))) (Az (zs:=Gr ((⟨0,0⟩,⟨0,0⟩,⟨0,0⟩):P3)) (vs:=Gr (BU ps ((zt.map natT).getD t (0,0,0)).1,BU ps ((zt.map natT).getD t (0,0,0)).2.1,BU ps ((zt.map natT).getD t (0,0,0)).2.2)) (pv:=[(0,(aG (Ah (BU ps ((zt.map natT).getD t (0,0,0)).1)))),(1,(aG (Ah (BU ps ((zt.map natT).getD t (0,0,0)).2.1)))),(2,(aG (Ah (BU ps ((zt.map natT).getD t (0,0,0)).2.2))))]) zeroValue108 underlying108 sizeOf62 O (Kp (BU ps ((zt.map natT).getD t (0,0,0)).1) (BU ps ((zt.map natT).getD t (0,0,0)).2.1) (BU ps ((zt.map natT).getD t (0,0,0)).2.2))) O (oNl' ?_))))))
   refine yP (IK.yield t hL ht (λw hw=>hL.grow t _ _ hj hw.out) O O O (λW2 hj2=>?_) (λW2 hx=>?_))
   ·refine IK.ofL (λ_ _ h=>by obtain ⟨⟨v,hv⟩,_⟩:=h;cases hv) O (st' (Bs (c:=false) O O) O (oNl' (zB (sL [13,12,0,1,3,4,5,6,30] O) (zA (zU O (zG (zJ (zA (zH (st' (AX (c:=((t+1:Nat):Int)) O O (AU (a:=t) (b:=1) Z)) O (AK O ?_)))))))))))
    exact oNl' (zB (sL [13,12,0,1,3,4,5,6] O) (yP λa w ha hw=>⟨ha.sub (sF O),hL.grow (t+1) _ _ hj2 hw.out⟩))
   ·exact IK.ofL (λ_ _ h=>by obtain ⟨⟨v,hv⟩,_⟩:=h;cases hv) O (st' (Bs (c:=true) O O) O (oNl' (zB (sL [13,12,0,1,3,4,5,6,30] O) (zA (zY O (zF (zV (zL (zL (zV (DC (.inl O) O  (λw hw=>⟨⟨_,rfl⟩,.inr (hL.growX _ _ hx hw.out)⟩))))))))))))
  ·have hN:nZ ps.length zt=zt.length:=if_pos hc0
   exact zI (F':=[(13,(vN (nZ ps.length zt))),(12,(vN zt.length)),(0,(Value.func (.yield l) #[] #[])),(1,(pP bo.b 0))]) (sF O) (q4 (st' (Aa (c:=false) O O (by simp;omega)) O (oNl' (q1 (zU O (zW (zO (zO (zR (DC (.inr O) O  (λw hw=>⟨⟨_,rfl⟩,.inl (hL.grow _ _ _ hj hw.out)⟩)))))))))))
theorem VX {ps:List Pt} {zt ss:List Z3} (x:MZ ps zt ss) (hl:zt.length<4611686018427387904) (q:Pt) (hz:∀i,BO (BU ps i)<=4) (hq:BO q<=1000000) (w:World) {S:Nat->Prop} (hx:Ro S w x):Calls prog 15 #[(aG (EU x)),(aG (Ah q))] w (Ac w (Value.tuple #[(vI ((fdA ps zt q).1)),(vN ((fdA ps zt q).2))])):=by
 have lx:=Bx (W:=w) hx
 refine F0 (args:=[(aG (EU x)),(aG (Ah q))]) (L:=[AI x.a.p (rowsL Ah ps),AI x.b.p (rowsL Bn zt),AI x.c.p (rowsL Bn ss)]) func15 O O (leB O) (GT hx Ao) (BS.subF (sL [0,1] O) (BS.seq (BS.region (λ_ _ h=>by cases h.1) O (BH (cs:=EU x) O λb1=>BH (cs:=Ah q) O λb2=>al gE O λb3=>al gE O λb4=>oNl' (zB (sL [2,3,4,5] O) (zX (BS.seq ?_)))))))
 refine BS.seq (BS.region (λ_ _ h=>by cases h.1) O (Af 3 GQ O (zw (S:=S) (α:=CF 67 (EU x)) (args:=[(aG (EU x))]) call29 (λw hw=>Sb x w (inS hw 4 O lx)) O O O λfa lfa=>oNl' (zB (sL [3,4,5,10] O) (zX (BS.block (BS.subF (F':=[(10,(Value.func (.func 67) #[] #[(pP fa.b 0)])),(3,(pP b2 0)),(4,(pP b3 0)),(5,(pP b4 0))]) (sF O) ?_)))))))
 refine BS.rangeFunc (σ:=Unit) O call67 O O (nZ ps.length zt) (λt=>(vN t)) (λt=>(aG (Gr (B_ ps ((zt.map natT).getD t (0,0,0)))))) (λt s=>findAt ps q (zt.map natT) 0=findAt ps q ((zt.map natT).drop t) t) (λt s=>EO ps.length zt=true/\findAt ps q (zt.map natT) 0=((t:Int),BZ ps q ((zt.map natT).getD t (0,0,0)))) (λt s=>[AI (some ⟨fa.b,0,none⟩) (EU x),AO b4 3 ([(vI 0)]),AO b3 3 ([(vI 0)]),AO b2 62 (Ah q),AO b1 37 (EU x),AI x.a.p (rowsL Ah ps),AI x.b.p (rowsL Bn zt),AI x.c.p (rowsL Bn ss)]) (λt s=>[AI (some ⟨fa.b,0,none⟩) (EU x),AO b4 3 ([(vN (BZ ps q ((zt.map natT).getD t (0,0,0))))]),AO b3 3 ([(vN t)]),AO b2 62 (Ah q),AO b1 37 (EU x),AI x.a.p (rowsL Ah ps),AI x.b.p (rowsL Bn zt),AI x.c.p (rowsL Bn ss)]) () sr O (λl J X W hJ hL h0=>PW x hl fa.bx l J X hL (λt W h=>by obtain ⟨s,_,hw⟩:=hJ t W h;exact ⟨Ro.top (inS hw 0 O lfa:Ro _ _ fa),Ro.top (inS hw 5 O lx)⟩) W h0) (λl la1 la2 da t s ht hP K hK=>?_) (λla D s hP=>?_) (λla D t s hP=>?_)
 ·obtain ⟨hnb,hti,htl⟩:=Ww ht
  refine BS.subF (F':=[(12,(aG (Gr (B_ ps ((zt.map natT).getD t (0,0,0)))))),(11,(vN t)),(10,(Value.func (.func 67) #[] #[(pP fa.b 0)])),(3,(pP b2 0)),(4,(pP b3 0)),(5,(pP b4 0))]) (sF O) (BS.subL (L':=[la1,da,AI (some ⟨fa.b,0,none⟩) (EU x),AO b4 3 ([(vI 0)]),AO b3 3 ([(vI 0)]),AO b2 62 (Ah q),AO b1 37 (EU x),AI x.a.p (rowsL Ah ps),AI x.b.p (rowsL Bn zt),AI x.c.p (rowsL Bn ss)]) (xP _) (BS.seq (BS.region (λ_ _ h=>h) O (asg' O (oNl' (zX (BS.region (λ_ _ h=>h) O (al Qe O λb5=>An O sizeOf108 O (oNl' ?_)))))))))
  refine yP (hK 1 _ _ O ?_)
  refine BS.subL (L':=[AO b5 108 (Gr (B_ ps ((zt.map natT).getD t (0,0,0)))),la2,da,AI (some ⟨fa.b,0,none⟩) (EU x),AO b4 3 ([(vI 0)]),AO b3 3 ([(vI 0)]),AO b2 62 (Ah q),AO b1 37 (EU x),AI x.a.p (rowsL Ah ps),AI x.b.p (rowsL Bn zt),AI x.c.p (rowsL Bn ss)]) (xP _) (BS.block (BS.seq (BS.region (λ_ _ h=>h) O (st' (v:=(pP b5 0)) (AB (j:=0) O O underlying108 sizeOf62 O jY O) O (By 0 (Ah ((B_ ps ((zt.map natT).getD t (0,0,0))).1)) BJ O (st' (v:=(pP b5 10)) (AB (j:=1) O O underlying108 sizeOf62 O jY O) O (By 0 (Ah ((B_ ps ((zt.map natT).getD t (0,0,0))).2.1)) BJ O (st' (v:=(pP b5 20)) (AB (j:=2) O O underlying108 sizeOf62 O jY O) O (By 0 (Ah ((B_ ps ((zt.map natT).getD t (0,0,0))).2.2)) BJ O (Af 6 BJ O (ck' call30 (GV (BU ps ((zt.map natT).getD t (0,0,0)).1) (BU ps ((zt.map natT).getD t (0,0,0)).2.1) (BU ps ((zt.map natT).getD t (0,0,0)).2.2) q (by have z1:=hz ((zt.map natT).getD t (0,0,0)).1;have z2:=hz ((zt.map natT).getD t (0,0,0)).2.1;have z3:=hz ((zt.map natT).getD t (0,0,0)).2.2;omega)) O ?_)))))))))))
  refine asg' O (oNl' (zX (BS.seq (BS.region (λ_ _ h=>h) O (AK O (st' (DH (c:=(decide ((BZ ps q ((zt.map natT).getD t (0,0,0)))≠0))) O O (eo (a:=BZ ps q ((zt.map natT).getD t (0,0,0))) (b:=0))) O (oNl' (zX ?_))))))))
  refine BS.cond O (λhc0=>?_) (λhc0=>?_)
  ·replace hc0:=xR hc0
   exact BS.seq (BS.region (λ_ _ h=>h) O (AK O (AK O (Dt 5 (off:=0) (vs:=[(vN t)]) (cs':=[(vN t)]) (AG O) O sizeOf3 O (Dt 4 (off:=0) (vs:=[(vN (BZ ps q ((zt.map natT).getD t (0,0,0))))]) (cs':=[(vN (BZ ps q ((zt.map natT).getD t (0,0,0))))]) (AG O) O sizeOf3 O (oNl' (zX (BS.ret (zV (xA () ⟨hnb,hP.trans (Ig hti (by simpa using hc0))⟩ (sl sr)))))))))))
  ·replace hc0:=xQ hc0
   exact BS.skip (zJ (yR () (hP.trans (Hm hti (by simpa using hc0))) (sl sr)))
 ·refine E5.behind ?_
  have hr:=ZL hP
  exact E5.subF (F':=[(10,(Value.func (.func 67) #[] #[(pP fa.b 0)])),(3,(pP b2 0)),(4,(pP b3 0)),(5,(pP b4 0))]) (sF O) (E5.seq (E5.region (λ_ _ h=>by cases h.1) O (Dt 4 (off:=0) (vs:=[(vI (-1:Int))]) (cs':=[(vI (-1:Int))]) (AG O) O sizeOf3 O (F8 O sizeOf3 O (oNl' (yQ (E5.ret (R0 1 O (Bl O (Hu (i:=4) (v:=(vI (-1:Int))) O O isAgg3 O) (Hu (i:=3) (v:=(vI 0)) O O isAgg3 O) (λw hw=>⟨by rw [hr]<;>rfl,hw.out⟩))))))))))
 ·refine E5.out ?_
  have hr:=ZM hP.1 hP.2
  exact R0 1 O (Bl O (Hu (i:=4) (v:=(vN t)) O O isAgg3 O) (Hu (i:=3) (v:=(vN (BZ ps q ((zt.map natT).getD t (0,0,0))))) O O isAgg3 O) (λw hw=>⟨by rw [hr]<;>rfl,hw.out⟩))
end
section
set_option maxRecDepth 100000
theorem Xs (c0 c1 c2 a b:Pt) (s0:BO c0<=6) (s1:BO c1<=6) (s2:BO c2<=6) (sa:BO a<=6) (sb:BO b<=6) (hT:AF c0 c1 c2=0) (w:World)  :Calls prog 35 #[(aG (Gr (c0,c1,c2))),(aG (Ah a)),(aG (Ah b))] w (Ac w (Value.tuple #[(aG (AC (0:Rat))),(aG (AC (1:Rat))),(qa false)])):=by
 refine AV (args:=[(aG (Gr (c0,c1,c2))),(aG (Ah a)),(aG (Ah b))]) func35 O O (leB O) (zI (sL [0,1,2] O) (q4 (BH (cs:=Gr (c0,c1,c2)) O λb1=>BH (cs:=Ah a) O λb2=>BH (cs:=Ah b) O λb3=>al Cq O λb4=>al Cq O λb5=>asg' O (q3 (sL [3,4,5,6,7,8] O) (st' (v:=(pP b1 0)) (AB (j:=0) O O underlying108 sizeOf62 O jY O) O (By 4 (Ah c0) BJ O ?_))))))
 refine st' (v:=(pP b1 10)) (AB (j:=1) O O underlying108 sizeOf62 O jY O) O (By 4 (Ah c1) BJ O (st' (v:=(pP b1 20)) (AB (j:=2) O O underlying108 sizeOf62 O jY O) O (By 4 (Ah c2) BJ O (Af 3 BJ O (ck' call70 (LG c0 c1 c2 a Z hT) O (AK O (st' (AJ (v:=(aG (AC (0:Rat)++AC (0:Rat)++AC (0:Rat)))) O O) O (st' (AJ (v:=(vI 1)) O O) O (al IU O λb6=>An O sizeOf153 O (asg' O ?_))))))))))
 refine q3 (sL [3,5,6,7,8,9,10] O) (st' (v:=(pP b1 0)) (AB (j:=0) O O underlying108 sizeOf62 O jY O) O (By 5 (Ah c0) BJ O (st' (v:=(pP b1 10)) (AB (j:=1) O O underlying108 sizeOf62 O jY O) O (By 5 (Ah c1) BJ O (st' (v:=(pP b1 20)) (AB (j:=2) O O underlying108 sizeOf62 O jY O) O (By 5 (Ah c2) BJ O (Af 3 BJ O (ck' call70 (LG c0 c1 c2 b Z hT) O (AK O (st' (AJ (v:=(aG (AC (0:Rat)++AC (0:Rat)++AC (0:Rat)))) O O) O (st' (AJ (v:=(vI 1)) O O) O ?_)))))))))))
 refine al IU O λb7=>An O sizeOf153 O (asg' O (q3 (sL [3,6,7,8,9,10,11] O) (CQ (args:=[(vI 0)]) (v:=(aG (AC (0:Rat)))) call17 (λw hw=>(by have h9:=FK (0:Int) Z Z w;rw [show ((0:Int):Rat)=(0:Rat) by decide +kernel] at h9;exact h9)) O (CQ (args:=[(vI 1)]) (v:=(aG (AC (1:Rat)))) call17 (λw hw=>(by have h9:=FK (1:Int) Z Z w;rw [show ((1:Int):Rat)=(1:Rat) by decide +kernel] at h9;exact h9)) O (F8 O sizeOf60 O (E7 O sizeOf60 O (q6 (sL [3,6,7,8,9,10,11] O) (q4 (AK O (st' (DH (c:=true) O O jY) O ?_))))))))))
 refine oNl' (zB (sL [3,6,7,8,9,11,42] O) (zA (zY O (zS (B9 [(0,true),(1,true),(2,false),(3,false),(4,true)] sr (B3 3 A9 O (B3 2 A9 O (zD O (F8 O sizeOf60 O (zC sr (zD O ?_)))))))))))
 exact E7 O sizeOf60 O (zC sr (pS' O (zP (zB (sL [3,6,7,8,9,11] O) (zA (zF (zL (DV O (Ab (i:=3) (cs:=AC (0:Rat)) O O isAgg60 sizeOf60 O) (Ab (i:=2) (cs:=AC (1:Rat)) O O isAgg60 sizeOf60 O) (rd_tmp (v:=(qa false)) O) (λw hw=>⟨rfl,hw.out⟩)))))))))
theorem Xt (c0 c1 c2 a b:Pt) (s0:BO c0<=6) (s1:BO c1<=6) (s2:BO c2<=6) (sa:BO a<=6) (sb:BO b<=6) (w:World):Calls prog 35 #[aG (Gr (c0,c1,c2)),aG (Ah a),aG (Ah b)] w (Ac w (.tuple #[aG (AC (F7 (c0,c1,c2) a b).1),aG (AC (F7 (c0,c1,c2) a b).2.1),.bool (F7 (c0,c1,c2) a b).2.2])):=by
 by_cases h:AF c0 c1 c2=0
 ·rw [aj h];exact Xs c0 c1 c2 a b s0 s1 s2 sa sb h w
 ·rw [ak h];exact Mc c0 c1 c2 a b s0 s1 s2 sa sb h w
theorem FC (x0:Nat) (x1:Rat) (x2:Rat):Instr.fill ([(0,1),(1,5),(6,5)].toArray[·]?) ([(vI 0)]++AC (0:Rat)++AC (0:Rat)).toArray [(0,vN x0),(1,.agg (AC x1).toArray),(2,.agg (AC x2).toArray)]=some ([(vN x0)]++AC x1++AC x2).toArray:=by kernel_rfl
theorem Mr (x0:Pc):Instr.fill (λi=>some (i*11,11)) ((Array.range (1*11)).map ((Value.agg ([(vI 0)]++AC (0:Rat)++AC (0:Rat)).toArray).cells[·%(Value.agg ([(vI 0)]++AC (0:Rat)++AC (0:Rat)).toArray).cells.size]!)) [(0,.agg (Ca x0).toArray)]=some (Ca x0).toArray:=by kernel_rfl
set_option maxHeartbeats 2000000 in
theorem Yh {ps:List Pt} {zt ss:List Z3} (x:MZ ps zt ss) (hl:zt.length<=1000) (a b:Pt) (hz:∀i,BO (BU ps i)<=4) (sa:BO a<=6) (sb:BO b<=6) (hab:¬a=b)  (w:World) {S:Nat->Prop} (hx:Ro S w x):Calls prog 18 #[(aG (EU x)),(aG (Ah a)),(aG (Ah b))] w (Aj (CX (rowsL Ca (XY ps (zt.map natT) a b (nZ ps.length zt))) (XY ps (zt.map natT) a b (nZ ps.length zt)).length) S w):=by
 have lx:=Bx (W:=w) hx
 refine F0 (args:=[(aG (EU x)),(aG (Ah a)),(aG (Ah b))]) (L:=[AI x.a.p (rowsL Ah ps),AI x.b.p (rowsL Bn zt),AI x.c.p (rowsL Bn ss)]) func18 O O (leB O) (GT hx Ao) (BS.subF (sL [0,1,2] O) (BS.seq (BS.region (λ_ _ h=>by obtain ⟨_,h,_⟩:=h;cases h) O (BH (cs:=EU x) O λb1=>BH (cs:=Ah a) O λb2=>BH (cs:=Ah b) O λb3=>asg' O (oNl' (zB (sL [3,4,5,6] O) (zX (BS.seq ?_))))))))
 refine BS.region (λ_ _ h=>by obtain ⟨_,h,_⟩:=h;cases h) O (al ay O λb4=>zm 75 11 (oNl' (zX (BS.seq (BS.seq (BS.region (λ_ _ h=>by obtain ⟨_,h,_⟩:=h;cases h) O (Af 3 BJ O (Af 2 BJ O (st' (CB (c:=decide (a=b)) O O eqGuardType62 (OS 9994 a b)) O (oNl' ?_))))))))))
 refine zB (sL [3,4,5,6,7,18] O) (zX ?_)
 refine BS.cond O (λhc0=>?_) (λhc0=>?_)
 ·replace hc0:=xR hc0
  exact absurd hc0 hab
 ·replace hc0:=xQ hc0
  refine BS.skip (zX (BS.seq (BS.region (λ_ _ h=>by obtain ⟨_,h,_⟩:=h;cases h) O (ck' call14 (Jp (1:Int) (2:Int) Z Z Z Z Z) O (AK O (st' (AJ (v:=(aG (AC (((1:Int):Rat)/((2:Int):Rat))))) O O) O (st' (AJ (v:=(vI 0)) O O) O (al Cq O λb5=>An O sizeOf60 O (asg' O (oNl' ?_))))))))))
  refine zB (sL [3,4,5,6,7,8] O) (zX (BS.seq (BS.seq (BS.region (λ_ _ h=>by obtain ⟨_,h,_⟩:=h;cases h) O (Af 5 GQ O (zw (S:=S) (α:=CF 67 (EU x)) (args:=[(aG (EU x))]) call29 (λw hw=>Sb x w (inS hw 6 O lx)) O O O λfa lfa=>oNl' (zB (sL [4,5,6,7,8,24] O) (zX (BS.block (BS.subF (F':=[(24,(Value.func (.func 67) #[] #[(pP fa.b 0)])),(4,(pP b2 0)),(5,(pP b3 0)),(6,jj),(7,(pP b4 0)),(8,(pP b5 0))]) (sF O) ?_))))))))))
  refine BS.rangeFunc (σ:=Option Addr×Nat) O call67 O O ((nZ ps.length zt)) (λt=>(vN t)) (λt=>(aG (Gr (B_ ps ((zt.map natT).getD t (0,0,0)))))) (λt s=>Iy (Bc ps (zt.map natT) a b t) s) (λt s=>False) (λt s=>[AI (some ⟨fa.b,0,none⟩) (EU x),AO b5 60 (AC (((1:Int):Rat)/((2:Int):Rat))),rowW s.1 75 11 ((Bc ps (zt.map natT) a b t).length) s.2 (rowsL Ca (Bc ps (zt.map natT) a b t)),AO b4 72 ([(qz s.1 ((Bc ps (zt.map natT) a b t).length) s.2)]),AO b3 62 (Ah b),AO b2 62 (Ah a),AO b1 37 (EU x),AI x.a.p (rowsL Ah ps),AI x.b.p (rowsL Bn zt),AI x.c.p (rowsL Bn ss)]) (λt s=>[]) (none,0) sr ⟨OwnOk.none,λ_=>rfl⟩ (λl J X W hJ hL h0=>PW x Z fa.bx l J X hL (λt W h=>by obtain ⟨s,_,hw⟩:=hJ t W h;exact ⟨Ro.top (inS hw 0 O lfa:Ro _ _ fa),Ro.top (inS hw 7 O lx)⟩) W h0) (λl la1 la2 da t s ht hP K hK=>?_) (λla D s hP=>?_) (λla D t s hP=>?_)
  ·obtain ⟨hnb,hti,htl⟩:=Ww ht
   have hrl:=Gf (ps:=ps) (ts:=zt.map natT) (a:=a) (b:=b) t
   obtain ⟨sv,hsv⟩:∃s,s=F7 (B_ ps ((zt.map natT).getD t (0,0,0))) a b:=⟨_,rfl⟩
   have hsz:Sz sv.1<=400/\Sz sv.2.1<=400:=by rw [hsv];exact Xu (c:=B_ ps ((zt.map natT).getD t (0,0,0))) (xK (hz _) jY) (xK (hz _) jY) (xK (hz _) jY) sa sb
   have hhf:Sz (((1:Int):Rat)/((2:Int):Rat))<=2:=by decide +kernel
   obtain ⟨z1,z2⟩:=hsz
   refine BS.subF (F':=[(26,(aG (Gr (B_ ps ((zt.map natT).getD t (0,0,0)))))),(25,(vN t)),(24,(Value.func (.func 67) #[] #[(pP fa.b 0)])),(4,(pP b2 0)),(5,(pP b3 0)),(6,jj),(7,(pP b4 0)),(8,(pP b5 0))]) (sF O) (BS.subL (L':=[la1,da,AI (some ⟨fa.b,0,none⟩) (EU x),AO b5 60 (AC (((1:Int):Rat)/((2:Int):Rat))),rowW s.1 75 11 ((Bc ps (zt.map natT) a b t).length) s.2 (rowsL Ca (Bc ps (zt.map natT) a b t)),AO b4 72 ([(qz s.1 ((Bc ps (zt.map natT) a b t).length) s.2)]),AO b3 62 (Ah b),AO b2 62 (Ah a),AO b1 37 (EU x),AI x.a.p (rowsL Ah ps),AI x.b.p (rowsL Bn zt),AI x.c.p (rowsL Bn ss)]) (xP _) (BS.seq (BS.region (λ_ _ h=>h) O (asg' O (oNl' (zX (BS.region (λ_ _ h=>h) O (al Qe O λb6=>An O sizeOf108 O (oNl' ?_)))))))))
   refine yP (hK 1 _ _ O ?_)
   refine BS.subL (L':=[AO b6 108 (Gr (B_ ps ((zt.map natT).getD t (0,0,0)))),la2,da,AI (some ⟨fa.b,0,none⟩) (EU x),AO b5 60 (AC (((1:Int):Rat)/((2:Int):Rat))),rowW s.1 75 11 ((Bc ps (zt.map natT) a b t).length) s.2 (rowsL Ca (Bc ps (zt.map natT) a b t)),AO b4 72 ([(qz s.1 ((Bc ps (zt.map natT) a b t).length) s.2)]),AO b3 62 (Ah b),AO b2 62 (Ah a),AO b1 37 (EU x),AI x.a.p (rowsL Ah ps),AI x.b.p (rowsL Bn zt),AI x.c.p (rowsL Bn ss)]) (xP _) (BS.block (BS.seq (BS.region (λ_ _ h=>h) O (Af 0 X3 O (Af 8 BJ O (Af 7 BJ O (CQ (args:=[(aG (Gr (B_ ps ((zt.map natT).getD t (0,0,0))))),(aG (Ah a)),(aG (Ah b))]) (v:=(Value.tuple #[(aG (AC sv.1)),(aG (AC sv.2.1)),(qa sv.2.2)])) call35 (λw hw=>(by rw [hsv];exact (Xt (BU ps ((zt.map natT).getD t (0,0,0)).1) (BU ps ((zt.map natT).getD t (0,0,0)).2.1) (BU ps ((zt.map natT).getD t (0,0,0)).2.2) a b (by have:=hz ((zt.map natT).getD t (0,0,0)).1;omega) (by have:=hz ((zt.map natT).getD t (0,0,0)).2.1;omega) (by have:=hz ((zt.map natT).getD t (0,0,0)).2.2;omega) sa sb w))) O (AK O (st' (AJ (v:=(aG (AC sv.1))) O O) O (st' (AJ (v:=(aG (AC sv.2.1))) O O) O (st' (AJ (v:=(qa sv.2.2)) O O) O ?_)))))))))))
   refine al Cq O λb7=>al Cq O λb8=>DK O sizeOf60 O (An O sizeOf60 O (asg' O (oNl' (zX (BS.seq (BS.seq (BS.region (λ_ _ h=>h) O (AK O (st' (Bs (c:=(!sv.2.2)) O O) O ?_)))))))))
   refine oNl' (zX ?_)
   refine BS.cond O (λhc1=>?_) (λhc1=>?_)
   ·simp only [jK] at hc1
    replace hc1:sv.2.2=false:=by simpa using hc1
    have e:=Us hsv hc1
    refine BS.exit (zO (zR ?_))
    rw [<-e]
    exact yR s (by show Iy (Bc ps (zt.map natT) a b (t+1)) s;rw [e];exact hP) (sl (sl (sl sr)))
   ·simp only [jK] at hc1
    replace hc1:sv.2.2=true:=by simpa using hc1
    refine BS.skip (zX (BS.seq (iN [(0,true),(1,true),(2,true),(4,true),(5,true),(6,true),(3,false),(7,false),(8,false),(9,false),(10,false)] [⟨11,15,62,Ah (⟨0,0⟩:Pt)⟩] [(12,false)] sr jV (λ_ _ d _ _ h=>by cases d<;>exact h) (GD O O Fg O (GP)) O (λ_ _ h=>h) O (En 10 BJ O (En 9 BJ O (En 10 BJ O (En 6 A9 O (En 1 A9 O (En 0 A9 O (zf O λEF EL=>?_))))))))))
    have hz1:=Bo b a
    refine ck' call38 (IE b a Z) O (ze sr O (zf O λEF EL=>?_))
    have hz2:=Ds sv.1 sv.2.1
    refine ck' call31 (G5 sv.1 sv.2.1 (by (try simp only [BN]);omega)) O (ze sr O (zf O λEF EL=>?_))
    have hz3:=Cm (((1:Int):Rat)/((2:Int):Rat)) (sv.1+sv.2.1)
    refine ck' call39 (Fl (((1:Int):Rat)/((2:Int):Rat)) (sv.1+sv.2.1) (by (try simp only [BN]);omega)) O (ze sr O (zf O λEF EL=>?_))
    have hz4:=E8 (b-a) ((((1:Int):Rat)/((2:Int):Rat))*(sv.1+sv.2.1))
    refine ck' call37 (J0 (b-a) ((((1:Int):Rat)/((2:Int):Rat))*(sv.1+sv.2.1)) Z) O (ze sr O (zf O λEF EL=>?_))
    have hz5:=Gu a (Bm (b-a) ((((1:Int):Rat)/((2:Int):Rat))*(sv.1+sv.2.1)))
    refine ck' call36 (On a (Bm (b-a) ((((1:Int):Rat)/((2:Int):Rat))*(sv.1+sv.2.1))) Z) O (ze sr O (zx λb9=>zD O (An O sizeOf62 O (zC (sl sr) (zP (zX (BS.seq (BS.region (λ_ _ h=>h) O (st' (v:=(pP b6 0)) (AB (j:=0) O O underlying108 sizeOf62 O jY O) O (By 3 (Ah ((B_ ps ((zt.map natT).getD t (0,0,0))).1)) BJ O ?_))))))))))
    refine st' (v:=(pP b6 10)) (AB (j:=1) O O underlying108 sizeOf62 O jY O) O (By 3 (Ah ((B_ ps ((zt.map natT).getD t (0,0,0))).2.1)) BJ O (st' (v:=(pP b6 20)) (AB (j:=2) O O underlying108 sizeOf62 O jY O) O (By 3 (Ah ((B_ ps ((zt.map natT).getD t (0,0,0))).2.2)) BJ O (Af 0 BJ O (ck' call30 (GV (BU ps ((zt.map natT).getD t (0,0,0)).1) (BU ps ((zt.map natT).getD t (0,0,0)).2.1) (BU ps ((zt.map natT).getD t (0,0,0)).2.2) (Gc a b sv.1 sv.2.1) (by have z1:=hz ((zt.map natT).getD t (0,0,0)).1;have z2:=hz ((zt.map natT).getD t (0,0,0)).2.1;have z3:=hz ((zt.map natT).getD t (0,0,0)).2.2;unfold Gc;omega)) O (st' (Au (c:=(decide ((BZ ps (Gc a b sv.1 sv.2.1) ((zt.map natT).getD t (0,0,0)))=1))) O O (K0 (a:=BZ ps (Gc a b sv.1 sv.2.1) ((zt.map natT).getD t (0,0,0))) (b:=1))) O (oNl' (zX ?_))))))))
    refine BS.cond O (λhc2=>?_) (λhc2=>?_)
    ·replace hc2:=xR hc2
     have e:=XW hsv hc1 hc2
     refine BS.region (λ_ _ h=>h) O (BL 9 (qz s.1 ((Bc ps (zt.map natT) a b t).length) s.2) O4 O (AK O (Af 2 A9 O (Af 1 A9 O (st' (v:=(aG ([(vN t)]++AC sv.1++AC sv.2.1))) (AS (zs:=[(vI 0)]++AC (0:Rat)++AC (0:Rat)) (vs:=[(vN t)]++AC sv.1++AC sv.2.1) (pv:=[(0,(vN t)),(1,(aG (AC sv.1))),(2,(aG (AC sv.2.1)))]) (places:=[(0,1),(1,5),(6,5)]) zeroValue75 underlying75 (λw=>by simp [sizeOf3,sizeOf60]) O (FC t sv.1 sv.2.1)) O (zZ (V:=λb10=>(qz (jk b10) 1 1)) (T:=75) (cs:=Ca (⟨t,sv.1,sv.2.1⟩:Pc)) (AG O) (Ai (z:=.agg ([(vI 0)]++AC (0:Rat)++AC (0:Rat)).toArray) (cs:=Ca (⟨t,sv.1,sv.2.1⟩:Pc)) (pv:=[(0,(aG ([(vN t)]++AC sv.1++AC sv.2.1)))]) underlying72 sizeOf75 zeroValue75 jY jY O (Mr (⟨t,sv.1,sv.2.1⟩:Pc))) O (leB O) λb10=>zj 9 (j:=0) (cs2:=rowsL Ca ((Bc ps (zt.map natT) a b t)++[(⟨t,sv.1,sv.2.1⟩:Pc)])) dW O hP.1 (AT DM _) O O O O O jY (GC Z) Z (by rw [Aw];rfl) O λp_1 c_1 ho_1 hne_1=>Dt 10 (off:=0) (vs:=[(qz p_1 (((Bc ps (zt.map natT) a b t).length)+1) c_1)]) (cs':=[(qz p_1 (((Bc ps (zt.map natT) a b t).length)+1) c_1)]) (AG O) O sizeOf72 O (oNl' (zJ ?_))))))))
     rw [show (Bc ps (zt.map natT) a b t).length+1=(Bc ps (zt.map natT) a b t++[(⟨t,sv.1,sv.2.1⟩:Pc)]).length by simp,<-e]
     exact yR (p_1,c_1) (Iy.more e ho_1) (sl (sl (sl (sl (sl sr)))))
    ·replace hc2:=xQ hc2
     have e:=Ur hsv hc1 hc2
     refine BS.skip (zJ ?_)
     rw [<-e]
     exact yR s (by show Iy (Bc ps (zt.map natT) a b (t+1)) s;rw [e];exact hP) (sl (sl (sl (sl sr))))
  ·refine E5.behind ?_
   have hnl:=Wv ps.length zt
   have hrl:=Gf (ps:=ps) (ts:=zt.map natT) (a:=a) (b:=b) (nZ ps.length zt)
   have hpb:=MS (ts:=zt.map natT) hz sa sb (nZ ps.length zt) (by rw [xI];exact hnl)
   refine E5.subF (F':=[(24,(Value.func (.func 67) #[] #[(pP fa.b 0)])),(4,(pP b2 0)),(5,(pP b3 0)),(6,jj),(7,(pP b4 0)),(8,(pP b5 0))]) (sF O) (E5.seq (E5.region (λ_ _ h=>by obtain ⟨_,h,_⟩:=h;cases h) O (BL 5 (qz s.1 ((Bc ps (zt.map natT) a b (nZ ps.length zt)).length) s.2) O4 O (y6 4 (cs':=rowsL Ca (Kk (Bc ps (zt.map natT) a b (nZ ps.length zt)))) (v:=(Value.tuple #[])) (AG O) (Ag (args:=[(qz s.1 ((Bc ps (zt.map natT) a b (nZ ps.length zt)).length) s.2),(Value.func (.func 41) #[] #[])]) O O call40) O (λw hw=>Xr _ _ _ _ 75 hP.1 O Z hpb (QQ _) w (hw.holds (i:=4) O)) (λd hd=>by cases hd<;>exact (leB O)) (oNl' (zB (sL [24,4,5,6,7,8] O) (yQ (E5.seq (E5.region (λ_ _ h=>by obtain ⟨_,h,_⟩:=h;cases h) O (BL 5 (qz s.1 ((Bc ps (zt.map natT) a b (nZ ps.length zt)).length) s.2) O4 O (ck' call45 (OJ s.1 _ s.2 hP.1.le) O ?_)))))))))))
   exact asg' O (oNl' (zB (sL [24,4,5,6,7,8] O) (yQ (E5.ret (R0 1 O (ret_one O (rd_tmp (v:=(qz s.1 ((Bc ps (zt.map natT) a b (nZ ps.length zt)).length) ((Bc ps (zt.map natT) a b (nZ ps.length zt)).length))) O) (λw hw=>(by rw [show (XY ps (zt.map natT) a b (nZ ps.length zt)).length=(Bc ps (zt.map natT) a b (nZ ps.length zt)).length from Me _];exact fC hw 4 O hP.1 (by rw [AT DM,Me]) O))))))))
  ·exact hP.elim
theorem Vf {ps:List Pt} {zt ss:List Z3} (x:MZ ps zt ss) (a:Pt) (w:World) {S:Nat->Prop} (hx:Ro S w x):Calls prog 18 #[(aG (EU x)),(aG (Ah a)),(aG (Ah a))] w (Ac w jj):=by
 have lx:=Bx (W:=w) hx
 refine AZ (args:=[(aG (EU x)),(aG (Ah a)),(aG (Ah a))]) (L:=[AI x.a.p (rowsL Ah ps),AI x.b.p (rowsL Bn zt),AI x.c.p (rowsL Bn ss)]) func18 O O (leB O) (GT hx Ao) (zI (sL [0,1,2] O) (q4 (BH (cs:=EU x) O λb1=>BH (cs:=Ah a) O λb2=>BH (cs:=Ah a) O λb3=>asg' O (q3 (sL [3,4,5,6] O) (al ay O λb4=>oNl' (q1 (q4 ?_)))))))
 refine Af 2 BJ O (Af 1 BJ O (st' (CB (c:=decide (a=a)) O O eqGuardType62 (OS 9994 a a)) O (oNl' (zB (sL [3,4,5,6,7,18] O) (zA ?_)))))
 refine zK O (λhc0=>?_) (λhc0=>?_)
 ·replace hc0:=xR hc0
  exact q4 (asg' O (oNl' (zA (zF (zL (ret_one O (rd_tmp (v:=jj) O) (λw hw=>⟨rfl,hw.out⟩)))))))
 ·replace hc0:=xQ hc0
  exact absurd O hc0
theorem Yg {ps:List Pt} {zt ss:List Z3} (x:MZ ps zt ss) (hl:zt.length<=1000) (a b:Pt) (hz:∀i,BO (BU ps i)<=4) (sa:BO a<=6) (sb:BO b<=6) (w:World) {S:Nat->Prop} (hx:Ro S w x):Calls prog 18 #[(aG (EU x)),aG (Ah a),aG (Ah b)] w (Aj (CX (rowsL Ca (J5 ps zt a b)) (J5 ps zt a b).length) S w):=by
 unfold J5
 by_cases h:a=b
 ·subst h
  rw [if_pos rfl]
  refine (Vf x a w hx).mono ?_
  rintro e w1 ⟨rfl,hb⟩
  exact ⟨⟨none,OwnOk.none.row⟩,rfl,hb,λy hy=>by rcases xM.1 hy with rfl;exact ⟨(λb e=>by cases e),(λb e=>by cases e)⟩⟩
 ·rw [if_neg h]
  exact Yh x hl a b hz sa sb h w hx
end
section
set_option maxRecDepth 100000
set_option maxHeartbeats 2000000 in
theorem Va {ps:List Pt} {ts ss:List Z3} (x:MZ ps ts ss) (q:Pt) (hl:ps.length<=1000000000) (hz:∀i,BO (BU ps i)<=4) (hzq:BO q<=6) (w:World) {S:Nat->Prop} (hx:Ro S w x):Calls prog 24 #[(aG (EU x)),(aG (Ah q))] w (Ac w (vI ((nerF (cG ps q) ps.length).1))):=by
 have lx:=Bx (W:=w) hx
 refine AZ (args:=[(aG (EU x)),(aG (Ah q))]) (L:=[AI x.a.p (rowsL Ah ps),AI x.b.p (rowsL Bn ts),AI x.c.p (rowsL Bn ss)]) func24 O O (leB O) (GT hx Ao) (zI (sL [0,1] O) (q4 (BH (cs:=EU x) O λb1=>BH (cs:=Ah q) O λb2=>asg' O (q3 (sL [2,3,4] O) (asg' O (oNl' (q2 (al Cq O λb3=>oNl' ?_))))))))
 refine q1 (q4 (st' (v:=(pP b1 0)) (AA O underlying37 O sizeOf35 O) O (BL 2 (qz x.a.p ps.length x.a.c) Kl O (st' (v:=(vN ps.length)) (AD O underlying35) O (AK O (oNl' (zB (sL [3,4,5,6,11,12,13] O) (zA (zM ?_)))))))))
 refine yM (tg λ(i:Nat) (b:Int) (l:Rat)=>i<=ps.length/\(b,l)=nerF (cG ps q) i/\Sz l<=1000) (tg λ(i:Nat) (b:Int) (l:Rat)=>[(3,(pP b2 0)),(4,(vI 0)),(6,(pP b3 0)),(11,(qz x.a.p ps.length x.a.c)),(12,(vN ps.length)),(13,(vN i)),(5,(vI b))]) (tg λ(i:Nat) (b:Int) (l:Rat)=>[AO b3 60 (AC l),AO b2 62 (Ah q),AO b1 37 (EU x),AI x.a.p (rowsL Ah ps),AI x.b.p (rowsL Bn ts),AI x.c.p (rowsL Bn ss)]) (tg λ(i:Nat) (b:Int) (l:Rat)=>ps.length-i) 0 (-1) (0:Rat) (⟨xH _,rfl,by decide +kernel⟩) (sF O) sr (λi b l hJ=>?_)
 obtain ⟨hi,hI,hlz⟩:=hJ
 have hzi:BO (ps.getD i (⟨0,0⟩:Pt))<=4:=hz i
 refine q4 (st' (Aa (c:=(decide (i<ps.length))) O O (DE (a:=i) (b:=ps.length))) O (oNl' (q1 ?_)))
 refine zK O (λhc0=>?_) (λhc0=>?_)
 ·replace hc0:=xR hc0
  refine zG (q1 (zM (q4 (AK O (st' (v:=(pP (pB x.a.p) (pO x.a.p+i*10))) (AQ (j:=i) O O x.a.ok underlying35 sizeOf62 O Z) O (st' (v:=(aG (Ah (ps.getD i (⟨0,0⟩:Pt))))) (Ak (vs:=Ah (ps.getD i (⟨0,0⟩:Pt))) (i:=3) O O (BG.ne x.a.ok Z) BJ (BE DN _ _ _ Z) (DN _)) O (al Fg O λb4=>asg' O (An O sizeOf62 O (q3 (sL [3,4,6,11,12,13,5,8,7] O) (Af 2 BJ O ?_))))))))))
  refine Af 0 BJ O ?_
  have hz1:=Bo (ps.getD i (⟨0,0⟩:Pt)) q
  have hz2:=Gw ((ps.getD i (⟨0,0⟩:Pt))-q) ((ps.getD i (⟨0,0⟩:Pt))-q)
  refine ck' call57 (Rs q (ps.getD i (⟨0,0⟩:Pt)) Z) O (al Cq O λb5=>An O sizeOf60 O (q3 (sL [3,4,6,11,12,13,5,8,7,9] O) (AK O (st' (Au (c:=(decide (b=(-1:Int)))) O O O) O (AK O ?_)))))
  refine zg (FM:=[(3,(pP b2 0)),(4,(vI 0)),(6,(pP b3 0)),(11,(qz x.a.p ps.length x.a.c)),(12,(vN ps.length)),(13,(vN i)),(5,(vI b)),(8,(pP b4 0)),(7,(vN i)),(9,(pP b5 0)),(21,(vI b)),(22,(qa (decide (b=(-1:Int))))),(23,(qa (decide (b=(-1:Int))))),(28,(qa ((decide (b=(-1:Int)))||(decide ((BR (C8 ((ps.getD i (⟨0,0⟩:Pt))-q) ((ps.getD i (⟨0,0⟩:Pt))-q)) l)<(0:Int))))))]) (LM:=[AO b5 60 (AC (C8 ((ps.getD i (⟨0,0⟩:Pt))-q) ((ps.getD i (⟨0,0⟩:Pt))-q))),AO b4 62 (Ah (ps.getD i (⟨0,0⟩:Pt))),AO b3 60 (AC l),AO b2 62 (Ah q),AO b1 37 (EU x),AI x.a.p (rowsL Ah ps),AI x.b.p (rowsL Bn ts),AI x.c.p (rowsL Bn ss)]) 5 ?_ ?_
  ·rcases xO (decide (b=(-1:Int))) with hg1|hg1
   ·refine zN (k:=23) (u:=qa true) O (by rw [hg1]) ?_
    have hg1':=xR hg1
    exact BP O (BP O (BP O (BP O (st' (v:=(qa true)) (ex_pick_true O O) O (oNl' (zT CT (xP _)))))))
   ·refine zN (k:=23) (u:=qa false) O (by rw [hg1]) ?_
    have hg1':=xQ hg1
    exact BV (v:=(aG (AC (C8 ((ps.getD i (⟨0,0⟩:Pt))-q) ((ps.getD i (⟨0,0⟩:Pt))-q))))) O (AY (i:=0) (vs:=AC (C8 ((ps.getD i (⟨0,0⟩:Pt))-q) ((ps.getD i (⟨0,0⟩:Pt))-q))) O O A9.a A9.s O O) (BV (v:=(aG (AC l))) O (AY (i:=2) (vs:=AC l) O O A9.a A9.s O O) (zd (v:=(vI (BR (C8 ((ps.getD i (⟨0,0⟩:Pt))-q) ((ps.getD i (⟨0,0⟩:Pt))-q)) l))) (AE O) (Ag (args:=[(aG (AC (C8 ((ps.getD i (⟨0,0⟩:Pt))-q) ((ps.getD i (⟨0,0⟩:Pt))-q)))),(aG (AC l))]) O O call43) (λw hw=>K1 (C8 ((ps.getD i (⟨0,0⟩:Pt))-q) ((ps.getD i (⟨0,0⟩:Pt))-q)) l Z w) O (leB O) (BV (v:=(qa (decide ((BR (C8 ((ps.getD i (⟨0,0⟩:Pt))-q) ((ps.getD i (⟨0,0⟩:Pt))-q)) l)<(0:Int))))) O (Aa (c:=(decide ((BR (C8 ((ps.getD i (⟨0,0⟩:Pt))-q) ((ps.getD i (⟨0,0⟩:Pt))-q)) l)<(0:Int)))) O O O) (st' (v:=(qa (decide ((BR (C8 ((ps.getD i (⟨0,0⟩:Pt))-q) ((ps.getD i (⟨0,0⟩:Pt))-q)) l)<(0:Int))))) (AN O O) O (oNl' (zT CT (xP _)))))))
  refine oNl' (zB (sL [3,4,6,11,12,13,5,8,7,9,28] O) (zA ?_))
  refine yV (tg λ(u2:Int) (l2:Rat)=>(u2,l2)=nerF (cG ps q) (i+1)/\Sz l2<=1000) (tg λ(u2:Int) (l2:Rat)=>[(3,(pP b2 0)),(4,(vI 0)),(6,(pP b3 0)),(11,(qz x.a.p ps.length x.a.c)),(12,(vN ps.length)),(13,(vN i)),(5,(vI u2))]) (tg λ(u2:Int) (l2:Rat)=>[AO b5 60 (AC (C8 ((ps.getD i (⟨0,0⟩:Pt))-q) ((ps.getD i (⟨0,0⟩:Pt))-q))),AO b4 62 (Ah (ps.getD i (⟨0,0⟩:Pt))),AO b3 60 (AC l2),AO b2 62 (Ah q),AO b1 37 (EU x),AI x.a.p (rowsL Ah ps),AI x.b.p (rowsL Bn ts),AI x.c.p (rowsL Bn ss)]) ?_ ?_
  ·refine zK O (λhc1=>?_) (λhc1=>?_)
   ·simp only [jK] at hc1
    exact B9 [(0,true),(1,true),(2,true),(3,false)] (sk (sk (sl sr))) (Bi O (B3 0 A9 O (pS' O (zD O (E7 O sizeOf60 O (zC (sk (sk (sl sr))) (zP (zB (sL [3,4,6,11,12,13,5,8,9] O) (zn ((i:Nat):Int) (C8 ((ps.getD i (⟨0,0⟩:Pt))-q) ((ps.getD i (⟨0,0⟩:Pt))-q)) (⟨W3 hI (by simpa [cG,BU] using hc1),Z⟩) (sF O) sr)))))))))
   ·simp only [jK] at hc1
    exact zG (zn b l (⟨Wz hI (by simpa [cG,BU] using hc1),hlz⟩) (sF O) sr)
  ·intro u2 l2 hJ
   obtain ⟨hI2,hlz2⟩:=hJ
   exact zJ (zA (zH (st' (AX (c:=((i+1:Nat):Int)) O O (AU (a:=i) (b:=1) Z)) O (AK O (oNl' (zB (sL [3,4,6,11,12,13,5] O) (yD (i+1) u2 l2 (⟨Z,hI2,hlz2⟩) Z (sF O) (sl (sl sr)))))))))
 ·replace hc0:=xQ hc0
  exact zW (zO (zo (zR (q2 (AK O (asg' O (oNl' (zB (sL [3,4,6,11,12,13,5] O) (zA (zF (ret_one O (rd_tmp (v:=(vI b)) O) (λw hw=>⟨by rw [show ps.length=i by omega,<-hI],hw.out⟩))))))))))))
end
end Go.Proofs.YtcpkbjjmcleplaaGreatDoor
