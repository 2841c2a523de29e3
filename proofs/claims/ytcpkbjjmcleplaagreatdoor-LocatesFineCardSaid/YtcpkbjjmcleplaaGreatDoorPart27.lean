import Derived.Test.YtcpkbjjmcleplaaGreatDoorPart26
namespace Go.Proofs.YtcpkbjjmcleplaaGreatDoor
open Go Go.RowKit Go.Proofs.Tryz
open Go.Value renaming slice→qz,bool→qa
set_option linter.unusedVariables false
set_option linter.unusedSimpArgs false
section
set_option maxRecDepth 100000
theorem dW:ElemT prog 72 75 11 120:=⟨underlying72,Cx jV⟩
theorem OJ (p:Option Addr) (n cp:Nat) (h:n<=cp) (w:World)  :Calls prog 45 #[(qz p n cp)] w (Ac w (qz p n n)):=by
 refine AV (args:=[(qz p n cp)]) func45 O O (leB O) (zI (sL [0] O) (q4 (asg' O (oNl' (q2 (AK O (AK O (st' (v:=(vN n)) (AD O underlying72) O (AK O (st' (v:=(vN n)) (AD O underlying72) O (st' (v:=(qz p n n)) (NE (m:=n) O O O underlying72 sizeOf75 Z) O ?_)))))))))))
 exact asg' O (oNl' (zB (sL [2] O) (zA (zF (ret_one O (rd_tmp (v:=(qz p n n)) O) (λw hw=>⟨rfl,hw.out⟩))))))
theorem DS (x0:Nat) (x1:Rat) (x2:Rat):Instr.fill ([(0,1),(1,5),(6,5)].toArray[·]?) ([(vI 0)]++AC (0:Rat)++AC (0:Rat)).toArray [(0,vN x0),(1,.agg (AC x1).toArray),(2,.agg (AC x2).toArray)]=some ([(vN x0)]++AC x1++AC x2).toArray:=by kernel_rfl
theorem H2 (x0:Pc):Instr.fill (λi=>some (i*11,11)) ((Array.range (1*11)).map ((Value.agg ([(vI 0)]++AC (0:Rat)++AC (0:Rat)).toArray).cells[·%(Value.agg ([(vI 0)]++AC (0:Rat)++AC (0:Rat)).toArray).cells.size]!)) [(0,.agg (Ca x0).toArray)]=some (Ca x0).toArray:=by kernel_rfl
set_option maxHeartbeats 2000000 in
theorem Yf {ps:List Pt} {ts ss:List (Tq3)} (x:MX ps ts ss) (hl:ts.length<=1000) (a b:Pt) (hz:∀i,BO (BU ps i)<=4) (sa:BO a<=6) (sb:BO b<=6) (hab:¬a=b) (hne:∀j,j<ts.length->AF (BU ps (ts.getD j (0,0,0)).1) (BU ps (ts.getD j (0,0,0)).2.1) (BU ps (ts.getD j (0,0,0)).2.2)≠0) (p1 p2:Pc) (h2:Bc ps ts a b (nB ps.length ts)=[p1,p2]) (hps:Sz p1.lo+Sz p2.lo<=1000000) (w:World) {S:Nat->Prop} (hx:Ro S w x):Calls prog 18 #[(aG (DY x)),(aG (Ah a)),(aG (Ah b))] w (Aj (RX (rowsL Ca (SA p1 p2)) 2) S w):=by
 have lx:=Bx (W:=w) hx
 refine F0 (args:=[(aG (DY x)),(aG (Ah a)),(aG (Ah b))]) (L:=[AI x.a.p (rowsL Ah ps),AI x.b.p (rowsL BC ts),AI x.c.p (rowsL BC ss)]) func18 O O (leB O) (GT hx Ao) (BS.subF (sL [0,1,2] O) (BS.seq (BS.region (λ_ _ h=>by obtain ⟨_,h,_⟩:=h;cases h) O (BH (cs:=DY x) O λb1=>BH (cs:=Ah a) O λb2=>BH (cs:=Ah b) O λb3=>asg' O (oNl' (zB (sL [3,4,5,6] O) (zX (BS.seq ?_))))))))
 refine BS.region (λ_ _ h=>by obtain ⟨_,h,_⟩:=h;cases h) O (al ay O λb4=>zm 75 11 (oNl' (zX (BS.seq (BS.seq (BS.region (λ_ _ h=>by obtain ⟨_,h,_⟩:=h;cases h) O (Af 3 BJ O (Af 2 BJ O (st' (CB (c:=decide (a=b)) O O eqGuardType62 (OS 9994 a b)) O (oNl' ?_))))))))))
 refine zB (sL [3,4,5,6,7,18] O) (zX ?_)
 refine BS.cond O (λhc0=>?_) (λhc0=>?_)
 ·replace hc0:=xR hc0
  exact absurd hc0 hab
 ·replace hc0:=xQ hc0
  refine BS.skip (zX (BS.seq (BS.region (λ_ _ h=>by obtain ⟨_,h,_⟩:=h;cases h) O (ck' call14 (Jp (1:Int) (2:Int) Z Z Z Z Z) O (AK O (st' (AJ (v:=(aG (AC (((1:Int):Rat)/((2:Int):Rat))))) O O) O (st' (AJ (v:=(vI 0)) O O) O (al Cq O λb5=>An O sizeOf60 O (asg' O (oNl' ?_))))))))))
  refine zB (sL [3,4,5,6,7,8] O) (zX (BS.seq (BS.seq (BS.region (λ_ _ h=>by obtain ⟨_,h,_⟩:=h;cases h) O (Af 5 GQ O (zw (S:=S) (α:=CF 67 (DY x)) (args:=[(aG (DY x))]) call29 (λw hw=>Q5 x w (inS hw 6 O lx)) O O O λfa lfa=>oNl' (zB (sL [4,5,6,7,8,24] O) (zX (BS.block (BS.subF (F':=[(24,(Value.func (.func 67) #[] #[(pP fa.b 0)])),(4,(pP b2 0)),(5,(pP b3 0)),(6,jj),(7,(pP b4 0)),(8,(pP b5 0))]) (sF O) ?_))))))))))
  refine BS.rangeFunc (σ:=Option Addr×Nat) O call67 O O ((nB ps.length ts)) (λt=>(vN t)) (λt=>(aG (Gr (B_ ps (ts.getD t (0,0,0)))))) (λt s=>Iy (Bc ps ts a b t) s) (λt s=>False) (λt s=>[AI (some ⟨fa.b,0,none⟩) (DY x),AO b5 60 (AC (((1:Int):Rat)/((2:Int):Rat))),rowW s.1 75 11 ((Bc ps ts a b t).length) s.2 (rowsL Ca (Bc ps ts a b t)),AO b4 72 ([(qz s.1 ((Bc ps ts a b t).length) s.2)]),AO b3 62 (Ah b),AO b2 62 (Ah a),AO b1 37 (DY x),AI x.a.p (rowsL Ah ps),AI x.b.p (rowsL BC ts),AI x.c.p (rowsL BC ss)]) (λt s=>[]) (none,0) sr ⟨OwnOk.none,λ_=>rfl⟩ (λl J X W hJ hL h0=>OC x Z fa.bx l J X hL (λt W h=>by obtain ⟨s,_,hw⟩:=hJ t W h;exact ⟨Ro.top (inS hw 0 O lfa:Ro _ _ fa),Ro.top (inS hw 7 O lx)⟩) W h0) (λl la1 la2 da t s ht hP K hK=>?_) (λla D s hP=>?_) (λla D t s hP=>?_)
  ·obtain ⟨hnb,hti⟩:=S8 ht
   have hrl:=Gf (ps:=ps) (ts:=ts) (a:=a) (b:=b) t
   obtain ⟨sv,hsv⟩:∃s,s=Bg (B_ ps (ts.getD t (0,0,0))) a b:=⟨_,rfl⟩
   have hsz:Sz sv.1<=400/\Sz sv.2.1<=400:=by rw [hsv];exact JY (c:=B_ ps (ts.getD t (0,0,0))) (hne t hti) (xK (hz _) jY) (xK (hz _) jY) (xK (hz _) jY) sa sb
   have hhf:Sz (((1:Int):Rat)/((2:Int):Rat))<=2:=by decide +kernel
   obtain ⟨z1,z2⟩:=hsz
   refine BS.subF (F':=[(26,(aG (Gr (B_ ps (ts.getD t (0,0,0)))))),(25,(vN t)),(24,(Value.func (.func 67) #[] #[(pP fa.b 0)])),(4,(pP b2 0)),(5,(pP b3 0)),(6,jj),(7,(pP b4 0)),(8,(pP b5 0))]) (sF O) (BS.subL (L':=[la1,da,AI (some ⟨fa.b,0,none⟩) (DY x),AO b5 60 (AC (((1:Int):Rat)/((2:Int):Rat))),rowW s.1 75 11 ((Bc ps ts a b t).length) s.2 (rowsL Ca (Bc ps ts a b t)),AO b4 72 ([(qz s.1 ((Bc ps ts a b t).length) s.2)]),AO b3 62 (Ah b),AO b2 62 (Ah a),AO b1 37 (DY x),AI x.a.p (rowsL Ah ps),AI x.b.p (rowsL BC ts),AI x.c.p (rowsL BC ss)]) (xP _) (BS.seq (BS.region (λ_ _ h=>h) O (asg' O (oNl' (zX (BS.region (λ_ _ h=>h) O (al Qe O λb6=>An O sizeOf108 O (oNl' ?_)))))))))
   refine yP (hK 1 _ _ O ?_)
   refine BS.subL (L':=[AO b6 108 (Gr (B_ ps (ts.getD t (0,0,0)))),la2,da,AI (some ⟨fa.b,0,none⟩) (DY x),AO b5 60 (AC (((1:Int):Rat)/((2:Int):Rat))),rowW s.1 75 11 ((Bc ps ts a b t).length) s.2 (rowsL Ca (Bc ps ts a b t)),AO b4 72 ([(qz s.1 ((Bc ps ts a b t).length) s.2)]),AO b3 62 (Ah b),AO b2 62 (Ah a),AO b1 37 (DY x),AI x.a.p (rowsL Ah ps),AI x.b.p (rowsL BC ts),AI x.c.p (rowsL BC ss)]) (xP _) (BS.block (BS.seq (BS.region (λ_ _ h=>h) O (Af 0 X3 O (Af 8 BJ O (Af 7 BJ O (CQ (args:=[(aG (Gr (B_ ps (ts.getD t (0,0,0))))),(aG (Ah a)),(aG (Ah b))]) (v:=(Value.tuple #[(aG (AC sv.1)),(aG (AC sv.2.1)),(qa sv.2.2)])) call35 (λw hw=>(by rw [hsv];exact (Mc (BU ps (ts.getD t (0,0,0)).1) (BU ps (ts.getD t (0,0,0)).2.1) (BU ps (ts.getD t (0,0,0)).2.2) a b (by have:=hz (ts.getD t (0,0,0)).1;omega) (by have:=hz (ts.getD t (0,0,0)).2.1;omega) (by have:=hz (ts.getD t (0,0,0)).2.2;omega) sa sb (hne t hti) w))) O (AK O (st' (AJ (v:=(aG (AC sv.1))) O O) O (st' (AJ (v:=(aG (AC sv.2.1))) O O) O (st' (AJ (v:=(qa sv.2.2)) O O) O ?_)))))))))))
   refine al Cq O λb7=>al Cq O λb8=>DK O sizeOf60 O (An O sizeOf60 O (asg' O (oNl' (zX (BS.seq (BS.seq (BS.region (λ_ _ h=>h) O (AK O (st' (Bs (c:=(!sv.2.2)) O O) O ?_)))))))))
   refine oNl' (zX ?_)
   refine BS.cond O (λhc1=>?_) (λhc1=>?_)
   ·simp only [jK] at hc1
    replace hc1:sv.2.2=false:=by simpa using hc1
    have e:=MR hsv hc1
    refine BS.exit (zO (zR ?_))
    rw [<-e]
    exact yR s (by show Iy (Bc ps ts a b (t+1)) s;rw [e];exact hP) (sl (sl (sl sr)))
   ·simp only [jK] at hc1
    replace hc1:sv.2.2=true:=by simpa using hc1
    refine BS.skip (zX (BS.seq (iN [(0,true),(1,true),(2,true),(4,true),(5,true),(6,true),(3,false),(7,false),(8,false),(9,false),(10,false)] [⟨11,15,62,Ah (⟨0,0⟩:Pt)⟩] [(12,false)] sr jV (λ_ _ d _ _ h=>by cases d<;>exact h) (GD O O Fg O (GP)) O (λ_ _ h=>h) O (En 10 BJ O (En 9 BJ O (En 10 BJ O (En 6 A9 O (En 1 A9 O (En 0 A9 O (zf O λEF EL=>?_))))))))))
    have hz1:=Bo b a
    refine ck' call38 (IE b a Z) O (ze sr O (zf O λEF EL=>?_))
    have hz2:=Ds sv.1 sv.2.1
    refine ck' call31 (G5 sv.1 sv.2.1 (by (try simp only [BN]);omega)) O (ze sr O (zf O λEF EL=>?_))
    have hz3:=Cm (((1:Int):Rat)/((2:Int):Rat)) (sv.1+sv.2.1)
    refine ck' call39 (Fl (((1:Int):Rat)/((2:Int):Rat)) (sv.1+sv.2.1) (by (try simp only [BN]);omega)) O (ze sr O (zf O λEF EL=>?_))
    have hz4:=E8 (b-a) ((((1:Int):Rat)/((2:Int):Rat))*(sv.1+sv.2.1))
    refine ck' call37 (J0 (b-a) ((((1:Int):Rat)/((2:Int):Rat))*(sv.1+sv.2.1)) Z) O (ze sr O (zf O λEF EL=>?_))
    have hz5:=Gu a (Bm (b-a) ((((1:Int):Rat)/((2:Int):Rat))*(sv.1+sv.2.1)))
    refine ck' call36 (On a (Bm (b-a) ((((1:Int):Rat)/((2:Int):Rat))*(sv.1+sv.2.1))) Z) O (ze sr O (zx λb9=>zD O (An O sizeOf62 O (zC (sl sr) (zP (zX (BS.seq (BS.region (λ_ _ h=>h) O (st' (v:=(pP b6 0)) (AB (j:=0) O O underlying108 sizeOf62 O jY O) O (By 3 (Ah ((B_ ps (ts.getD t (0,0,0))).1)) BJ O ?_))))))))))
    refine st' (v:=(pP b6 10)) (AB (j:=1) O O underlying108 sizeOf62 O jY O) O (By 3 (Ah ((B_ ps (ts.getD t (0,0,0))).2.1)) BJ O (st' (v:=(pP b6 20)) (AB (j:=2) O O underlying108 sizeOf62 O jY O) O (By 3 (Ah ((B_ ps (ts.getD t (0,0,0))).2.2)) BJ O (Af 0 BJ O (ck' call30 (GV (BU ps (ts.getD t (0,0,0)).1) (BU ps (ts.getD t (0,0,0)).2.1) (BU ps (ts.getD t (0,0,0)).2.2) (Gc a b sv.1 sv.2.1) (by have z1:=hz (ts.getD t (0,0,0)).1;have z2:=hz (ts.getD t (0,0,0)).2.1;have z3:=hz (ts.getD t (0,0,0)).2.2;unfold Gc;omega)) O (st' (Au (c:=(decide ((BZ ps (Gc a b sv.1 sv.2.1) (ts.getD t (0,0,0)))=1))) O O (K0 (a:=BZ ps (Gc a b sv.1 sv.2.1) (ts.getD t (0,0,0))) (b:=1))) O (oNl' (zX ?_))))))))
    refine BS.cond O (λhc2=>?_) (λhc2=>?_)
    ·replace hc2:=xR hc2
     have e:=Ox hsv hc1 hc2
     refine BS.region (λ_ _ h=>h) O (BL 9 (qz s.1 ((Bc ps ts a b t).length) s.2) O4 O (AK O (Af 2 A9 O (Af 1 A9 O (st' (v:=(aG ([(vN t)]++AC sv.1++AC sv.2.1))) (AS (zs:=[(vI 0)]++AC (0:Rat)++AC (0:Rat)) (vs:=[(vN t)]++AC sv.1++AC sv.2.1) (pv:=[(0,(vN t)),(1,(aG (AC sv.1))),(2,(aG (AC sv.2.1)))]) (places:=[(0,1),(1,5),(6,5)]) zeroValue75 underlying75 (λw=>by simp [sizeOf3,sizeOf60]) O (DS t sv.1 sv.2.1)) O (zZ (V:=λb10=>(qz (jk b10) 1 1)) (T:=75) (cs:=Ca (⟨t,sv.1,sv.2.1⟩:Pc)) (AG O) (Ai (z:=.agg ([(vI 0)]++AC (0:Rat)++AC (0:Rat)).toArray) (cs:=Ca (⟨t,sv.1,sv.2.1⟩:Pc)) (pv:=[(0,(aG ([(vN t)]++AC sv.1++AC sv.2.1)))]) underlying72 sizeOf75 zeroValue75 jY jY O (H2 (⟨t,sv.1,sv.2.1⟩:Pc))) O (leB O) λb10=>zj 9 (j:=0) (cs2:=rowsL Ca ((Bc ps ts a b t)++[(⟨t,sv.1,sv.2.1⟩:Pc)])) dW O hP.1 (AT DM _) O O O O O jY (GC Z) Z (by rw [Aw];rfl) O λp_1 c_1 ho_1 hne_1=>Dt 10 (off:=0) (vs:=[(qz p_1 (((Bc ps ts a b t).length)+1) c_1)]) (cs':=[(qz p_1 (((Bc ps ts a b t).length)+1) c_1)]) (AG O) O sizeOf72 O (oNl' (zJ ?_))))))))
     rw [show (Bc ps ts a b t).length+1=(Bc ps ts a b t++[(⟨t,sv.1,sv.2.1⟩:Pc)]).length by simp,<-e]
     exact yR (p_1,c_1) (Iy.more e ho_1) (sl (sl (sl (sl (sl sr)))))
    ·replace hc2:=xQ hc2
     have e:=MP hsv hc1 hc2
     refine BS.skip (zJ ?_)
     rw [<-e]
     exact yR s (by show Iy (Bc ps ts a b (t+1)) s;rw [e];exact hP) (sl (sl (sl (sl sr))))
  ·refine E5.behind ?_
   obtain ⟨p0,c0⟩:=s
   have ho:OwnOk p0 2 c0:=by have h9:OwnOk p0 (Bc ps ts a b (nB ps.length ts)).length c0:=hP.1;rw [h2] at h9;exact h9
   obtain ⟨g,rfl⟩:=XD ho jY
   refine E5.castL (congrArg (λq:List Pc=>[la,Sl D,AI (some ⟨fa.b,0,none⟩) (DY x),AO b5 60 (AC (((1:Int):Rat)/((2:Int):Rat))),rowW (jk g) 75 11 q.length c0 (rowsL Ca q),AO b4 72 ([(qz (jk g) q.length c0)]),AO b3 62 (Ah b),AO b2 62 (Ah a),AO b1 37 (DY x),AI x.a.p (rowsL Ah ps),AI x.b.p (rowsL BC ts),AI x.c.p (rowsL BC ss)]) h2) (E5.subL (L':=[la,Sl D,AI (some ⟨fa.b,0,none⟩) (DY x),AO b5 60 (AC (((1:Int):Rat)/((2:Int):Rat))),rowW (jk g) 75 11 2 c0 (rowsL Ca ([p1,p2])),AO b4 72 ([(qz (jk g) 2 c0)]),AO b3 62 (Ah b),AO b2 62 (Ah a),AO b1 37 (DY x),AI x.a.p (rowsL Ah ps),AI x.b.p (rowsL BC ts),AI x.c.p (rowsL BC ss)]) (xP _) (E5.subF (F':=[(24,(Value.func (.func 67) #[] #[(pP fa.b 0)])),(4,(pP b2 0)),(5,(pP b3 0)),(6,jj),(7,(pP b4 0)),(8,(pP b5 0))]) (sF O) (E5.seq (E5.region (λ_ _ h=>by obtain ⟨_,h,_⟩:=h;cases h) O (BL 5 (qz (jk g) 2 c0) O4 O (AP.unrow 4 O λtl=>yU (L':=[la,Sl D,AI (some ⟨fa.b,0,none⟩) (DY x),AO b5 60 (AC (((1:Int):Rat)/((2:Int):Rat))),AO g 75 (Ca p1++(Ca p2++tl)),AO b4 72 ([(qz (jk g) 2 c0)]),AO b3 62 (Ah b),AO b2 62 (Ah a),AO b1 37 (DY x),AI x.a.p (rowsL Ah ps),AI x.b.p (rowsL BC ts),AI x.c.p (rowsL BC ss)]) (xP _) (yb (v:=(Value.tuple #[])) (i:=4) (cs':=Iq p1 p2 tl) (L':=[la,Sl D,AI (some ⟨fa.b,0,none⟩) (DY x),AO b5 60 (AC (((1:Int):Rat)/((2:Int):Rat))),AO g 75 (Iq p1 p2 tl),AO b4 72 ([(qz (jk g) 2 c0)]),AO b3 62 (Ah b),AO b2 62 (Ah a),AO b1 37 (DY x),AI x.a.p (rowsL Ah ps),AI x.b.p (rowsL BC ts),AI x.c.p (rowsL BC ss)]) (AG O) (Ag (args:=[(qz (jk g) 2 c0),(Value.func (.func 41) #[] #[])]) O O call40) O (λw hw=>Xq p1 p2 tl c0 _ ho.le hps w (hw.get (i:=4) O)) (λd hd=>by cases hd<;>exact (leB O)) O (oNl' (zB (sL [24,4,5,6,7,8] O) (yQ ?_))))))))))
   exact E5.seq (E5.region (λ_ _ h=>by obtain ⟨_,h,_⟩:=h;cases h) O (BL 5 (qz (jk g) 2 c0) O4 O (ck' call45 (OJ (jk g) 2 c0 ho.le) O (asg' O (oNl' (zB (sL [24,4,5,6,7,8] O) (yQ (E5.ret (R0 1 O (ret_one O (rd_tmp (v:=(qz (jk g) 2 2)) O) (λw hw=>(gq hw 4 O))))))))))))
  ·exact hP.elim
set_option maxHeartbeats 2000000 in
theorem Ye {ps:List Pt} {ts ss:List (Tq3)} (x:MX ps ts ss) (hl:ts.length<=1000) (a b:Pt) (hz:∀i,BO (BU ps i)<=4) (sa:BO a<=6) (sb:BO b<=6) (hab:¬a=b) (hne:∀j,j<ts.length->AF (BU ps (ts.getD j (0,0,0)).1) (BU ps (ts.getD j (0,0,0)).2.1) (BU ps (ts.getD j (0,0,0)).2.2)≠0) (h2:Bc ps ts a b (nB ps.length ts)=[]) (w:World) {S:Nat->Prop} (hx:Ro S w x):Calls prog 18 #[(aG (DY x)),(aG (Ah a)),(aG (Ah b))] w (Ac w jj):=by
 have lx:=Bx (W:=w) hx
 refine F0 (args:=[(aG (DY x)),(aG (Ah a)),(aG (Ah b))]) (L:=[AI x.a.p (rowsL Ah ps),AI x.b.p (rowsL BC ts),AI x.c.p (rowsL BC ss)]) func18 O O (leB O) (GT hx Ao) (BS.subF (sL [0,1,2] O) (BS.seq (BS.region (λ_ _ h=>by cases h.1) O (BH (cs:=DY x) O λb1=>BH (cs:=Ah a) O λb2=>BH (cs:=Ah b) O λb3=>asg' O (oNl' (zB (sL [3,4,5,6] O) (zX (BS.seq ?_))))))))
 refine BS.region (λ_ _ h=>by cases h.1) O (al ay O λb4=>zm 75 11 (oNl' (zX (BS.seq (BS.seq (BS.region (λ_ _ h=>by cases h.1) O (Af 3 BJ O (Af 2 BJ O (st' (CB (c:=decide (a=b)) O O eqGuardType62 (OS 9994 a b)) O (oNl' ?_))))))))))
 refine zB (sL [3,4,5,6,7,18] O) (zX ?_)
 refine BS.cond O (λhc0=>?_) (λhc0=>?_)
 ·replace hc0:=xR hc0
  exact absurd hc0 hab
 ·replace hc0:=xQ hc0
  refine BS.skip (zX (BS.seq (BS.region (λ_ _ h=>by cases h.1) O (ck' call14 (Jp (1:Int) (2:Int) Z Z Z Z Z) O (AK O (st' (AJ (v:=(aG (AC (((1:Int):Rat)/((2:Int):Rat))))) O O) O (st' (AJ (v:=(vI 0)) O O) O (al Cq O λb5=>An O sizeOf60 O (asg' O (oNl' ?_))))))))))
  refine zB (sL [3,4,5,6,7,8] O) (zX (BS.seq (BS.seq (BS.region (λ_ _ h=>by cases h.1) O (Af 5 GQ O (zw (S:=S) (α:=CF 67 (DY x)) (args:=[(aG (DY x))]) call29 (λw hw=>Q5 x w (inS hw 6 O lx)) O O O λfa lfa=>oNl' (zB (sL [4,5,6,7,8,24] O) (zX (BS.block (BS.subF (F':=[(24,(Value.func (.func 67) #[] #[(pP fa.b 0)])),(4,(pP b2 0)),(5,(pP b3 0)),(6,jj),(7,(pP b4 0)),(8,(pP b5 0))]) (sF O) ?_))))))))))
  refine BS.rangeFunc (σ:=Option Addr×Nat) O call67 O O ((nB ps.length ts)) (λt=>(vN t)) (λt=>(aG (Gr (B_ ps (ts.getD t (0,0,0)))))) (λt s=>Iy (Bc ps ts a b t) s) (λt s=>False) (λt s=>[AI (some ⟨fa.b,0,none⟩) (DY x),AO b5 60 (AC (((1:Int):Rat)/((2:Int):Rat))),rowW s.1 75 11 ((Bc ps ts a b t).length) s.2 (rowsL Ca (Bc ps ts a b t)),AO b4 72 ([(qz s.1 ((Bc ps ts a b t).length) s.2)]),AO b3 62 (Ah b),AO b2 62 (Ah a),AO b1 37 (DY x),AI x.a.p (rowsL Ah ps),AI x.b.p (rowsL BC ts),AI x.c.p (rowsL BC ss)]) (λt s=>[]) (none,0) sr ⟨OwnOk.none,λ_=>rfl⟩ (λl J X W hJ hL h0=>OC x Z fa.bx l J X hL (λt W h=>by obtain ⟨s,_,hw⟩:=hJ t W h;exact ⟨Ro.top (inS hw 0 O lfa:Ro _ _ fa),Ro.top (inS hw 7 O lx)⟩) W h0) (λl la1 la2 da t s ht hP K hK=>?_) (λla D s hP=>?_) (λla D t s hP=>?_)
  ·obtain ⟨hnb,hti⟩:=S8 ht
   have hrl:=Gf (ps:=ps) (ts:=ts) (a:=a) (b:=b) t
   obtain ⟨sv,hsv⟩:∃s,s=Bg (B_ ps (ts.getD t (0,0,0))) a b:=⟨_,rfl⟩
   have hsz:Sz sv.1<=400/\Sz sv.2.1<=400:=by rw [hsv];exact JY (c:=B_ ps (ts.getD t (0,0,0))) (hne t hti) (xK (hz _) jY) (xK (hz _) jY) (xK (hz _) jY) sa sb
   have hhf:Sz (((1:Int):Rat)/((2:Int):Rat))<=2:=by decide +kernel
   obtain ⟨z1,z2⟩:=hsz
   refine BS.subF (F':=[(26,(aG (Gr (B_ ps (ts.getD t (0,0,0)))))),(25,(vN t)),(24,(Value.func (.func 67) #[] #[(pP fa.b 0)])),(4,(pP b2 0)),(5,(pP b3 0)),(6,jj),(7,(pP b4 0)),(8,(pP b5 0))]) (sF O) (BS.subL (L':=[la1,da,AI (some ⟨fa.b,0,none⟩) (DY x),AO b5 60 (AC (((1:Int):Rat)/((2:Int):Rat))),rowW s.1 75 11 ((Bc ps ts a b t).length) s.2 (rowsL Ca (Bc ps ts a b t)),AO b4 72 ([(qz s.1 ((Bc ps ts a b t).length) s.2)]),AO b3 62 (Ah b),AO b2 62 (Ah a),AO b1 37 (DY x),AI x.a.p (rowsL Ah ps),AI x.b.p (rowsL BC ts),AI x.c.p (rowsL BC ss)]) (xP _) (BS.seq (BS.region (λ_ _ h=>h) O (asg' O (oNl' (zX (BS.region (λ_ _ h=>h) O (al Qe O λb6=>An O sizeOf108 O (oNl' ?_)))))))))
   refine yP (hK 1 _ _ O ?_)
   refine BS.subL (L':=[AO b6 108 (Gr (B_ ps (ts.getD t (0,0,0)))),la2,da,AI (some ⟨fa.b,0,none⟩) (DY x),AO b5 60 (AC (((1:Int):Rat)/((2:Int):Rat))),rowW s.1 75 11 ((Bc ps ts a b t).length) s.2 (rowsL Ca (Bc ps ts a b t)),AO b4 72 ([(qz s.1 ((Bc ps ts a b t).length) s.2)]),AO b3 62 (Ah b),AO b2 62 (Ah a),AO b1 37 (DY x),AI x.a.p (rowsL Ah ps),AI x.b.p (rowsL BC ts),AI x.c.p (rowsL BC ss)]) (xP _) (BS.block (BS.seq (BS.region (λ_ _ h=>h) O (Af 0 X3 O (Af 8 BJ O (Af 7 BJ O (CQ (args:=[(aG (Gr (B_ ps (ts.getD t (0,0,0))))),(aG (Ah a)),(aG (Ah b))]) (v:=(Value.tuple #[(aG (AC sv.1)),(aG (AC sv.2.1)),(qa sv.2.2)])) call35 (λw hw=>(by rw [hsv];exact (Mc (BU ps (ts.getD t (0,0,0)).1) (BU ps (ts.getD t (0,0,0)).2.1) (BU ps (ts.getD t (0,0,0)).2.2) a b (by have:=hz (ts.getD t (0,0,0)).1;omega) (by have:=hz (ts.getD t (0,0,0)).2.1;omega) (by have:=hz (ts.getD t (0,0,0)).2.2;omega) sa sb (hne t hti) w))) O (AK O (st' (AJ (v:=(aG (AC sv.1))) O O) O (st' (AJ (v:=(aG (AC sv.2.1))) O O) O (st' (AJ (v:=(qa sv.2.2)) O O) O ?_)))))))))))
   refine al Cq O λb7=>al Cq O λb8=>DK O sizeOf60 O (An O sizeOf60 O (asg' O (oNl' (zX (BS.seq (BS.seq (BS.region (λ_ _ h=>h) O (AK O (st' (Bs (c:=(!sv.2.2)) O O) O ?_)))))))))
   refine oNl' (zX ?_)
   refine BS.cond O (λhc1=>?_) (λhc1=>?_)
   ·simp only [jK] at hc1
    replace hc1:sv.2.2=false:=by simpa using hc1
    have e:=MR hsv hc1
    refine BS.exit (zO (zR ?_))
    rw [<-e]
    exact yR s (by show Iy (Bc ps ts a b (t+1)) s;rw [e];exact hP) (sl (sl (sl sr)))
   ·simp only [jK] at hc1
    replace hc1:sv.2.2=true:=by simpa using hc1
    refine BS.skip (zX (BS.seq (iN [(0,true),(1,true),(2,true),(4,true),(5,true),(6,true),(3,false),(7,false),(8,false),(9,false),(10,false)] [⟨11,15,62,Ah (⟨0,0⟩:Pt)⟩] [(12,false)] sr jV (λ_ _ d _ _ h=>by cases d<;>exact h) (GD O O Fg O (GP)) O (λ_ _ h=>h) O (En 10 BJ O (En 9 BJ O (En 10 BJ O (En 6 A9 O (En 1 A9 O (En 0 A9 O (zf O λEF EL=>?_))))))))))
    have hz1:=Bo b a
    refine ck' call38 (IE b a Z) O (ze sr O (zf O λEF EL=>?_))
    have hz2:=Ds sv.1 sv.2.1
    refine ck' call31 (G5 sv.1 sv.2.1 (by (try simp only [BN]);omega)) O (ze sr O (zf O λEF EL=>?_))
    have hz3:=Cm (((1:Int):Rat)/((2:Int):Rat)) (sv.1+sv.2.1)
    refine ck' call39 (Fl (((1:Int):Rat)/((2:Int):Rat)) (sv.1+sv.2.1) (by (try simp only [BN]);omega)) O (ze sr O (zf O λEF EL=>?_))
    have hz4:=E8 (b-a) ((((1:Int):Rat)/((2:Int):Rat))*(sv.1+sv.2.1))
    refine ck' call37 (J0 (b-a) ((((1:Int):Rat)/((2:Int):Rat))*(sv.1+sv.2.1)) Z) O (ze sr O (zf O λEF EL=>?_))
    have hz5:=Gu a (Bm (b-a) ((((1:Int):Rat)/((2:Int):Rat))*(sv.1+sv.2.1)))
    refine ck' call36 (On a (Bm (b-a) ((((1:Int):Rat)/((2:Int):Rat))*(sv.1+sv.2.1))) Z) O (ze sr O (zx λb9=>zD O (An O sizeOf62 O (zC (sl sr) (zP (zX (BS.seq (BS.region (λ_ _ h=>h) O (st' (v:=(pP b6 0)) (AB (j:=0) O O underlying108 sizeOf62 O jY O) O (By 3 (Ah ((B_ ps (ts.getD t (0,0,0))).1)) BJ O ?_))))))))))
    refine st' (v:=(pP b6 10)) (AB (j:=1) O O underlying108 sizeOf62 O jY O) O (By 3 (Ah ((B_ ps (ts.getD t (0,0,0))).2.1)) BJ O (st' (v:=(pP b6 20)) (AB (j:=2) O O underlying108 sizeOf62 O jY O) O (By 3 (Ah ((B_ ps (ts.getD t (0,0,0))).2.2)) BJ O (Af 0 BJ O (ck' call30 (GV (BU ps (ts.getD t (0,0,0)).1) (BU ps (ts.getD t (0,0,0)).2.1) (BU ps (ts.getD t (0,0,0)).2.2) (Gc a b sv.1 sv.2.1) (by have z1:=hz (ts.getD t (0,0,0)).1;have z2:=hz (ts.getD t (0,0,0)).2.1;have z3:=hz (ts.getD t (0,0,0)).2.2;unfold Gc;omega)) O (st' (Au (c:=(decide ((BZ ps (Gc a b sv.1 sv.2.1) (ts.getD t (0,0,0)))=1))) O O (K0 (a:=BZ ps (Gc a b sv.1 sv.2.1) (ts.getD t (0,0,0))) (b:=1))) O (oNl' (zX ?_))))))))
    refine BS.cond O (λhc2=>?_) (λhc2=>?_)
    ·replace hc2:=xR hc2
     have e:=Ox hsv hc1 hc2
     refine BS.region (λ_ _ h=>h) O (BL 9 (qz s.1 ((Bc ps ts a b t).length) s.2) O4 O (AK O (Af 2 A9 O (Af 1 A9 O (st' (v:=(aG ([(vN t)]++AC sv.1++AC sv.2.1))) (AS (zs:=[(vI 0)]++AC (0:Rat)++AC (0:Rat)) (vs:=[(vN t)]++AC sv.1++AC sv.2.1) (pv:=[(0,(vN t)),(1,(aG (AC sv.1))),(2,(aG (AC sv.2.1)))]) (places:=[(0,1),(1,5),(6,5)]) zeroValue75 underlying75 (λw=>by simp [sizeOf3,sizeOf60]) O (DS t sv.1 sv.2.1)) O (zZ (V:=λb10=>(qz (jk b10) 1 1)) (T:=75) (cs:=Ca (⟨t,sv.1,sv.2.1⟩:Pc)) (AG O) (Ai (z:=.agg ([(vI 0)]++AC (0:Rat)++AC (0:Rat)).toArray) (cs:=Ca (⟨t,sv.1,sv.2.1⟩:Pc)) (pv:=[(0,(aG ([(vN t)]++AC sv.1++AC sv.2.1)))]) underlying72 sizeOf75 zeroValue75 jY jY O (H2 (⟨t,sv.1,sv.2.1⟩:Pc))) O (leB O) λb10=>zj 9 (j:=0) (cs2:=rowsL Ca ((Bc ps ts a b t)++[(⟨t,sv.1,sv.2.1⟩:Pc)])) dW O hP.1 (AT DM _) O O O O O jY (GC Z) Z (by rw [Aw];rfl) O λp_1 c_1 ho_1 hne_1=>Dt 10 (off:=0) (vs:=[(qz p_1 (((Bc ps ts a b t).length)+1) c_1)]) (cs':=[(qz p_1 (((Bc ps ts a b t).length)+1) c_1)]) (AG O) O sizeOf72 O (oNl' (zJ ?_))))))))
     rw [show (Bc ps ts a b t).length+1=(Bc ps ts a b t++[(⟨t,sv.1,sv.2.1⟩:Pc)]).length by simp,<-e]
     exact yR (p_1,c_1) (Iy.more e ho_1) (sl (sl (sl (sl (sl sr)))))
    ·replace hc2:=xQ hc2
     have e:=MP hsv hc1 hc2
     refine BS.skip (zJ ?_)
     rw [<-e]
     exact yR s (by show Iy (Bc ps ts a b (t+1)) s;rw [e];exact hP) (sl (sl (sl (sl sr))))
  ·refine E5.behind ?_
   obtain rfl:=hP.2 h2
   refine E5.castL (congrArg (λq:List Pc=>[la,Sl D,AI (some ⟨fa.b,0,none⟩) (DY x),AO b5 60 (AC (((1:Int):Rat)/((2:Int):Rat))),rowW none 75 11 q.length 0 (rowsL Ca q),AO b4 72 ([(qz none q.length 0)]),AO b3 62 (Ah b),AO b2 62 (Ah a),AO b1 37 (DY x),AI x.a.p (rowsL Ah ps),AI x.b.p (rowsL BC ts),AI x.c.p (rowsL BC ss)]) h2) (E5.subL (L':=[la,Sl D,AI (some ⟨fa.b,0,none⟩) (DY x),AO b5 60 (AC (((1:Int):Rat)/((2:Int):Rat))),rowW none 75 11 0 0 (rowsL Ca ([])),AO b4 72 ([jj]),AO b3 62 (Ah b),AO b2 62 (Ah a),AO b1 37 (DY x),AI x.a.p (rowsL Ah ps),AI x.b.p (rowsL BC ts),AI x.c.p (rowsL BC ss)]) (xP _) (E5.subF (F':=[(24,(Value.func (.func 67) #[] #[(pP fa.b 0)])),(4,(pP b2 0)),(5,(pP b3 0)),(6,jj),(7,(pP b4 0)),(8,(pP b5 0))]) (sF O) (E5.seq (E5.region (λ_ _ h=>by cases h.1) O (BL 5 jj O4 O (ck' call40 (QY) O (oNl' (zB (sL [24,4,5,6,7,8] O) (yQ (E5.seq (E5.region (λ_ _ h=>by cases h.1) O ?_)))))))))))
   exact BL 5 jj O4 O (ck' call45 (OJ none 0 0 (Nat.le_refl _)) O (asg' O (oNl' (zB (sL [24,4,5,6,7,8] O) (yQ (E5.ret (R0 1 O (ret_one O (rd_tmp (v:=jj) O) (λw hw=>⟨rfl,hw.out⟩)))))))))
  ·exact hP.elim
end
end Go.Proofs.YtcpkbjjmcleplaaGreatDoor
