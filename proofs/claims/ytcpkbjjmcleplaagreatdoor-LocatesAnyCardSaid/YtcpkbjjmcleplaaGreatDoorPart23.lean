import Derived.Test.YtcpkbjjmcleplaaGreatDoorPart22
namespace Go.Proofs.YtcpkbjjmcleplaaGreatDoor
open Go Go.RowKit Go.Proofs.Tryz
open Go.Value renaming slice→qz,bool→qa
set_option linter.unusedVariables false
set_option linter.unusedSimpArgs false
section
set_option maxRecDepth 100000
theorem bA:ElemT prog 72 75 11 120:=⟨underlying72,DP jV⟩
theorem NT (p:Option Addr) (n cp:Nat) (h:n<=cp) (w:World)  :Calls prog 45 #[(qz p n cp)] w (AY w (qz p n n)):=by
 refine AS (args:=[(qz p n cp)]) func45 O O (leB O) (zG (sL [0] O) (q4 (asg' O (oNl' (q2 (AL O (AL O (st' (v:=(vN n)) (AD O underlying72) O (AL O (st' (v:=(vN n)) (AD O underlying72) O (st' (v:=(qz p n n)) (MM (m:=n) O O O underlying72 sizeOf75 Z) O ?_)))))))))))
 exact asg' O (oNl' (zB (sL [2] O) (zA (zF (ret_one O (rd_tmp (v:=(qz p n n)) O) (λw hw=>⟨rfl,hw.out⟩))))))
theorem DA (x0:Nat) (x1:Rat) (x2:Rat):Instr.fill ([(0,1),(1,5),(6,5)].toArray[·]?) ([(vI 0)]++AB (0:Rat)++AB (0:Rat)).toArray [(0,vN x0),(1,.agg (AB x1).toArray),(2,.agg (AB x2).toArray)]=some ([(vN x0)]++AB x1++AB x2).toArray:=by kernel_rfl
theorem Hb (x0:Pc):Instr.fill (λi=>some (i*11,11)) ((Array.range (1*11)).map ((Value.agg ([(vI 0)]++AB (0:Rat)++AB (0:Rat)).toArray).cells[·%(Value.agg ([(vI 0)]++AB (0:Rat)++AB (0:Rat)).toArray).cells.size]!)) [(0,.agg (CI x0).toArray)]=some (CI x0).toArray:=by kernel_rfl
set_option maxHeartbeats 2000000 in
theorem XL {ps:List Pt} {ts ss:List (Tq3)} (x:MX ps ts ss) (hl:ts.length<=1000) (a b:Pt) (hz:∀i,BD (BJ ps i)<=4) (sa:BD a<=6) (sb:BD b<=6) (hab:¬a=b) (hne:∀j,j<ts.length->AF (BJ ps (ts.getD j (0,0,0)).1) (BJ ps (ts.getD j (0,0,0)).2.1) (BJ ps (ts.getD j (0,0,0)).2.2)≠0) (p1 p2:Pc) (h2:BW ps ts a b (nB ps.length ts)=[p1,p2]) (hps:Sz p1.lo+Sz p2.lo<=1000000) (w:World) {S:Nat->Prop} (hx:Ro S w x):Calls prog 18 #[(aG (DM x)),(aG (Ae a)),(aG (Ae b))] w (Ai (RX (rowsL CI (Qy p1 p2)) 2) S w):=by
 have lx:=Bs (W:=w) hx
 refine FO (args:=[(aG (DM x)),(aG (Ae a)),(aG (Ae b))]) (L:=[AI x.a.p (rowsL Ae ps),AI x.b.p (rowsL Bk ts),AI x.c.p (rowsL Bk ss)]) func18 O O (leB O) (GN hx Al) (BL.subF (sL [0,1,2] O) (BL.seq (BL.region (λ_ _ h=>by obtain ⟨_,h,_⟩:=h;cases h) O (A9 (cs:=DM x) O λb1=>A9 (cs:=Ae a) O λb2=>A9 (cs:=Ae b) O λb3=>asg' O (oNl' (zB (sL [3,4,5,6] O) (zX (BL.seq ?_))))))))
 refine BL.region (λ_ _ h=>by obtain ⟨_,h,_⟩:=h;cases h) O (al ZF O λb4=>zk 75 11 (oNl' (zX (BL.seq (BL.seq (BL.region (λ_ _ h=>by obtain ⟨_,h,_⟩:=h;cases h) O (Ah 3 A_ O (Ah 2 A_ O (st' (Cg (c:=decide (a=b)) O O eqGuardType62 (Nc 9994 a b)) O (oNl' ?_))))))))))
 refine zB (sL [3,4,5,6,7,18] O) (zX ?_)
 refine BL.cond O (λhc0=>?_) (λhc0=>?_)
 ·replace hc0:=xR hc0
  exact absurd hc0 hab
 ·replace hc0:=xQ hc0
  refine BL.skip (zX (BL.seq (BL.region (λ_ _ h=>by obtain ⟨_,h,_⟩:=h;cases h) O (ck' call14 (JG (1:Int) (2:Int) Z Z Z Z Z) O (AL O (st' (AH (v:=(aG (AB (((1:Int):Rat)/((2:Int):Rat))))) O O) O (st' (AH (v:=(vI 0)) O O) O (al CZ O λb5=>Am O sizeOf60 O (asg' O (oNl' ?_))))))))))
  refine zB (sL [3,4,5,6,7,8] O) (zX (BL.seq (BL.seq (BL.region (λ_ _ h=>by obtain ⟨_,h,_⟩:=h;cases h) O (Ah 5 Fy O (zu (S:=S) (α:=CF 67 (DM x)) (args:=[(aG (DM x))]) call29 (λw hw=>P0 x w (inS hw 6 O lx)) O O O λfa lfa=>oNl' (zB (sL [4,5,6,7,8,24] O) (zX (BL.block (BL.subF (F':=[(24,(Value.func (.func 67) #[] #[(pP fa.b 0)])),(4,(pP b2 0)),(5,(pP b3 0)),(6,jj),(7,(pP b4 0)),(8,(pP b5 0))]) (sF O) ?_))))))))))
  refine BL.rangeFunc (σ:=Option Addr×Nat) O call67 O O ((nB ps.length ts)) (λt=>(vN t)) (λt=>(aG (GM (Bz ps (ts.getD t (0,0,0)))))) (λt s=>IS (BW ps ts a b t) s) (λt s=>False) (λt s=>[AI (some ⟨fa.b,0,none⟩) (DM x),AQ b5 60 (AB (((1:Int):Rat)/((2:Int):Rat))),rowW s.1 75 11 ((BW ps ts a b t).length) s.2 (rowsL CI (BW ps ts a b t)),AQ b4 72 ([(qz s.1 ((BW ps ts a b t).length) s.2)]),AQ b3 62 (Ae b),AQ b2 62 (Ae a),AQ b1 37 (DM x),AI x.a.p (rowsL Ae ps),AI x.b.p (rowsL Bk ts),AI x.c.p (rowsL Bk ss)]) (λt s=>[]) (none,0) sr ⟨OwnOk.none,λ_=>rfl⟩ (λl J X W hJ hL h0=>NM x Z fa.bx l J X hL (λt W h=>by obtain ⟨s,_,hw⟩:=hJ t W h;exact ⟨Ro.top (inS hw 0 O lfa:Ro _ _ fa),Ro.top (inS hw 7 O lx)⟩) W h0) (λl la1 la2 da t s ht hP K hK=>?_) (λla D s hP=>?_) (λla D t s hP=>?_)
  ·obtain ⟨hnb,hti⟩:=Rx ht
   have hrl:=GC (ps:=ps) (ts:=ts) (a:=a) (b:=b) t
   obtain ⟨sv,hsv⟩:∃s,s=Bb (Bz ps (ts.getD t (0,0,0))) a b:=⟨_,rfl⟩
   have hsz:Sz sv.1<=400/\Sz sv.2.1<=400:=by rw [hsv];exact I2 (c:=Bz ps (ts.getD t (0,0,0))) (hne t hti) (xK (hz _) jY) (xK (hz _) jY) (xK (hz _) jY) sa sb
   have hhf:Sz (((1:Int):Rat)/((2:Int):Rat))<=2:=by decide +kernel
   obtain ⟨z1,z2⟩:=hsz
   refine BL.subF (F':=[(26,(aG (GM (Bz ps (ts.getD t (0,0,0)))))),(25,(vN t)),(24,(Value.func (.func 67) #[] #[(pP fa.b 0)])),(4,(pP b2 0)),(5,(pP b3 0)),(6,jj),(7,(pP b4 0)),(8,(pP b5 0))]) (sF O) (BL.subL (L':=[la1,da,AI (some ⟨fa.b,0,none⟩) (DM x),AQ b5 60 (AB (((1:Int):Rat)/((2:Int):Rat))),rowW s.1 75 11 ((BW ps ts a b t).length) s.2 (rowsL CI (BW ps ts a b t)),AQ b4 72 ([(qz s.1 ((BW ps ts a b t).length) s.2)]),AQ b3 62 (Ae b),AQ b2 62 (Ae a),AQ b1 37 (DM x),AI x.a.p (rowsL Ae ps),AI x.b.p (rowsL Bk ts),AI x.c.p (rowsL Bk ss)]) (xP _) (BL.seq (BL.region (λ_ _ h=>h) O (asg' O (oNl' (zX (BL.region (λ_ _ h=>h) O (al PW O λb6=>Am O sizeOf108 O (oNl' ?_)))))))))
   refine yL (hK 1 _ _ O ?_)
   refine BL.subL (L':=[AQ b6 108 (GM (Bz ps (ts.getD t (0,0,0)))),la2,da,AI (some ⟨fa.b,0,none⟩) (DM x),AQ b5 60 (AB (((1:Int):Rat)/((2:Int):Rat))),rowW s.1 75 11 ((BW ps ts a b t).length) s.2 (rowsL CI (BW ps ts a b t)),AQ b4 72 ([(qz s.1 ((BW ps ts a b t).length) s.2)]),AQ b3 62 (Ae b),AQ b2 62 (Ae a),AQ b1 37 (DM x),AI x.a.p (rowsL Ae ps),AI x.b.p (rowsL Bk ts),AI x.c.p (rowsL Bk ss)]) (xP _) (BL.block (BL.seq (BL.region (λ_ _ h=>h) O (Ah 0 Wj O (Ah 8 A_ O (Ah 7 A_ O (CC (args:=[(aG (GM (Bz ps (ts.getD t (0,0,0))))),(aG (Ae a)),(aG (Ae b))]) (v:=(Value.tuple #[(aG (AB sv.1)),(aG (AB sv.2.1)),(qa sv.2.2)])) call35 (λw hw=>(by rw [hsv];exact (Ld (BJ ps (ts.getD t (0,0,0)).1) (BJ ps (ts.getD t (0,0,0)).2.1) (BJ ps (ts.getD t (0,0,0)).2.2) a b (by have:=hz (ts.getD t (0,0,0)).1;omega) (by have:=hz (ts.getD t (0,0,0)).2.1;omega) (by have:=hz (ts.getD t (0,0,0)).2.2;omega) sa sb (hne t hti) w))) O (AL O (st' (AH (v:=(aG (AB sv.1))) O O) O (st' (AH (v:=(aG (AB sv.2.1))) O O) O (st' (AH (v:=(qa sv.2.2)) O O) O ?_)))))))))))
   refine al CZ O λb7=>al CZ O λb8=>DG O sizeOf60 O (Am O sizeOf60 O (asg' O (oNl' (zX (BL.seq (BL.seq (BL.region (λ_ _ h=>h) O (AL O (st' (Bh (c:=(!sv.2.2)) O O) O ?_)))))))))
   refine oNl' (zX ?_)
   refine BL.cond O (λhc1=>?_) (λhc1=>?_)
   ·simp only [jK] at hc1
    replace hc1:sv.2.2=false:=by simpa using hc1
    have e:=LT hsv hc1
    refine BL.exit (zO (zR ?_))
    rw [<-e]
    exact yP s (by show IS (BW ps ts a b (t+1)) s;rw [e];exact hP) (sl (sl (sl sr)))
   ·simp only [jK] at hc1
    replace hc1:sv.2.2=true:=by simpa using hc1
    refine BL.skip (zX (BL.seq (iN [(0,true),(1,true),(2,true),(4,true),(5,true),(6,true),(3,false),(7,false),(8,false),(9,false),(10,false)] [⟨11,15,62,Ae (⟨0,0⟩:Pt)⟩] [(12,false)] sr jV (λ_ _ d _ _ h=>by cases d<;>exact h) (FY O O E6 O (Fj)) O (λ_ _ h=>h) O (EI 10 A_ O (EI 9 A_ O (EI 10 A_ O (EI 6 Ay O (EI 1 Ay O (EI 0 Ay O (ze O λEF EL=>?_))))))))))
    have hz1:=Bi b a
    refine ck' call38 (Ho b a Z) O (zd sr O (ze O λEF EL=>?_))
    have hz2:=DY sv.1 sv.2.1
    refine ck' call31 (Ga sv.1 sv.2.1 (by (try simp only [BE]);omega)) O (zd sr O (ze O λEF EL=>?_))
    have hz3:=CU (((1:Int):Rat)/((2:Int):Rat)) (sv.1+sv.2.1)
    refine ck' call39 (E_ (((1:Int):Rat)/((2:Int):Rat)) (sv.1+sv.2.1) (by (try simp only [BE]);omega)) O (zd sr O (ze O λEF EL=>?_))
    have hz4:=Ef (b-a) ((((1:Int):Rat)/((2:Int):Rat))*(sv.1+sv.2.1))
    refine ck' call37 (JS (b-a) ((((1:Int):Rat)/((2:Int):Rat))*(sv.1+sv.2.1)) Z) O (zd sr O (ze O λEF EL=>?_))
    have hz5:=GP a (Bg (b-a) ((((1:Int):Rat)/((2:Int):Rat))*(sv.1+sv.2.1)))
    refine ck' call36 (Nq a (Bg (b-a) ((((1:Int):Rat)/((2:Int):Rat))*(sv.1+sv.2.1))) Z) O (zd sr O (zm λb9=>zD O (Am O sizeOf62 O (zC (sl sr) (zP (zX (BL.seq (BL.region (λ_ _ h=>h) O (st' (v:=(pP b6 0)) (AC (j:=0) O O underlying108 sizeOf62 O jY O) O (Br 3 (Ae ((Bz ps (ts.getD t (0,0,0))).1)) A_ O ?_))))))))))
    refine st' (v:=(pP b6 10)) (AC (j:=1) O O underlying108 sizeOf62 O jY O) O (Br 3 (Ae ((Bz ps (ts.getD t (0,0,0))).2.1)) A_ O (st' (v:=(pP b6 20)) (AC (j:=2) O O underlying108 sizeOf62 O jY O) O (Br 3 (Ae ((Bz ps (ts.getD t (0,0,0))).2.2)) A_ O (Ah 0 A_ O (ck' call30 (F1 (BJ ps (ts.getD t (0,0,0)).1) (BJ ps (ts.getD t (0,0,0)).2.1) (BJ ps (ts.getD t (0,0,0)).2.2) (F9 a b sv.1 sv.2.1) (by have z1:=hz (ts.getD t (0,0,0)).1;have z2:=hz (ts.getD t (0,0,0)).2.1;have z3:=hz (ts.getD t (0,0,0)).2.2;unfold F9;omega)) O (st' (Az (c:=(decide ((BR ps (F9 a b sv.1 sv.2.1) (ts.getD t (0,0,0)))=1))) O O (OI (a:=BR ps (F9 a b sv.1 sv.2.1) (ts.getD t (0,0,0))) (b:=1))) O (oNl' (zX ?_))))))))
    refine BL.cond O (λhc2=>?_) (λhc2=>?_)
    ·replace hc2:=xR hc2
     have e:=Ny hsv hc1 hc2
     refine BL.region (λ_ _ h=>h) O (BZ 9 (qz s.1 ((BW ps ts a b t).length) s.2) N5 O (AL O (Ah 2 Ay O (Ah 1 Ay O (st' (v:=(aG ([(vN t)]++AB sv.1++AB sv.2.1))) (AR (zs:=[(vI 0)]++AB (0:Rat)++AB (0:Rat)) (vs:=[(vN t)]++AB sv.1++AB sv.2.1) (pv:=[(0,(vN t)),(1,(aG (AB sv.1))),(2,(aG (AB sv.2.1)))]) (places:=[(0,1),(1,5),(6,5)]) zeroValue75 underlying75 (λw=>by simp [sizeOf3,sizeOf60]) O (DA t sv.1 sv.2.1)) O (zf (V:=λb10=>(qz (jk b10) 1 1)) (T:=75) (cs:=CI (⟨t,sv.1,sv.2.1⟩:Pc)) (AJ O) (Ar (z:=.agg ([(vI 0)]++AB (0:Rat)++AB (0:Rat)).toArray) (cs:=CI (⟨t,sv.1,sv.2.1⟩:Pc)) (pv:=[(0,(aG ([(vN t)]++AB sv.1++AB sv.2.1)))]) underlying72 sizeOf75 zeroValue75 jY jY O (Hb (⟨t,sv.1,sv.2.1⟩:Pc))) O (leB O) λb10=>yF 9 (j:=0) (cs2:=rowsL CI ((BW ps ts a b t)++[(⟨t,sv.1,sv.2.1⟩:Pc)])) bA O hP.1 (AV C5 _) O O O O O jY (G8 Z) Z (by rw [BM];rfl) O λp_1 c_1 ho_1 hne_1=>EV 10 (off:=0) (vs:=[(qz p_1 (((BW ps ts a b t).length)+1) c_1)]) (cs':=[(qz p_1 (((BW ps ts a b t).length)+1) c_1)]) (AJ O) O sizeOf72 O (oNl' (zM ?_))))))))
     rw [show (BW ps ts a b t).length+1=(BW ps ts a b t++[(⟨t,sv.1,sv.2.1⟩:Pc)]).length by simp,<-e]
     exact yP (p_1,c_1) (IS.more e ho_1) (sl (sl (sl (sl (sl sr)))))
    ·replace hc2:=xQ hc2
     have e:=LS hsv hc1 hc2
     refine BL.skip (zM ?_)
     rw [<-e]
     exact yP s (by show IS (BW ps ts a b (t+1)) s;rw [e];exact hP) (sl (sl (sl (sl sr))))
  ·refine Eb.behind ?_
   obtain ⟨p0,c0⟩:=s
   have ho:OwnOk p0 2 c0:=by have h9:OwnOk p0 (BW ps ts a b (nB ps.length ts)).length c0:=hP.1;rw [h2] at h9;exact h9
   obtain ⟨g,rfl⟩:=Vw ho jY
   refine Eb.castL (congrArg (λq:List Pc=>[la,Ra D,AI (some ⟨fa.b,0,none⟩) (DM x),AQ b5 60 (AB (((1:Int):Rat)/((2:Int):Rat))),rowW (jk g) 75 11 q.length c0 (rowsL CI q),AQ b4 72 ([(qz (jk g) q.length c0)]),AQ b3 62 (Ae b),AQ b2 62 (Ae a),AQ b1 37 (DM x),AI x.a.p (rowsL Ae ps),AI x.b.p (rowsL Bk ts),AI x.c.p (rowsL Bk ss)]) h2) (Eb.subL (L':=[la,Ra D,AI (some ⟨fa.b,0,none⟩) (DM x),AQ b5 60 (AB (((1:Int):Rat)/((2:Int):Rat))),rowW (jk g) 75 11 2 c0 (rowsL CI ([p1,p2])),AQ b4 72 ([(qz (jk g) 2 c0)]),AQ b3 62 (Ae b),AQ b2 62 (Ae a),AQ b1 37 (DM x),AI x.a.p (rowsL Ae ps),AI x.b.p (rowsL Bk ts),AI x.c.p (rowsL Bk ss)]) (xP _) (Eb.subF (F':=[(24,(Value.func (.func 67) #[] #[(pP fa.b 0)])),(4,(pP b2 0)),(5,(pP b3 0)),(6,jj),(7,(pP b4 0)),(8,(pP b5 0))]) (sF O) (Eb.seq (Eb.region (λ_ _ h=>by obtain ⟨_,h,_⟩:=h;cases h) O (BZ 5 (qz (jk g) 2 c0) N5 O (AO.unrow 4 O λtl=>yT (L':=[la,Ra D,AI (some ⟨fa.b,0,none⟩) (DM x),AQ b5 60 (AB (((1:Int):Rat)/((2:Int):Rat))),AQ g 75 (CI p1++(CI p2++tl)),AQ b4 72 ([(qz (jk g) 2 c0)]),AQ b3 62 (Ae b),AQ b2 62 (Ae a),AQ b1 37 (DM x),AI x.a.p (rowsL Ae ps),AI x.b.p (rowsL Bk ts),AI x.c.p (rowsL Bk ss)]) (xP _) (yZ (v:=(Value.tuple #[])) (i:=4) (cs':=II p1 p2 tl) (L':=[la,Ra D,AI (some ⟨fa.b,0,none⟩) (DM x),AQ b5 60 (AB (((1:Int):Rat)/((2:Int):Rat))),AQ g 75 (II p1 p2 tl),AQ b4 72 ([(qz (jk g) 2 c0)]),AQ b3 62 (Ae b),AQ b2 62 (Ae a),AQ b1 37 (DM x),AI x.a.p (rowsL Ae ps),AI x.b.p (rowsL Bk ts),AI x.c.p (rowsL Bk ss)]) (AJ O) (Ac (args:=[(qz (jk g) 2 c0),(Value.func (.func 41) #[] #[])]) O O call40) O (λw hw=>WW p1 p2 tl c0 _ ho.le hps w (hw.get (i:=4) O)) (λd hd=>by cases hd<;>exact (leB O)) O (oNl' (zB (sL [24,4,5,6,7,8] O) (yM ?_))))))))))
   exact Eb.seq (Eb.region (λ_ _ h=>by obtain ⟨_,h,_⟩:=h;cases h) O (BZ 5 (qz (jk g) 2 c0) N5 O (ck' call45 (NT (jk g) 2 c0 ho.le) O (asg' O (oNl' (zB (sL [24,4,5,6,7,8] O) (yM (Eb.ret (Qo 1 O (ret_one O (rd_tmp (v:=(qz (jk g) 2 2)) O) (λw hw=>(eo hw 4 O))))))))))))
  ·exact hP.elim
set_option maxHeartbeats 2000000 in
theorem XK {ps:List Pt} {ts ss:List (Tq3)} (x:MX ps ts ss) (hl:ts.length<=1000) (a b:Pt) (hz:∀i,BD (BJ ps i)<=4) (sa:BD a<=6) (sb:BD b<=6) (hab:¬a=b) (hne:∀j,j<ts.length->AF (BJ ps (ts.getD j (0,0,0)).1) (BJ ps (ts.getD j (0,0,0)).2.1) (BJ ps (ts.getD j (0,0,0)).2.2)≠0) (h2:BW ps ts a b (nB ps.length ts)=[]) (w:World) {S:Nat->Prop} (hx:Ro S w x):Calls prog 18 #[(aG (DM x)),(aG (Ae a)),(aG (Ae b))] w (AY w jj):=by
 have lx:=Bs (W:=w) hx
 refine FO (args:=[(aG (DM x)),(aG (Ae a)),(aG (Ae b))]) (L:=[AI x.a.p (rowsL Ae ps),AI x.b.p (rowsL Bk ts),AI x.c.p (rowsL Bk ss)]) func18 O O (leB O) (GN hx Al) (BL.subF (sL [0,1,2] O) (BL.seq (BL.region (λ_ _ h=>by cases h.1) O (A9 (cs:=DM x) O λb1=>A9 (cs:=Ae a) O λb2=>A9 (cs:=Ae b) O λb3=>asg' O (oNl' (zB (sL [3,4,5,6] O) (zX (BL.seq ?_))))))))
 refine BL.region (λ_ _ h=>by cases h.1) O (al ZF O λb4=>zk 75 11 (oNl' (zX (BL.seq (BL.seq (BL.region (λ_ _ h=>by cases h.1) O (Ah 3 A_ O (Ah 2 A_ O (st' (Cg (c:=decide (a=b)) O O eqGuardType62 (Nc 9994 a b)) O (oNl' ?_))))))))))
 refine zB (sL [3,4,5,6,7,18] O) (zX ?_)
 refine BL.cond O (λhc0=>?_) (λhc0=>?_)
 ·replace hc0:=xR hc0
  exact absurd hc0 hab
 ·replace hc0:=xQ hc0
  refine BL.skip (zX (BL.seq (BL.region (λ_ _ h=>by cases h.1) O (ck' call14 (JG (1:Int) (2:Int) Z Z Z Z Z) O (AL O (st' (AH (v:=(aG (AB (((1:Int):Rat)/((2:Int):Rat))))) O O) O (st' (AH (v:=(vI 0)) O O) O (al CZ O λb5=>Am O sizeOf60 O (asg' O (oNl' ?_))))))))))
  refine zB (sL [3,4,5,6,7,8] O) (zX (BL.seq (BL.seq (BL.region (λ_ _ h=>by cases h.1) O (Ah 5 Fy O (zu (S:=S) (α:=CF 67 (DM x)) (args:=[(aG (DM x))]) call29 (λw hw=>P0 x w (inS hw 6 O lx)) O O O λfa lfa=>oNl' (zB (sL [4,5,6,7,8,24] O) (zX (BL.block (BL.subF (F':=[(24,(Value.func (.func 67) #[] #[(pP fa.b 0)])),(4,(pP b2 0)),(5,(pP b3 0)),(6,jj),(7,(pP b4 0)),(8,(pP b5 0))]) (sF O) ?_))))))))))
  refine BL.rangeFunc (σ:=Option Addr×Nat) O call67 O O ((nB ps.length ts)) (λt=>(vN t)) (λt=>(aG (GM (Bz ps (ts.getD t (0,0,0)))))) (λt s=>IS (BW ps ts a b t) s) (λt s=>False) (λt s=>[AI (some ⟨fa.b,0,none⟩) (DM x),AQ b5 60 (AB (((1:Int):Rat)/((2:Int):Rat))),rowW s.1 75 11 ((BW ps ts a b t).length) s.2 (rowsL CI (BW ps ts a b t)),AQ b4 72 ([(qz s.1 ((BW ps ts a b t).length) s.2)]),AQ b3 62 (Ae b),AQ b2 62 (Ae a),AQ b1 37 (DM x),AI x.a.p (rowsL Ae ps),AI x.b.p (rowsL Bk ts),AI x.c.p (rowsL Bk ss)]) (λt s=>[]) (none,0) sr ⟨OwnOk.none,λ_=>rfl⟩ (λl J X W hJ hL h0=>NM x Z fa.bx l J X hL (λt W h=>by obtain ⟨s,_,hw⟩:=hJ t W h;exact ⟨Ro.top (inS hw 0 O lfa:Ro _ _ fa),Ro.top (inS hw 7 O lx)⟩) W h0) (λl la1 la2 da t s ht hP K hK=>?_) (λla D s hP=>?_) (λla D t s hP=>?_)
  ·obtain ⟨hnb,hti⟩:=Rx ht
   have hrl:=GC (ps:=ps) (ts:=ts) (a:=a) (b:=b) t
   obtain ⟨sv,hsv⟩:∃s,s=Bb (Bz ps (ts.getD t (0,0,0))) a b:=⟨_,rfl⟩
   have hsz:Sz sv.1<=400/\Sz sv.2.1<=400:=by rw [hsv];exact I2 (c:=Bz ps (ts.getD t (0,0,0))) (hne t hti) (xK (hz _) jY) (xK (hz _) jY) (xK (hz _) jY) sa sb
   have hhf:Sz (((1:Int):Rat)/((2:Int):Rat))<=2:=by decide +kernel
   obtain ⟨z1,z2⟩:=hsz
   refine BL.subF (F':=[(26,(aG (GM (Bz ps (ts.getD t (0,0,0)))))),(25,(vN t)),(24,(Value.func (.func 67) #[] #[(pP fa.b 0)])),(4,(pP b2 0)),(5,(pP b3 0)),(6,jj),(7,(pP b4 0)),(8,(pP b5 0))]) (sF O) (BL.subL (L':=[la1,da,AI (some ⟨fa.b,0,none⟩) (DM x),AQ b5 60 (AB (((1:Int):Rat)/((2:Int):Rat))),rowW s.1 75 11 ((BW ps ts a b t).length) s.2 (rowsL CI (BW ps ts a b t)),AQ b4 72 ([(qz s.1 ((BW ps ts a b t).length) s.2)]),AQ b3 62 (Ae b),AQ b2 62 (Ae a),AQ b1 37 (DM x),AI x.a.p (rowsL Ae ps),AI x.b.p (rowsL Bk ts),AI x.c.p (rowsL Bk ss)]) (xP _) (BL.seq (BL.region (λ_ _ h=>h) O (asg' O (oNl' (zX (BL.region (λ_ _ h=>h) O (al PW O λb6=>Am O sizeOf108 O (oNl' ?_)))))))))
   refine yL (hK 1 _ _ O ?_)
   refine BL.subL (L':=[AQ b6 108 (GM (Bz ps (ts.getD t (0,0,0)))),la2,da,AI (some ⟨fa.b,0,none⟩) (DM x),AQ b5 60 (AB (((1:Int):Rat)/((2:Int):Rat))),rowW s.1 75 11 ((BW ps ts a b t).length) s.2 (rowsL CI (BW ps ts a b t)),AQ b4 72 ([(qz s.1 ((BW ps ts a b t).length) s.2)]),AQ b3 62 (Ae b),AQ b2 62 (Ae a),AQ b1 37 (DM x),AI x.a.p (rowsL Ae ps),AI x.b.p (rowsL Bk ts),AI x.c.p (rowsL Bk ss)]) (xP _) (BL.block (BL.seq (BL.region (λ_ _ h=>h) O (Ah 0 Wj O (Ah 8 A_ O (Ah 7 A_ O (CC (args:=[(aG (GM (Bz ps (ts.getD t (0,0,0))))),(aG (Ae a)),(aG (Ae b))]) (v:=(Value.tuple #[(aG (AB sv.1)),(aG (AB sv.2.1)),(qa sv.2.2)])) call35 (λw hw=>(by rw [hsv];exact (Ld (BJ ps (ts.getD t (0,0,0)).1) (BJ ps (ts.getD t (0,0,0)).2.1) (BJ ps (ts.getD t (0,0,0)).2.2) a b (by have:=hz (ts.getD t (0,0,0)).1;omega) (by have:=hz (ts.getD t (0,0,0)).2.1;omega) (by have:=hz (ts.getD t (0,0,0)).2.2;omega) sa sb (hne t hti) w))) O (AL O (st' (AH (v:=(aG (AB sv.1))) O O) O (st' (AH (v:=(aG (AB sv.2.1))) O O) O (st' (AH (v:=(qa sv.2.2)) O O) O ?_)))))))))))
   refine al CZ O λb7=>al CZ O λb8=>DG O sizeOf60 O (Am O sizeOf60 O (asg' O (oNl' (zX (BL.seq (BL.seq (BL.region (λ_ _ h=>h) O (AL O (st' (Bh (c:=(!sv.2.2)) O O) O ?_)))))))))
   refine oNl' (zX ?_)
   refine BL.cond O (λhc1=>?_) (λhc1=>?_)
   ·simp only [jK] at hc1
    replace hc1:sv.2.2=false:=by simpa using hc1
    have e:=LT hsv hc1
    refine BL.exit (zO (zR ?_))
    rw [<-e]
    exact yP s (by show IS (BW ps ts a b (t+1)) s;rw [e];exact hP) (sl (sl (sl sr)))
   ·simp only [jK] at hc1
    replace hc1:sv.2.2=true:=by simpa using hc1
    refine BL.skip (zX (BL.seq (iN [(0,true),(1,true),(2,true),(4,true),(5,true),(6,true),(3,false),(7,false),(8,false),(9,false),(10,false)] [⟨11,15,62,Ae (⟨0,0⟩:Pt)⟩] [(12,false)] sr jV (λ_ _ d _ _ h=>by cases d<;>exact h) (FY O O E6 O (Fj)) O (λ_ _ h=>h) O (EI 10 A_ O (EI 9 A_ O (EI 10 A_ O (EI 6 Ay O (EI 1 Ay O (EI 0 Ay O (ze O λEF EL=>?_))))))))))
    have hz1:=Bi b a
    refine ck' call38 (Ho b a Z) O (zd sr O (ze O λEF EL=>?_))
    have hz2:=DY sv.1 sv.2.1
    refine ck' call31 (Ga sv.1 sv.2.1 (by (try simp only [BE]);omega)) O (zd sr O (ze O λEF EL=>?_))
    have hz3:=CU (((1:Int):Rat)/((2:Int):Rat)) (sv.1+sv.2.1)
    refine ck' call39 (E_ (((1:Int):Rat)/((2:Int):Rat)) (sv.1+sv.2.1) (by (try simp only [BE]);omega)) O (zd sr O (ze O λEF EL=>?_))
    have hz4:=Ef (b-a) ((((1:Int):Rat)/((2:Int):Rat))*(sv.1+sv.2.1))
    refine ck' call37 (JS (b-a) ((((1:Int):Rat)/((2:Int):Rat))*(sv.1+sv.2.1)) Z) O (zd sr O (ze O λEF EL=>?_))
    have hz5:=GP a (Bg (b-a) ((((1:Int):Rat)/((2:Int):Rat))*(sv.1+sv.2.1)))
    refine ck' call36 (Nq a (Bg (b-a) ((((1:Int):Rat)/((2:Int):Rat))*(sv.1+sv.2.1))) Z) O (zd sr O (zm λb9=>zD O (Am O sizeOf62 O (zC (sl sr) (zP (zX (BL.seq (BL.region (λ_ _ h=>h) O (st' (v:=(pP b6 0)) (AC (j:=0) O O underlying108 sizeOf62 O jY O) O (Br 3 (Ae ((Bz ps (ts.getD t (0,0,0))).1)) A_ O ?_))))))))))
    refine st' (v:=(pP b6 10)) (AC (j:=1) O O underlying108 sizeOf62 O jY O) O (Br 3 (Ae ((Bz ps (ts.getD t (0,0,0))).2.1)) A_ O (st' (v:=(pP b6 20)) (AC (j:=2) O O underlying108 sizeOf62 O jY O) O (Br 3 (Ae ((Bz ps (ts.getD t (0,0,0))).2.2)) A_ O (Ah 0 A_ O (ck' call30 (F1 (BJ ps (ts.getD t (0,0,0)).1) (BJ ps (ts.getD t (0,0,0)).2.1) (BJ ps (ts.getD t (0,0,0)).2.2) (F9 a b sv.1 sv.2.1) (by have z1:=hz (ts.getD t (0,0,0)).1;have z2:=hz (ts.getD t (0,0,0)).2.1;have z3:=hz (ts.getD t (0,0,0)).2.2;unfold F9;omega)) O (st' (Az (c:=(decide ((BR ps (F9 a b sv.1 sv.2.1) (ts.getD t (0,0,0)))=1))) O O (OI (a:=BR ps (F9 a b sv.1 sv.2.1) (ts.getD t (0,0,0))) (b:=1))) O (oNl' (zX ?_))))))))
    refine BL.cond O (λhc2=>?_) (λhc2=>?_)
    ·replace hc2:=xR hc2
     have e:=Ny hsv hc1 hc2
     refine BL.region (λ_ _ h=>h) O (BZ 9 (qz s.1 ((BW ps ts a b t).length) s.2) N5 O (AL O (Ah 2 Ay O (Ah 1 Ay O (st' (v:=(aG ([(vN t)]++AB sv.1++AB sv.2.1))) (AR (zs:=[(vI 0)]++AB (0:Rat)++AB (0:Rat)) (vs:=[(vN t)]++AB sv.1++AB sv.2.1) (pv:=[(0,(vN t)),(1,(aG (AB sv.1))),(2,(aG (AB sv.2.1)))]) (places:=[(0,1),(1,5),(6,5)]) zeroValue75 underlying75 (λw=>by simp [sizeOf3,sizeOf60]) O (DA t sv.1 sv.2.1)) O (zf (V:=λb10=>(qz (jk b10) 1 1)) (T:=75) (cs:=CI (⟨t,sv.1,sv.2.1⟩:Pc)) (AJ O) (Ar (z:=.agg ([(vI 0)]++AB (0:Rat)++AB (0:Rat)).toArray) (cs:=CI (⟨t,sv.1,sv.2.1⟩:Pc)) (pv:=[(0,(aG ([(vN t)]++AB sv.1++AB sv.2.1)))]) underlying72 sizeOf75 zeroValue75 jY jY O (Hb (⟨t,sv.1,sv.2.1⟩:Pc))) O (leB O) λb10=>yF 9 (j:=0) (cs2:=rowsL CI ((BW ps ts a b t)++[(⟨t,sv.1,sv.2.1⟩:Pc)])) bA O hP.1 (AV C5 _) O O O O O jY (G8 Z) Z (by rw [BM];rfl) O λp_1 c_1 ho_1 hne_1=>EV 10 (off:=0) (vs:=[(qz p_1 (((BW ps ts a b t).length)+1) c_1)]) (cs':=[(qz p_1 (((BW ps ts a b t).length)+1) c_1)]) (AJ O) O sizeOf72 O (oNl' (zM ?_))))))))
     rw [show (BW ps ts a b t).length+1=(BW ps ts a b t++[(⟨t,sv.1,sv.2.1⟩:Pc)]).length by simp,<-e]
     exact yP (p_1,c_1) (IS.more e ho_1) (sl (sl (sl (sl (sl sr)))))
    ·replace hc2:=xQ hc2
     have e:=LS hsv hc1 hc2
     refine BL.skip (zM ?_)
     rw [<-e]
     exact yP s (by show IS (BW ps ts a b (t+1)) s;rw [e];exact hP) (sl (sl (sl (sl sr))))
  ·refine Eb.behind ?_
   obtain rfl:=hP.2 h2
   refine Eb.castL (congrArg (λq:List Pc=>[la,Ra D,AI (some ⟨fa.b,0,none⟩) (DM x),AQ b5 60 (AB (((1:Int):Rat)/((2:Int):Rat))),rowW none 75 11 q.length 0 (rowsL CI q),AQ b4 72 ([(qz none q.length 0)]),AQ b3 62 (Ae b),AQ b2 62 (Ae a),AQ b1 37 (DM x),AI x.a.p (rowsL Ae ps),AI x.b.p (rowsL Bk ts),AI x.c.p (rowsL Bk ss)]) h2) (Eb.subL (L':=[la,Ra D,AI (some ⟨fa.b,0,none⟩) (DM x),AQ b5 60 (AB (((1:Int):Rat)/((2:Int):Rat))),rowW none 75 11 0 0 (rowsL CI ([])),AQ b4 72 ([jj]),AQ b3 62 (Ae b),AQ b2 62 (Ae a),AQ b1 37 (DM x),AI x.a.p (rowsL Ae ps),AI x.b.p (rowsL Bk ts),AI x.c.p (rowsL Bk ss)]) (xP _) (Eb.subF (F':=[(24,(Value.func (.func 67) #[] #[(pP fa.b 0)])),(4,(pP b2 0)),(5,(pP b3 0)),(6,jj),(7,(pP b4 0)),(8,(pP b5 0))]) (sF O) (Eb.seq (Eb.region (λ_ _ h=>by cases h.1) O (BZ 5 jj N5 O (ck' call40 (PQ) O (oNl' (zB (sL [24,4,5,6,7,8] O) (yM (Eb.seq (Eb.region (λ_ _ h=>by cases h.1) O ?_)))))))))))
   exact BZ 5 jj N5 O (ck' call45 (NT none 0 0 (Nat.le_refl _)) O (asg' O (oNl' (zB (sL [24,4,5,6,7,8] O) (yM (Eb.ret (Qo 1 O (ret_one O (rd_tmp (v:=jj) O) (λw hw=>⟨rfl,hw.out⟩)))))))))
  ·exact hP.elim
end
end Go.Proofs.YtcpkbjjmcleplaaGreatDoor
