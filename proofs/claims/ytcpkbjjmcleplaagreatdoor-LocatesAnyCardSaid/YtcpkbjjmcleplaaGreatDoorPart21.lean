import Derived.Test.YtcpkbjjmcleplaaGreatDoorPart20
namespace Go.Proofs.YtcpkbjjmcleplaaGreatDoor
open Go Go.RowKit Go.Proofs.Tryz
open Go.Value renaming slice→qz,bool→qa
set_option linter.unusedVariables false
set_option linter.unusedSimpArgs false
section
theorem GQ (a b:Rat):Sz (a/b)<=Sz a+Sz b:=by
  by_cases h:b=0
  · subst h
    rw [show a/0=0 by rw [Rat.div_def,Rat.inv_zero,Rat.mul_zero]]
    have h1:Sz 0<=1:=by decide +kernel
    have h2:=NL a
    omega
  · exact HA h
def Hv (x y:Rat):Rat:=if BK x y<0 then y else x
theorem UW {x y:Rat} {k:Nat} (h1:Sz x<=k) (h2:Sz y<=k):Sz (Hv x y)<=k:=by unfold Hv;split<;>assumption
def CB (u v:Rat) (s:Rat×Rat):Rat×Rat :=
  if (v-u).num.sign=1 then (Hv s.1 (-u/(v-u)),s.2) else if (v-u).num.sign = -1 then (s.1,-Hv (-s.2) (-(-u/(v-u)))) else s
def De (u v:Rat):Bool:=!decide ((v-u).num.sign=1)&&!decide ((v-u).num.sign = -1)&&decide (u.num.sign<0)
section
variable {u v f t:Rat}
theorem Q4 (h:(v-u).num.sign=1):(Hv f (-u/(v-u)),t)=CB u v (f,t):=by rw [CB,if_pos h]
theorem Q2 (h:(v-u).num.sign = -1):(f,-Hv (-t) (-(-u/(v-u))))=CB u v (f,t):=by rw [CB,if_neg (by rw [h];decide),if_pos h]
theorem N3 (h1:¬(v-u).num.sign=1) (h2:¬(v-u).num.sign = -1):(f,t)=CB u v (f,t):=by rw [CB,if_neg h1,if_neg h2]
theorem NQ (h:(v-u).num.sign=1):De u v=false:=by simp [De,h]
theorem NO (h:(v-u).num.sign = -1):De u v=false:=by simp [De,h]
theorem P5 (h:¬u.num.sign<0):De u v=false:=by rw [De,xz h,Bool.and_false]
theorem NR (h1:¬(v-u).num.sign=1) (h2:¬(v-u).num.sign = -1) (h3:u.num.sign<0):De u v=true:=by rw [De,xz h1,xz h2,xE h3];rfl
end
def Bo (u0 v0 u1 v1 u2 v2:Rat):Rat×Rat×Bool :=
  if De u0 v0=true then (0,1,false) else
  if De u1 v1=true then ((CB u0 v0 (0,1)).1,(CB u0 v0 (0,1)).2,false) else
  if De u2 v2=true then ((CB u1 v1 (CB u0 v0 (0,1))).1,(CB u1 v1 (CB u0 v0 (0,1))).2,false) else
  ((CB u2 v2 (CB u1 v1 (CB u0 v0 (0,1)))).1,(CB u2 v2 (CB u1 v1 (CB u0 v0 (0,1)))).2,decide (BK (CB u2 v2 (CB u1 v1 (CB u0 v0 (0,1)))).1 (CB u2 v2 (CB u1 v1 (CB u0 v0 (0,1)))).2<0))
section
variable {u0 v0 u1 v1 u2 v2 f0 t0 f1 t1 f2 t2:Rat}
theorem Y8 (h0:De u0 v0=true):Bo u0 v0 u1 v1 u2 v2=(0,1,false):=by rw [Bo,if_pos h0]
theorem Y9 (h0:De u0 v0=false) (e0:(f0,t0)=CB u0 v0 (0,1)) (h1:De u1 v1=true):Bo u0 v0 u1 v1 u2 v2=(f0,t0,false):=by rw [Bo,h0,h1,<-e0];rfl
theorem Y_ (h0:De u0 v0=false) (e0:(f0,t0)=CB u0 v0 (0,1)) (h1:De u1 v1=false) (e1:(f1,t1)=CB u1 v1 (f0,t0)) (h2:De u2 v2=true):Bo u0 v0 u1 v1 u2 v2=(f1,t1,false):=by rw [Bo,h0,h1,h2,<-e0,<-e1];rfl
theorem ZA (h0:De u0 v0=false) (e0:(f0,t0)=CB u0 v0 (0,1)) (h1:De u1 v1=false) (e1:(f1,t1)=CB u1 v1 (f0,t0)) (h2:De u2 v2=false) (e2:(f2,t2)=CB u2 v2 (f1,t1)):Bo u0 v0 u1 v1 u2 v2=(f2,t2,decide (BK f2 t2<0)):=by rw [Bo,h0,h1,h2,<-e0,<-e1,<-e2];rfl
theorem E5 {u v:Rat} {s:Rat×Rat} {k:Nat} (h:2*Sz u+Sz v+1<=k) (h1:Sz s.1<=k) (h2:Sz s.2<=k):Sz (CB u v s).1<=k/\Sz (CB u v s).2<=k:=by
  have hk:Sz (-u/(v-u))<=k:=by
    have z1:=GQ (-u) (v-u)
    have z2:=EK v u
    rw [BE] at z1
    omega
  unfold CB
  split
  · exact ⟨UW h1 hk,h2⟩
  · split
    · exact ⟨h1,by rw [BE];exact UW (by rw [BE];exact h2) (by rw [BE];exact hk)⟩
    · exact ⟨h1,h2⟩
end
def Bb (c:P3) (a b:Pt):Rat×Rat×Bool :=
  Bo (AF a c.2.1 c.2.2/AF c.1 c.2.1 c.2.2) (AF b c.2.1 c.2.2/AF c.1 c.2.1 c.2.2) (AF c.1 a c.2.2/AF c.1 c.2.1 c.2.2) (AF c.1 b c.2.2/AF c.1 c.2.1 c.2.2) (AF c.1 c.2.1 a/AF c.1 c.2.1 c.2.2) (AF c.1 c.2.1 b/AF c.1 c.2.1 c.2.2)
theorem D0 {a b c d e f:Pt} (h:AF a b c≠0) (ha:BD a<=6) (hb:BD b<=6) (hc:BD c<=6) (hd:BD d<=6) (he:BD e<=6) (hf:BD f<=6):Sz (AF d e f/AF a b c)<=106:=by
  have h1:=HA (a:=AF d e f) h
  have h2:=EM a b c
  have h3:=EM d e f
  omega
theorem Wb {u0 v0 u1 v1 u2 v2:Rat} (a0:Sz u0<=106) (b0:Sz v0<=106) (a1:Sz u1<=106) (b1:Sz v1<=106) (a2:Sz u2<=106) (b2:Sz v2<=106):Sz (Bo u0 v0 u1 v1 u2 v2).1<=400/\Sz (Bo u0 v0 u1 v1 u2 v2).2.1<=400:=by
  have z0:Sz 0<=400:=by decide +kernel
  have z1:Sz 1<=400:=by decide +kernel
  have s0:=E5 (u:=u0) (v:=v0) (s:=(0,1)) (k:=400) Z z0 z1
  have s1:=E5 (u:=u1) (v:=v1) (k:=400) Z s0.1 s0.2
  have s2:=E5 (u:=u2) (v:=v2) (k:=400) Z s1.1 s1.2
  unfold Bo
  split
  · exact ⟨z0,z1⟩
  split
  · exact s0
  split
  · exact s1
  · exact s2
end
section
set_option maxRecDepth 100000
theorem Ku (a b:Rat) (hs:Sz a+Sz b<=1000000) (w:World):Calls prog 28 #[aG (AB a),aG (AB b)] w (AY w (.tuple #[aG (AB (a/b)),vN (if b=0 then 5 else 0)])):=by
 by_cases h:b=0
 ·subst h
  rw [if_pos rfl,show a/0=0 by rw [Rat.div_def,Rat.inv_zero,Rat.mul_zero]]
  exact Ov a w
 ·rw [if_neg h]
  exact IY a b Z h w
theorem Ei (x y:Rat) (hs:Sz x+Sz y<=1000000) (w:World)  :Calls prog 77 #[(aG (AB x)),(aG (AB y))] w (AY w (aG (AB (Hv x y)))):=by
 refine AS (args:=[(aG (AB x)),(aG (AB y))]) func77 O O (leB O) (zG (sL [0,1] O) (q4 (A9 (cs:=AB x) O λb1=>A9 (cs:=AB y) O λb2=>al CZ O λb3=>q6 (sL [2,3,4] O) (q4 (Ah 2 Ay O (Ah 1 Ay O (ck' call43 (KM x y Z) O (st' (Ag (c:=(decide ((BK x y)<(0:Int)))) O O O) O ?_))))))))
 refine oNl' (zB (sL [2,3,4,8] O) (zA ?_))
 refine zK O (λhc0=>?_) (λhc0=>?_)
 ·replace hc0:=xR hc0
  have hr:Hv x y=y:=if_pos hc0
  exact q4 (Ah 1 Ay O (Am O sizeOf60 O (oNl' (zB (sL [2,3,4] O) (zA (zF (zH (ret_one O (Aa (i:=0) (cs:=AB y) O O isAgg60 sizeOf60 O) (λw hw=>⟨by rw [hr],hw.out⟩)))))))))
 ·replace hc0:=xQ hc0
  have hr:Hv x y=x:=if_neg hc0
  exact zI (q2 (Ah 2 Ay O (Am O sizeOf60 O (oNl' (zB (sL [2,3,4] O) (zA (zF (ret_one O (Aa (i:=0) (cs:=AB x) O O isAgg60 sizeOf60 O) (λw hw=>⟨by rw [hr],hw.out⟩)))))))))
theorem Ld (c0 c1 c2 a b:Pt) (s0:BD c0<=6) (s1:BD c1<=6) (s2:BD c2<=6) (sa:BD a<=6) (sb:BD b<=6) (hT:AF c0 c1 c2≠0) (w:World)  :Calls prog 35 #[(aG (GM (c0,c1,c2))),(aG (Ae a)),(aG (Ae b))] w (AY w (Value.tuple #[(aG (AB ((Bb (c0,c1,c2) a b).1))),(aG (AB ((Bb (c0,c1,c2) a b).2.1))),(qa ((Bb (c0,c1,c2) a b).2.2))])):=by
 obtain ⟨u0,hu0⟩:∃u,u=AF a c1 c2/AF c0 c1 c2:=⟨_,rfl⟩
 obtain ⟨u1,hu1⟩:∃u,u=AF c0 a c2/AF c0 c1 c2:=⟨_,rfl⟩
 obtain ⟨u2,hu2⟩:∃u,u=AF c0 c1 a/AF c0 c1 c2:=⟨_,rfl⟩
 obtain ⟨v0,hv0⟩:∃u,u=AF b c1 c2/AF c0 c1 c2:=⟨_,rfl⟩
 obtain ⟨v1,hv1⟩:∃u,u=AF c0 b c2/AF c0 c1 c2:=⟨_,rfl⟩
 obtain ⟨v2,hv2⟩:∃u,u=AF c0 c1 b/AF c0 c1 c2:=⟨_,rfl⟩
 have zu0:Sz u0<=106:=by rw [hu0];exact D0 hT (by assumption) (by assumption) (by assumption) (by assumption) (by assumption) (by assumption)
 have zu1:Sz u1<=106:=by rw [hu1];exact D0 hT (by assumption) (by assumption) (by assumption) (by assumption) (by assumption) (by assumption)
 have zu2:Sz u2<=106:=by rw [hu2];exact D0 hT (by assumption) (by assumption) (by assumption) (by assumption) (by assumption) (by assumption)
 have zv0:Sz v0<=106:=by rw [hv0];exact D0 hT (by assumption) (by assumption) (by assumption) (by assumption) (by assumption) (by assumption)
 have zv1:Sz v1<=106:=by rw [hv1];exact D0 hT (by assumption) (by assumption) (by assumption) (by assumption) (by assumption) (by assumption)
 have zv2:Sz v2<=106:=by rw [hv2];exact D0 hT (by assumption) (by assumption) (by assumption) (by assumption) (by assumption) (by assumption)
 have zq0:Sz (0:Rat)<=400:=by decide +kernel
 have zq1:Sz (1:Rat)<=400:=by decide +kernel
 have hS:Bb (c0,c1,c2) a b=Bo u0 v0 u1 v1 u2 v2:=by rw [hu0,hu1,hu2,hv0,hv1,hv2];rfl
 refine AS (args:=[(aG (GM (c0,c1,c2))),(aG (Ae a)),(aG (Ae b))]) func35 O O (leB O) (zG (sL [0,1,2] O) (q4 (A9 (cs:=GM (c0,c1,c2)) O λb1=>A9 (cs:=Ae a) O λb2=>A9 (cs:=Ae b) O λb3=>al CZ O λb4=>al CZ O λb5=>asg' O (q3 (sL [3,4,5,6,7,8] O) (st' (v:=(pP b1 0)) (AC (j:=0) O O underlying108 sizeOf62 O jY O) O (Br 4 (Ae c0) A_ O ?_))))))
 refine st' (v:=(pP b1 10)) (AC (j:=1) O O underlying108 sizeOf62 O jY O) O (Br 4 (Ae c1) A_ O (st' (v:=(pP b1 20)) (AC (j:=2) O O underlying108 sizeOf62 O jY O) O (Br 4 (Ae c2) A_ O (Ah 3 A_ O (CC (args:=[(aG (Ae c0)),(aG (Ae c1)),(aG (Ae c2)),(aG (Ae a))]) (v:=(Value.tuple #[(aG (AB u0++AB u1++AB u2)),(vI 0)])) call70 (λw hw=>(by rw [hu0,hu1,hu2];exact NJ c0 c1 c2 a Z hT w)) O (AL O (st' (AH (v:=(aG (AB u0++AB u1++AB u2))) O O) O (st' (AH (v:=(vI 0)) O O) O (al H0 O λb6=>Am O sizeOf153 O (asg' O ?_))))))))))
 refine q3 (sL [3,5,6,7,8,9,10] O) (st' (v:=(pP b1 0)) (AC (j:=0) O O underlying108 sizeOf62 O jY O) O (Br 5 (Ae c0) A_ O (st' (v:=(pP b1 10)) (AC (j:=1) O O underlying108 sizeOf62 O jY O) O (Br 5 (Ae c1) A_ O (st' (v:=(pP b1 20)) (AC (j:=2) O O underlying108 sizeOf62 O jY O) O (Br 5 (Ae c2) A_ O (Ah 3 A_ O (CC (args:=[(aG (Ae c0)),(aG (Ae c1)),(aG (Ae c2)),(aG (Ae b))]) (v:=(Value.tuple #[(aG (AB v0++AB v1++AB v2)),(vI 0)])) call70 (λw hw=>(by rw [hv0,hv1,hv2];exact NJ c0 c1 c2 b Z hT w)) O (AL O (st' (AH (v:=(aG (AB v0++AB v1++AB v2))) O O) O (st' (AH (v:=(vI 0)) O O) O ?_)))))))))))
 refine al H0 O λb7=>Am O sizeOf153 O (asg' O (q3 (sL [3,6,7,8,9,10,11] O) (CC (args:=[(vI 0)]) (v:=(aG (AB (0:Rat)))) call17 (λw hw=>(by have h9:=Eo (0:Int) Z Z w;rw [show ((0:Int):Rat)=(0:Rat) by decide +kernel] at h9;exact h9)) O (CC (args:=[(vI 1)]) (v:=(aG (AB (1:Rat)))) call17 (λw hw=>(by have h9:=Eo (1:Int) Z Z w;rw [show ((1:Int):Rat)=(1:Rat) by decide +kernel] at h9;exact h9)) O (Fd O sizeOf60 O (Ee O sizeOf60 O (q6 (sL [3,6,7,8,9,10,11] O) (q4 (AL O (st' (C1 (c:=false) O O jY) O ?_))))))))))
 refine oNl' (zB (sL [3,6,7,8,9,11,42] O) (zA (zU O (zI (q1 (q4 (AL O (oNl' (zB (sL [3,6,7,8,9,11,45] O) (zA (zN ?_)))))))))))
 refine yB 5 (zj (q4 (st' (Ag (c:=true) O O jY) O (oNl' (q1 (zY O (zI (q1 (zN (q4 (AL O ?_)))))))))))
 refine asg' O (q6 (sL [3,6,7,8,9,11,45,13] O) (rN [(0,true),(1,true),(2,true),(3,true),(4,true),(5,true),(6,false)] [⟨7,14,60,AB (0:Rat)⟩] [(8,false)] sr jV (λ_ _ d _ _ h=>by cases d<;>exact h) (FY O O CZ O (Fj)) O (J1 O (GI (v:=(pP b7 0)) O (AC (j:=0) O O underlying153 sizeOf60 O jY O) O (SS 0 (AB v0) Ay O (J1 O (GI (v:=(pP b6 0)) O (AC (j:=0) O O underlying153 sizeOf60 O jY O) O (SS 1 (AB u0) Ay O (ze O λEF EL=>?_)))))))))
 have hz1:=EK v0 u0
 refine ck' call16 (Gb v0 u0 (by (try simp only [BE]);omega)) O (zd sr O (zm λb8=>zD O (Am O sizeOf60 O (zC (sl sr) (zP (zB (sL [3,6,7,8,9,11,45,13,14] O) (q1 (rN [(0,true),(1,true),(2,true),(4,true),(3,false),(5,false),(6,true),(7,true),(8,true)] [⟨9,15,60,AB (0:Rat)⟩] [(10,false),(11,true)] sr jV (λ_ _ d _ _ h=>by cases d<;>exact h) (FY O O CZ O (Fj)) O (J1 O (GI (v:=(pP b6 0)) O (AC (j:=0) O O underlying153 sizeOf60 O jY O) O ?_))))))))))
 refine SS 2 (AB u0) Ay O (EI 0 Ay O (ze O λEF EL=>ck' call32 (Dq u0) O (zd sr O (ze O λEF EL=>?_))))
 have hz2:=GQ (-u0) (v0-u0)
 refine ck' call28 (Ku (-u0) (v0-u0) (by (try simp only [BE] at *);omega)) O (zd sr O (J1 O (GI O (AH (v:=(aG (AB ((-u0)/(v0-u0))))) O O) O (GI O (AH (v:=(vN (if v0-u0=0 then 5 else 0))) O O) O (zm λb9=>zD O (Am O sizeOf60 O (zC (sl sr) (pS' O (zP (zB (sL [3,6,7,8,9,11,45,13,14,15] O) ?_))))))))))
 refine q2 (Ah 1 Ay O (ck' call63 (DQ (v0-u0)) O (oNl' (zB (sL [3,6,7,8,9,11,45,13,14,15,65] O) (zA ?_)))))
 refine yd (tg λ(f0:Rat) (t0:Rat)=>(f0,t0)=CB u0 v0 ((0:Rat),(1:Rat))/\De u0 v0=false/\Sz f0<=400/\Sz t0<=400) (tg λ(f0:Rat) (t0:Rat)=>[(6,(pP b4 0)),(7,(pP b5 0)),(9,(pP b6 0)),(11,(pP b7 0)),(45,(vI 0))]) (tg λ(f0:Rat) (t0:Rat)=>[AQ b9 60 (AB ((-u0)/(v0-u0))),AQ b8 60 (AB (v0-u0)),AQ b7 153 (AB v0++AB v1++AB v2),AQ b6 153 (AB u0++AB u1++AB u2),AQ b5 60 (AB t0),AQ b4 60 (AB f0),AQ b3 62 (Ae b),AQ b2 62 (Ae a),AQ b1 108 (GM (c0,c1,c2))]) ?_ ?_
 ·refine zN (q4 (st' (Az (c:=(decide (((v0-u0).num.sign)=(1:Int)))) O O O) O (asg' O (oNl' (zB (sL [3,6,7,8,9,11,45,13,14,15,65,73] O) (zA ?_))))))
  refine zK O (λhc2=>?_) (λhc2=>?_)
  ·replace hc2:=xR hc2
   exact zL (Ah 5 Ay O (Ah 0 Ay O (ck' call77 (Ei (0:Rat) ((-u0)/(v0-u0)) (by (try simp only [BE] at *);omega)) O (EV 5 (off:=0) (vs:=AB (Hv (0:Rat) ((-u0)/(v0-u0)))) (cs':=AB (Hv (0:Rat) ((-u0)/(v0-u0)))) (AJ O) O sizeOf60 O (oNl' (zB (sL [3,6,7,8,9,11,45,13,14,15,65] O) (zM (zw (Hv (0:Rat) ((-u0)/(v0-u0))) (1:Rat) ((λe=>⟨e,NQ hc2,(by have z:=E5 (u:=u0) (v:=v0) (s:=((0:Rat),(1:Rat))) (k:=400) Z (by assumption) (by assumption);rw [<-e] at z;exact z)⟩) (Q4 hc2)) (sF O) sr))))))))
  ·replace hc2:=xQ hc2
   refine q4 (st' (Az (c:=(decide (((v0-u0).num.sign)=(-1:Int)))) O O O) O (asg' O (oNl' (zB (sL [3,6,7,8,9,11,45,13,14,15,65,78] O) (zA ?_)))))
   refine zK O (λhc3=>?_) (λhc3=>?_)
   ·replace hc3:=xR hc3
    refine B8 [(2,true),(0,false),(1,false),(3,false),(4,false),(5,false),(6,false)] (sk (sk (sk (sk (sl sr))))) (Bv 0 Ay O (zD O (Ah 4 Ay O (zC (sk (sk (sk (sk (sl sr))))) (zD O (ck' call32 (Dq (1:Rat)) O (zC (sk (sk (sk (sk (sl sr))))) (zD O (ck' call32 (Dq ((-u0)/(v0-u0))) O (zC (sk (sk (sk (sk (sl sr))))) (zD O ?_)))))))))))
    exact ck' call77 (Ei (-(1:Rat)) (-((-u0)/(v0-u0))) (by (try simp only [BE] at *);omega)) O (zC (sk (sk (sk (sk (sl sr))))) (zD O (ck' call32 (Dq (Hv (-(1:Rat)) (-((-u0)/(v0-u0))))) O (zC (sk (sk (sk (sk (sl sr))))) (zD O (EV 4 (off:=0) (vs:=AB (-(Hv (-(1:Rat)) (-((-u0)/(v0-u0)))))) (cs':=AB (-(Hv (-(1:Rat)) (-((-u0)/(v0-u0)))))) (AJ O) O sizeOf60 O (zC (sk (sk (sk (sk (sl sr))))) (zP (zB (sL [3,6,7,8,9,11,45,13,14,15,65] O) (zM (zw (0:Rat) (-(Hv (-(1:Rat)) (-((-u0)/(v0-u0))))) ((λe=>⟨e,NO hc3,(by have z:=E5 (u:=u0) (v:=v0) (s:=((0:Rat),(1:Rat))) (k:=400) Z (by assumption) (by assumption);rw [<-e] at z;exact z)⟩) (Q2 hc3)) (sF O) sr)))))))))))
   ·replace hc3:=xQ hc3
    refine q4 (AL O (st' (v:=(pP b6 0)) (AC (j:=0) O O underlying153 sizeOf60 O jY O) O (Br 3 (AB u0) Ay O (ck' call63 (DQ u0) O (st' (Ag (c:=(decide (u0.num.sign<(0:Int)))) O O O) O (oNl' (zB (sL [3,6,7,8,9,11,45,13,14,15,65,70] O) (zA ?_))))))))
    refine zK O (λhc4=>?_) (λhc4=>?_)
    ·replace hc4:=xR hc4
     refine zV (B8 [(0,true),(1,true),(2,false),(3,false),(4,true)] sr (Bv 5 Ay O (Bv 4 Ay O (zD O (EV 5 (off:=0) (vs:=AB (0:Rat)) (cs':=AB (0:Rat)) (AJ O) O sizeOf60 O (zC sr (zD O (EV 4 (off:=0) (vs:=AB (1:Rat)) (cs':=AB (1:Rat)) (AJ O) O sizeOf60 O (zC sr (pS' O (zP ?_)))))))))))
     exact zB (sL [3,6,7,8,9,11,45,13,14,15,65] O) (zA (zF (zT (yj (zT (zH (zH (zT (zH (DD O (Aa (i:=5) (cs:=AB (0:Rat)) O O isAgg60 sizeOf60 O) (Aa (i:=4) (cs:=AB (1:Rat)) O O isAgg60 sizeOf60 O) (rd_tmp (v:=(qa false)) O) (λw hw=>⟨by rw [hS,Y8 (NR hc2 hc3 hc4)]<;>rfl,hw.out⟩)))))))))))
    ·replace hc4:=xQ hc4
     exact zI (zM (zw (0:Rat) (1:Rat) ((λe=>⟨e,P5 hc4,(by have z:=E5 (u:=u0) (v:=v0) (s:=((0:Rat),(1:Rat))) (k:=400) Z (by assumption) (by assumption);rw [<-e] at z;exact z)⟩) (N3 hc2 hc3)) (sF O) sr))
 ·intro f0 t0 hJ
  obtain ⟨e0,h0,zf0,zt0⟩:=hJ
  refine zM (zA (zL (st' (Ad (c:=(1:Int)) O O jY) O (AL O (oNl' (zB (sL [6,7,9,11,45] O) (z7 (zj (q4 (st' (Ag (c:=true) O O jY) O (oNl' ?_)))))))))))
  refine q1 (zY O (zI (q1 (zN (q4 (AL O (asg' O (q6 (sL [6,7,9,11,45,13] O) (rN [(0,true),(1,true),(2,true),(3,true),(4,true),(5,true),(6,false)] [⟨7,14,60,AB (0:Rat)⟩] [(8,false)] sr jV (λ_ _ d _ _ h=>by cases d<;>exact h) (FY O O CZ O (Fj)) O (J1 O (GI (v:=(pP b7 5)) O (AC (j:=1) O O underlying153 sizeOf60 O jY O) O ?_)))))))))))
  refine SS 2 (AB v1) Ay O (J1 O (GI (v:=(pP b6 5)) O (AC (j:=1) O O underlying153 sizeOf60 O jY O) O (SS 3 (AB u1) Ay O (ze O λEF EL=>?_))))
  have hz3:=EK v1 u1
  refine ck' call16 (Gb v1 u1 (by (try simp only [BE]);omega)) O (zd sr O (zm λb10=>zD O (Am O sizeOf60 O (zC (sl sr) (zP (zB (sL [6,7,9,11,45,13,14] O) (q1 (rN [(0,true),(1,true),(2,true),(4,true),(3,false),(5,false),(6,true),(7,true),(8,true)] [⟨9,15,60,AB (0:Rat)⟩] [(10,false),(11,true)] sr jV (λ_ _ d _ _ h=>by cases d<;>exact h) (FY O O CZ O (Fj)) O (J1 O (GI (v:=(pP b6 5)) O (AC (j:=1) O O underlying153 sizeOf60 O jY O) O ?_))))))))))
  refine SS 4 (AB u1) Ay O (EI 0 Ay O (ze O λEF EL=>ck' call32 (Dq u1) O (zd sr O (ze O λEF EL=>?_))))
  have hz4:=GQ (-u1) (v1-u1)
  refine ck' call28 (Ku (-u1) (v1-u1) (by (try simp only [BE] at *);omega)) O (zd sr O (J1 O (GI O (AH (v:=(aG (AB ((-u1)/(v1-u1))))) O O) O (GI O (AH (v:=(vN (if v1-u1=0 then 5 else 0))) O O) O (zm λb11=>zD O (Am O sizeOf60 O (zC (sl sr) (pS' O (zP (zB (sL [6,7,9,11,45,13,14,15] O) ?_))))))))))
  refine q2 (Ah 1 Ay O (ck' call63 (DQ (v1-u1)) O (oNl' (zB (sL [6,7,9,11,45,13,14,15,65] O) (zA ?_)))))
  refine yd (tg λ(f1:Rat) (t1:Rat)=>(f1,t1)=CB u1 v1 (f0,t0)/\De u1 v1=false/\Sz f1<=400/\Sz t1<=400) (tg λ(f1:Rat) (t1:Rat)=>[(6,(pP b4 0)),(7,(pP b5 0)),(9,(pP b6 0)),(11,(pP b7 0)),(45,(vI 1))]) (tg λ(f1:Rat) (t1:Rat)=>[AQ b11 60 (AB ((-u1)/(v1-u1))),AQ b10 60 (AB (v1-u1)),AQ b9 60 (AB ((-u0)/(v0-u0))),AQ b8 60 (AB (v0-u0)),AQ b7 153 (AB v0++AB v1++AB v2),AQ b6 153 (AB u0++AB u1++AB u2),AQ b5 60 (AB t1),AQ b4 60 (AB f1),AQ b3 62 (Ae b),AQ b2 62 (Ae a),AQ b1 108 (GM (c0,c1,c2))]) ?_ ?_
  ·refine zN (q4 (st' (Az (c:=(decide (((v1-u1).num.sign)=(1:Int)))) O O O) O (asg' O (oNl' (zB (sL [6,7,9,11,45,13,14,15,65,73] O) (zA ?_))))))
   refine zK O (λhc2=>?_) (λhc2=>?_)
   ·replace hc2:=xR hc2
    exact zL (Ah 7 Ay O (Ah 0 Ay O (ck' call77 (Ei f0 ((-u1)/(v1-u1)) (by (try simp only [BE] at *);omega)) O (EV 7 (off:=0) (vs:=AB (Hv f0 ((-u1)/(v1-u1)))) (cs':=AB (Hv f0 ((-u1)/(v1-u1)))) (AJ O) O sizeOf60 O (oNl' (zB (sL [6,7,9,11,45,13,14,15,65] O) (zM (zw (Hv f0 ((-u1)/(v1-u1))) t0 ((λe=>⟨e,NQ hc2,(by have z:=E5 (u:=u1) (v:=v1) (s:=(f0,t0)) (k:=400) Z (by assumption) (by assumption);rw [<-e] at z;exact z)⟩) (Q4 hc2)) (sF O) sr))))))))
   ·replace hc2:=xQ hc2
    refine q4 (st' (Az (c:=(decide (((v1-u1).num.sign)=(-1:Int)))) O O O) O (asg' O (oNl' (zB (sL [6,7,9,11,45,13,14,15,65,78] O) (zA ?_)))))
    refine zK O (λhc3=>?_) (λhc3=>?_)
    ·replace hc3:=xR hc3
     refine B8 [(2,true),(0,false),(1,false),(3,false),(4,false),(5,false),(6,false)] (sk (sk (sk (sk (sk (sk (sl sr))))))) (Bv 0 Ay O (zD O (Ah 6 Ay O (zC (sk (sk (sk (sk (sk (sk (sl sr))))))) (zD O (ck' call32 (Dq t0) O (zC (sk (sk (sk (sk (sk (sk (sl sr))))))) (zD O (ck' call32 (Dq ((-u1)/(v1-u1))) O (zC (sk (sk (sk (sk (sk (sk (sl sr))))))) (zD O ?_)))))))))))
     exact ck' call77 (Ei (-t0) (-((-u1)/(v1-u1))) (by (try simp only [BE] at *);omega)) O (zC (sk (sk (sk (sk (sk (sk (sl sr))))))) (zD O (ck' call32 (Dq (Hv (-t0) (-((-u1)/(v1-u1))))) O (zC (sk (sk (sk (sk (sk (sk (sl sr))))))) (zD O (EV 6 (off:=0) (vs:=AB (-(Hv (-t0) (-((-u1)/(v1-u1)))))) (cs':=AB (-(Hv (-t0) (-((-u1)/(v1-u1)))))) (AJ O) O sizeOf60 O (zC (sk (sk (sk (sk (sk (sk (sl sr))))))) (zP (zB (sL [6,7,9,11,45,13,14,15,65] O) (zM (zw f0 (-(Hv (-t0) (-((-u1)/(v1-u1))))) ((λe=>⟨e,NO hc3,(by have z:=E5 (u:=u1) (v:=v1) (s:=(f0,t0)) (k:=400) Z (by assumption) (by assumption);rw [<-e] at z;exact z)⟩) (Q2 hc3)) (sF O) sr)))))))))))
    ·replace hc3:=xQ hc3
     refine q4 (AL O (st' (v:=(pP b6 5)) (AC (j:=1) O O underlying153 sizeOf60 O jY O) O (Br 5 (AB u1) Ay O (ck' call63 (DQ u1) O (st' (Ag (c:=(decide (u1.num.sign<(0:Int)))) O O O) O (oNl' (zB (sL [6,7,9,11,45,13,14,15,65,70] O) (zA ?_))))))))
     refine zK O (λhc4=>?_) (λhc4=>?_)
     ·replace hc4:=xR hc4
      refine zV (B8 [(0,true),(1,true),(2,false),(3,false),(4,true)] sr (Bv 7 Ay O (Bv 6 Ay O (zD O (EV 7 (off:=0) (vs:=AB f0) (cs':=AB f0) (AJ O) O sizeOf60 O (zC sr (zD O (EV 6 (off:=0) (vs:=AB t0) (cs':=AB t0) (AJ O) O sizeOf60 O (zC sr (pS' O (zP ?_)))))))))))
      exact zB (sL [6,7,9,11,45,13,14,15,65,8] O) (zA (zF (zT (yj (zT (zH (zH (zT (zH (DD O (Aa (i:=7) (cs:=AB f0) O O isAgg60 sizeOf60 O) (Aa (i:=6) (cs:=AB t0) O O isAgg60 sizeOf60 O) (rd_tmp (v:=(qa false)) O) (λw hw=>⟨by rw [hS,Y9 h0 e0 (NR hc2 hc3 hc4)]<;>rfl,hw.out⟩)))))))))))
     ·replace hc4:=xQ hc4
      exact zI (zM (zw f0 t0 ((λe=>⟨e,P5 hc4,(by have z:=E5 (u:=u1) (v:=v1) (s:=(f0,t0)) (k:=400) Z (by assumption) (by assumption);rw [<-e] at z;exact z)⟩) (N3 hc2 hc3)) (sF O) sr))
  ·intro f1 t1 hJ
   obtain ⟨e1,h1,zf1,zt1⟩:=hJ
   refine zM (zA (zL (st' (Ad (c:=(2:Int)) O O jY) O (AL O (oNl' (zB (sL [6,7,9,11,45] O) (z7 (zj (q4 (st' (Ag (c:=true) O O jY) O (oNl' ?_)))))))))))
   refine q1 (zY O (zI (q1 (zN (q4 (AL O (asg' O (q6 (sL [6,7,9,11,45,13] O) (rN [(0,true),(1,true),(2,true),(3,true),(4,true),(5,true),(6,false)] [⟨7,14,60,AB (0:Rat)⟩] [(8,false)] sr jV (λ_ _ d _ _ h=>by cases d<;>exact h) (FY O O CZ O (Fj)) O (J1 O (GI (v:=(pP b7 10)) O (AC (j:=2) O O underlying153 sizeOf60 O jY O) O ?_)))))))))))
   refine SS 4 (AB v2) Ay O (J1 O (GI (v:=(pP b6 10)) O (AC (j:=2) O O underlying153 sizeOf60 O jY O) O (SS 5 (AB u2) Ay O (ze O λEF EL=>?_))))
   have hz5:=EK v2 u2
   refine ck' call16 (Gb v2 u2 (by (try simp only [BE]);omega)) O (zd sr O (zm λb12=>zD O (Am O sizeOf60 O (zC (sl sr) (zP (zB (sL [6,7,9,11,45,13,14] O) (q1 (rN [(0,true),(1,true),(2,true),(4,true),(3,false),(5,false),(6,true),(7,true),(8,true)] [⟨9,15,60,AB (0:Rat)⟩] [(10,false),(11,true)] sr jV (λ_ _ d _ _ h=>by cases d<;>exact h) (FY O O CZ O (Fj)) O (J1 O (GI (v:=(pP b6 10)) O (AC (j:=2) O O underlying153 sizeOf60 O jY O) O ?_))))))))))
   refine SS 6 (AB u2) Ay O (EI 0 Ay O (ze O λEF EL=>ck' call32 (Dq u2) O (zd sr O (ze O λEF EL=>?_))))
   have hz6:=GQ (-u2) (v2-u2)
   refine ck' call28 (Ku (-u2) (v2-u2) (by (try simp only [BE] at *);omega)) O (zd sr O (J1 O (GI O (AH (v:=(aG (AB ((-u2)/(v2-u2))))) O O) O (GI O (AH (v:=(vN (if v2-u2=0 then 5 else 0))) O O) O (zm λb13=>zD O (Am O sizeOf60 O (zC (sl sr) (pS' O (zP (zB (sL [6,7,9,11,45,13,14,15] O) ?_))))))))))
   refine q2 (Ah 1 Ay O (ck' call63 (DQ (v2-u2)) O (oNl' (zB (sL [6,7,9,11,45,13,14,15,65] O) (zA ?_)))))
   refine yd (tg λ(f2:Rat) (t2:Rat)=>(f2,t2)=CB u2 v2 (f1,t1)/\De u2 v2=false/\Sz f2<=400/\Sz t2<=400) (tg λ(f2:Rat) (t2:Rat)=>[(6,(pP b4 0)),(7,(pP b5 0)),(9,(pP b6 0)),(11,(pP b7 0)),(45,(vI 2))]) (tg λ(f2:Rat) (t2:Rat)=>[AQ b13 60 (AB ((-u2)/(v2-u2))),AQ b12 60 (AB (v2-u2)),AQ b11 60 (AB ((-u1)/(v1-u1))),AQ b10 60 (AB (v1-u1)),AQ b9 60 (AB ((-u0)/(v0-u0))),AQ b8 60 (AB (v0-u0)),AQ b7 153 (AB v0++AB v1++AB v2),AQ b6 153 (AB u0++AB u1++AB u2),AQ b5 60 (AB t2),AQ b4 60 (AB f2),AQ b3 62 (Ae b),AQ b2 62 (Ae a),AQ b1 108 (GM (c0,c1,c2))]) ?_ ?_
   ·refine zN (q4 (st' (Az (c:=(decide (((v2-u2).num.sign)=(1:Int)))) O O O) O (asg' O (oNl' (zB (sL [6,7,9,11,45,13,14,15,65,73] O) (zA ?_))))))
    refine zK O (λhc2=>?_) (λhc2=>?_)
    ·replace hc2:=xR hc2
     exact zL (Ah 9 Ay O (Ah 0 Ay O (ck' call77 (Ei f1 ((-u2)/(v2-u2)) (by (try simp only [BE] at *);omega)) O (EV 9 (off:=0) (vs:=AB (Hv f1 ((-u2)/(v2-u2)))) (cs':=AB (Hv f1 ((-u2)/(v2-u2)))) (AJ O) O sizeOf60 O (oNl' (zB (sL [6,7,9,11,45,13,14,15,65] O) (zM (zw (Hv f1 ((-u2)/(v2-u2))) t1 ((λe=>⟨e,NQ hc2,(by have z:=E5 (u:=u2) (v:=v2) (s:=(f1,t1)) (k:=400) Z (by assumption) (by assumption);rw [<-e] at z;exact z)⟩) (Q4 hc2)) (sF O) sr))))))))
    ·replace hc2:=xQ hc2
     refine q4 (st' (Az (c:=(decide (((v2-u2).num.sign)=(-1:Int)))) O O O) O (asg' O (oNl' (zB (sL [6,7,9,11,45,13,14,15,65,78] O) (zA ?_)))))
     refine zK O (λhc3=>?_) (λhc3=>?_)
     ·replace hc3:=xR hc3
      refine B8 [(2,true),(0,false),(1,false),(3,false),(4,false),(5,false),(6,false)] (sk (sk (sk (sk (sk (sk (sk (sk (sl sr))))))))) (Bv 0 Ay O (zD O (Ah 8 Ay O (zC (sk (sk (sk (sk (sk (sk (sk (sk (sl sr))))))))) (zD O (ck' call32 (Dq t1) O (zC (sk (sk (sk (sk (sk (sk (sk (sk (sl sr))))))))) (zD O (ck' call32 (Dq ((-u2)/(v2-u2))) O (zC (sk (sk (sk (sk (sk (sk (sk (sk (sl sr))))))))) (zD O ?_)))))))))))
      exact ck' call77 (Ei (-t1) (-((-u2)/(v2-u2))) (by (try simp only [BE] at *);omega)) O (zC (sk (sk (sk (sk (sk (sk (sk (sk (sl sr))))))))) (zD O (ck' call32 (Dq (Hv (-t1) (-((-u2)/(v2-u2))))) O (zC (sk (sk (sk (sk (sk (sk (sk (sk (sl sr))))))))) (zD O (EV 8 (off:=0) (vs:=AB (-(Hv (-t1) (-((-u2)/(v2-u2)))))) (cs':=AB (-(Hv (-t1) (-((-u2)/(v2-u2)))))) (AJ O) O sizeOf60 O (zC (sk (sk (sk (sk (sk (sk (sk (sk (sl sr))))))))) (zP (zB (sL [6,7,9,11,45,13,14,15,65] O) (zM (zw f1 (-(Hv (-t1) (-((-u2)/(v2-u2))))) ((λe=>⟨e,NO hc3,(by have z:=E5 (u:=u2) (v:=v2) (s:=(f1,t1)) (k:=400) Z (by assumption) (by assumption);rw [<-e] at z;exact z)⟩) (Q2 hc3)) (sF O) sr)))))))))))
     ·replace hc3:=xQ hc3
      refine q4 (AL O (st' (v:=(pP b6 10)) (AC (j:=2) O O underlying153 sizeOf60 O jY O) O (Br 7 (AB u2) Ay O (ck' call63 (DQ u2) O (st' (Ag (c:=(decide (u2.num.sign<(0:Int)))) O O O) O (oNl' (zB (sL [6,7,9,11,45,13,14,15,65,70] O) (zA ?_))))))))
      refine zK O (λhc4=>?_) (λhc4=>?_)
      ·replace hc4:=xR hc4
       refine zV (B8 [(0,true),(1,true),(2,false),(3,false),(4,true)] sr (Bv 9 Ay O (Bv 8 Ay O (zD O (EV 9 (off:=0) (vs:=AB f1) (cs':=AB f1) (AJ O) O sizeOf60 O (zC sr (zD O (EV 8 (off:=0) (vs:=AB t1) (cs':=AB t1) (AJ O) O sizeOf60 O (zC sr (pS' O (zP ?_)))))))))))
       exact zB (sL [6,7,9,11,45,13,14,15,65,8] O) (zA (zF (zT (yj (zT (zH (zH (zT (zH (DD O (Aa (i:=9) (cs:=AB f1) O O isAgg60 sizeOf60 O) (Aa (i:=8) (cs:=AB t1) O O isAgg60 sizeOf60 O) (rd_tmp (v:=(qa false)) O) (λw hw=>⟨by rw [hS,Y_ h0 e0 h1 e1 (NR hc2 hc3 hc4)]<;>rfl,hw.out⟩)))))))))))
      ·replace hc4:=xQ hc4
       exact zI (zM (zw f1 t1 ((λe=>⟨e,P5 hc4,(by have z:=E5 (u:=u2) (v:=v2) (s:=(f1,t1)) (k:=400) Z (by assumption) (by assumption);rw [<-e] at z;exact z)⟩) (N3 hc2 hc3)) (sF O) sr))
   ·intro f2 t2 hJ
    obtain ⟨e2,h2,zf2,zt2⟩:=hJ
    refine zM (zA (zL (st' (Ad (c:=(3:Int)) O O jY) O (AL O (oNl' (zB (sL [6,7,9,11,45] O) (z7 (zj (q4 (st' (Ag (c:=false) O O jY) O (oNl' ?_)))))))))))
    refine q1 (zU O (zW (zO (zO (zR (q1 (B8 (Ed 4++[(4,false),(5,true),(6,false),(7,false),(8,true)]) sr (Bv 9 Ay O (Bv 8 Ay O (Bv 9 Ay O (Bv 8 Ay O ?_)))))))))))
    refine zD O (ck' call43 (KM f2 t2 Z) O (zC sr (Ao O (Ag (c:=(decide ((BK f2 t2)<(0:Int)))) O O O) (zD O (EV 9 (off:=0) (vs:=AB f2) (cs':=AB f2) (AJ O) O sizeOf60 O (zC sr (zD O (EV 8 (off:=0) (vs:=AB t2) (cs':=AB t2) (AJ O) O sizeOf60 O (zC sr (pS' O (zP ?_)))))))))))
    exact zB (sL [6,7,9,11,45,8] O) (zA (zF (DD O (Aa (i:=9) (cs:=AB f2) O O isAgg60 sizeOf60 O) (Aa (i:=8) (cs:=AB t2) O O isAgg60 sizeOf60 O) (rd_tmp (v:=(qa (decide ((BK f2 t2)<(0:Int))))) O) (λw hw=>⟨by rw [hS,ZA h0 e0 h1 e1 h2 e2]<;>rfl,hw.out⟩))))
end
section
def GU (a b:Nat):Int:=if a<b then -1 else if b<a then 1 else 0
theorem Xa {a b:Nat} (h:a<b):GU a b = -1:=if_pos h
theorem XZ {a b:Nat} (h:¬a<b) (h2:b<a):GU a b=1:=by rw [GU,if_neg h,if_pos h2]
theorem XY {a b:Nat} (h:¬a<b) (h2:¬b<a):GU a b=0:=by rw [GU,if_neg h,if_neg h2]
def Vu (a b:Int):Int:=if a≠0 then a else if b≠0 then b else 0
section
variable {P:Program} {n:Nat} {F:List (Nat×Value)} {w0:Av} {L:List As} {d:Option Tmp} {x:Operand} {t:TypeId} {p:String} {af:Array Edge} {g:Option (Nat×Bool)}
theorem MM {tx e:TypeId} {a:Option Addr} {len cap k:Nat} {hi mx:Operand} {ki kj:IntKind} {m:Nat} (hx:evF F x=some (.slice a len cap)) (hh:evF F hi=some (.int ki (m:Nat))) (hj:evF F mx=some (.int kj (m:Nat))) (hu:P.underlying tx=some (.slice e)) (hs:∀w,(sizeOf e).run P w=.ok k w) (hm:m<=cap) :
    Ex P n F w0 L ⟨d,.slice tx x none (some hi) (some mx),t,p,af,g⟩ (.slice a m m):=λA w ha _=>by
  simp only [execOp,ha.ev hx,Instr.sliceAt,run_underlying hu,Instr.slice,Option.map_some,Option.map_none,ha.ev hh,ha.ev hj,Instr.sliceBounds,Instr.sliceBound,asIntOf,Sem.run_bind,Result.andThen_ok,Sem.run_pure]
  have h1:(0:Int)<=(m:Int)/\(m:Int)<=(cap:Int):=⟨Z,Z⟩
  simp [h1.2,hs]
  cases a<;>simp [Addr.add]
end
theorem Vw {p:Option Addr} {n c:Nat} (h:OwnOk p n c) (hn:n≠0):∃g,p=some ⟨g,0,none⟩:=by
  cases p with
  | none=>exact absurd (h.nil rfl).1 hn
  | some a=>exact ⟨a.block,by rw [<-h.at0 a rfl]⟩
section
variable {P:Program} {ops:Array Oper} {rest:List Oper} {Q:Exit->Act->World->Prop} {n:Nat} {F:List (Nat×Value)} {w0:Av} {L L':List As}
theorem yT (hs:L'.Sublist L) (h:AO P ops rest Q n F w0 L'):AO P ops rest Q n F w0 L:=λa w ha hw=>h a w ha (hw.weak hs)
end
end
section
structure Pc where
  tri:Nat
  lo:Rat
  hi:Rat
deriving DecidableEq
def CI (p:Pc):List Value:=vN p.tri::(AB p.lo++AB p.hi)
theorem C5 (p:Pc):(CI p).length=11:=rfl
def G5 (x y:Pc):Int:=if BK x.lo y.lo≠0 then BK x.lo y.lo else GU x.tri y.tri
theorem aa (x y:Pc):Vu (BK x.lo y.lo) (GU x.tri y.tri)=G5 x y:=by
  unfold Vu G5
  split
  · rfl
  · split
    · rfl
    · rename_i h;exact (Decidable.of_not_not h).symm
def II (x y:Pc) (tl:List Value):List Value:=if G5 y x<0 then CI y++(CI x++tl) else CI x++(CI y++tl)
theorem bH {x y:Pc} {tl:List Value} (h:G5 y x<0):II x y tl=CI y++(CI x++tl):=if_pos h
theorem bG {x y:Pc} {tl:List Value} (h:¬G5 y x<0):II x y tl=CI x++(CI y++tl):=if_neg h
def F9 (a b:Pt) (f t:Rat):Pt:=a+Bg (b-a) ((((1:Int):Rat)/((2:Int):Rat))*(f+t))
def Gf (ps:List Pt) (a b:Pt) (t:Nat) (T:Tq3):List Pc :=
  if (Bb (Bz ps T) a b).2.2=true then (if BR ps (F9 a b (Bb (Bz ps T) a b).1 (Bb (Bz ps T) a b).2.1) T=1 then [⟨t,(Bb (Bz ps T) a b).1,(Bb (Bz ps T) a b).2.1⟩] else []) else []
def BW (ps:List Pt) (ts:List (Tq3)) (a b:Pt):Nat->List Pc
  | 0=>[]
  | t+1=>BW ps ts a b t++Gf ps a b t (ts.getD t (0,0,0))
section
variable {ps:List Pt} {ts:List (Tq3)} {a b:Pt} {t:Nat} {sv:Rat×Rat×Bool}
theorem LT (h:sv=Bb (Bz ps (ts.getD t (0,0,0))) a b) (h1:sv.2.2=false):BW ps ts a b (t+1)=BW ps ts a b t:=by
  rw [BW,Gf,<-h,h1];simp
theorem LS (h:sv=Bb (Bz ps (ts.getD t (0,0,0))) a b) (h1:sv.2.2=true) (h2:¬BR ps (F9 a b sv.1 sv.2.1) (ts.getD t (0,0,0))=1):BW ps ts a b (t+1)=BW ps ts a b t:=by
  rw [BW,Gf,<-h,if_pos h1,if_neg h2,List.append_nil]
theorem Ny (h:sv=Bb (Bz ps (ts.getD t (0,0,0))) a b) (h1:sv.2.2=true) (h2:BR ps (F9 a b sv.1 sv.2.1) (ts.getD t (0,0,0))=1):BW ps ts a b (t+1)=BW ps ts a b t++[⟨t,sv.1,sv.2.1⟩]:=by
  rw [BW,Gf,<-h,if_pos h1,if_pos h2]
theorem O_ (T:Tq3):(Gf ps a b t T).length<=1:=by
  unfold Gf
  split
  · split<;>simp
  · simp
theorem GC:∀t,(BW ps ts a b t).length<=t
  | 0=>Nat.le_refl _
  | t+1=>by
    have h1:=GC t
    have h2:=O_ (ps:=ps) (a:=a) (b:=b) (t:=t) (ts.getD t (0,0,0))
    rw [BW,xJ]
    omega
end
theorem I2 {c:P3} {a b:Pt} (h:AF c.1 c.2.1 c.2.2≠0) (h1:BD c.1<=6) (h2:BD c.2.1<=6) (h3:BD c.2.2<=6) (ha:BD a<=6) (hb:BD b<=6):Sz (Bb c a b).1<=400/\Sz (Bb c a b).2.1<=400 :=
  Wb (D0 h h1 h2 h3 ha h2 h3) (D0 h h1 h2 h3 hb h2 h3) (D0 h h1 h2 h3 h1 ha h3) (D0 h h1 h2 h3 h1 hb h3) (D0 h h1 h2 h3 h1 h2 ha) (D0 h h1 h2 h3 h1 h2 hb)
def IS (rl:List Pc) (s:Option Addr×Nat):Prop:=OwnOk s.1 rl.length s.2/\(rl=[]->s=(none,0))
theorem IS.more {rl rl':List Pc} {x:Pc} {p:Option Addr} {c:Nat} (e:rl'=rl++[x]) (h:OwnOk p (rl.length+1) c):IS rl' (p,c):=by
  subst e
  exact ⟨by simpa using h,λe=>by simp at e⟩
section
variable {P:Program} {ops:Array Oper} {rest:List Oper} {Q:Exit->Act->World->Prop} {n D:Nat} {F:List (Nat×Value)} {w0:Av} {L L':List As} {c:Code}
theorem Eb.castL (e:L=L') (h:Eb D P c Q n F w0 L'):Eb D P c Q n F w0 L:=e▸h
theorem Eb.subL (hs:L'.Sublist L) (h:Eb D P c Q n F w0 L'):Eb D P c Q n F w0 L:=λa w ha hw=>h a w ha (hw.weak hs)
theorem AO.unrow (i:Nat) {g T z m c:Nat} {cs:List Value} (hi:L[i]?=some (rowW (jk g) T z m c cs)) (next:∀tl,AO P ops rest Q n F w0 (L.set i (AQ g T (cs++tl)))):AO P ops rest Q n F w0 L:=λa w ha hw=>by
  obtain ⟨o,ho,hp⟩:=hw.at hi rfl
  obtain ⟨cur,rfl,hs,ht⟩:=hp
  refine next (cur.toList.drop (m*z)) a w ha ?_
  have e:cs++cur.toList.drop (m*z)=cur.toList:=by rw [<-ht,List.take_append_drop]
  rw [e]
  exact hw.turn hi O O ⟨⟨rfl,rfl,rfl,Nat.le_refl _,λ_ _ _=>rfl⟩,Nat.le_refl _⟩ ⟨_,ho,by simp⟩
end
def Qy (x y:Pc):List Pc:=if G5 y x<0 then [y,x] else [x,y]
theorem Wu (x y:Pc) (tl:List Value):(II x y tl).take 22=rowsL CI (Qy x y):=by
  unfold II Qy
  split<;>rfl
theorem eo {S:Nat->Prop} {W w:World} {L:List As} (hw:A6 ⟨W,none⟩ w L) (i:Nat) {g T:Nat} {x y:Pc} {tl:List Value} (hi:L[i]?=some (AQ g T (II x y tl))):Ai (RX (rowsL CI (Qy x y)) 2) S W (.returned (.slice (jk g) 2 2)) w:=by
  have hro:BI (jk g) 2 2:=⟨(λe=>by cases e),(λa e=>by injection e with e;rw [<-e]),Nat.le_refl _⟩
  obtain ⟨h1,o,ho,hp⟩:=hw.2.1 _ (List.mem_of_getElem? hi) g rfl
  refine ⟨⟨some ⟨g,0,none⟩,2,hro⟩,rfl,hw.out,λz hz=>?_⟩
  rcases xM.1 hz with rfl
  refine ⟨λb e=>?_,λb e=>?_⟩
  · injection e with e
    subst e
    refine ⟨o,ho,(II x y tl).toArray,T,(0,0),hp,?_⟩
    have h2:(rowsL CI (Qy x y)).length=22:=by unfold Qy;split<;>rfl
    rw [h2,<-Wu x y tl]
    simp
    rfl
  · injection e with e
    subst e
    rcases h1 with h1|h1|h1
    · cases h1
    · exact .inl h1
    · cases h1
end
section
set_option maxRecDepth 100000
theorem Vj (a:Nat) (w:World)  :Calls prog 83 #[(vN a)] w (AY w (qa false)):=by
 refine AS (args:=[(vN a)]) func83 O O (leB O) (zG (sL [0] O) (q4 (asg' O (oNl' (q2 (AL O (AL O (st' (C1 (c:=false) O O jX) O (asg' O (oNl' (zB (sL [2] O) ?_)))))))))))
 exact zA (zF (ret_one O (rd_tmp (v:=(qa false)) O) (λw hw=>⟨rfl,hw.out⟩)))
theorem Xb (a b:Nat) (w:World)  :Calls prog 44 #[(vN a),(vN b)] w (AY w (vI (GU a b))):=by
 refine AS (args:=[(vN a),(vN b)]) func44 O O (leB O) (zG (sL [0,1] O) (q4 (asg' O (oNl' (q2 (AL O (ck' call83 (Vj a) O (asg' O (q3 (sL [0,1,4,5] O) (AL O (ck' call83 (Vj b) O ?_)))))))))))
 refine asg' O (q6 (sL [0,1,4,5,6] O) (q4 (AL O (oNl' (zB (sL [0,1,4,6,11] O) (zA (zU O (zI (q1 (q4 (AL O ?_)))))))))))
 refine oNl' (zB (sL [0,1,4,6,13] O) (zA (zU O (zI (q1 (q4 (AL O (AL O (st' (Ag (c:=(decide (a<b))) O O (DL (a:=a) (b:=b))) O (oNl' (zB (sL [0,1,4,6,16] O) ?_)))))))))))
 refine zA ?_
 refine zK O (λhc3=>?_) (λhc3=>?_)
 ·replace hc3:=xR hc3
  have hr:=Xa hc3
  exact q4 (asg' O (oNl' (zA (zF (zH (ret_one O (rd_tmp (v:=(vI (-1:Int))) O) (λw hw=>⟨by rw [hr]<;>rfl,hw.out⟩)))))))
 ·replace hc3:=xQ hc3
  refine zI (q1 (q4 (AL O (AL O (st' (Bu (c:=(decide (b<a))) O O (DL (a:=b) (b:=a))) O (oNl' (zB (sL [0,1,4,6,19] O) (zA ?_))))))))
  refine zK O (λhc4=>?_) (λhc4=>?_)
  ·replace hc4:=xR hc4
   have hr:=XZ hc3 hc4
   exact q4 (asg' O (oNl' (zA (zF (zH (ret_one O (rd_tmp (v:=(vI 1)) O) (λw hw=>⟨by rw [hr]<;>rfl,hw.out⟩)))))))
  ·replace hc4:=xQ hc4
   have hr:=XY hc3 hc4
   exact zI (q2 (asg' O (oNl' (zA (zF (ret_one O (rd_tmp (v:=(vI 0)) O) (λw hw=>⟨by rw [hr]<;>rfl,hw.out⟩)))))))
theorem Ur (a b:Int) (g:Nat) (w:World) (hg:w.heap[g]?=some (.cells ([(vI a),(vI b)]).toArray 3 (0,0))):Calls prog 42 #[(qz (jk g) 2 2)] w (λe w'=>e=.returned (Value.int .i64 (Vu a b))/\Ka w w' (some g)/\w'.heap[g]?=some (.cells ([(vI a),(vI b)]).toArray 3 (0,0))):=by
 refine FF (args:=[(qz (jk g) 2 2)]) (g:=g) (T:=3) (cs:=[(vI a),(vI b)]) func42 O O (leB O) hg (zG (sL [0] O) (q4 (asg' O (oNl' (q2 (asg' O (oNl' (q1 (q4 (AL O (st' (v:=(vI 2)) (AD O underlying79) O ?_)))))))))))
 refine AL O (oNl' (zB (sL [2,3,6,7,8] O) (zA (zN (yB 4 (zj (q4 (st' (Ag (c:=true) O O jY) O (oNl' (q1 (zY O ?_)))))))))))
 refine zI (q1 (zN (q4 (st' (v:=(pP g 0)) (AG (j:=0) O O underlying79 sizeOf3 O Z O) O (BZ 0 (vI a) Dr O (asg' O (q3 (sL [2,3,6,7,8,5] O) (AL O (AL O (st' (C1 (c:=(decide (a≠(0:Int)))) O O O) O (oNl' ?_)))))))))))
 refine zB (sL [2,3,6,7,8,5,14] O) (zA ?_)
 refine zK O (λhc1=>?_) (λhc1=>?_)
 ·replace hc1:=xR hc1
  have hr:Vu a b=a:=if_pos hc1
  exact q4 (AL O (asg' O (oNl' (zB (sL [2,3,6,7,8,5] O) (zA (zF (zT (zH (zH (zT (zH (ret_one O (rd_tmp (v:=(vI a)) O) (λw hw=>⟨by rw [hr]<;>rfl,hw.1,hw.get (i:=0) O⟩)))))))))))))
 ·replace hc1:=xQ hc1
  have hq:=hc1
  refine zI (zM (zA (zL (st' (Ad (c:=(1:Int)) O O jY) O (AL O (oNl' (zB (sL [2,3,6,7,8,5] O) (z7 (zj (q4 (st' (Ag (c:=true) O O jY) O ?_)))))))))))
  refine oNl' (q1 (zY O (zI (q1 (zN (q4 (st' (v:=(pP g 1)) (AG (j:=1) O O underlying79 sizeOf3 O Z O) O (BZ 0 (vI b) Dr O (asg' O (q3 (sL [2,3,6,7,8,5] O) (AL O ?_)))))))))))
  refine AL O (st' (C1 (c:=(decide (b≠(0:Int)))) O O O) O (oNl' (zB (sL [2,3,6,7,8,5,14] O) (zA ?_))))
  refine zK O (λhc1=>?_) (λhc1=>?_)
  ·replace hc1:=xR hc1
   have hr:Vu a b=b:=by rw [Vu,if_neg hq,if_pos hc1]
   exact q4 (AL O (asg' O (oNl' (zB (sL [2,3,6,7,8,5] O) (zA (zF (zT (zH (zH (zT (zH (ret_one O (rd_tmp (v:=(vI b)) O) (λw hw=>⟨by rw [hr]<;>rfl,hw.1,hw.get (i:=0) O⟩)))))))))))))
  ·replace hc1:=xQ hc1
   have hr:Vu a b=0:=by rw [Vu,if_neg hq,if_neg hc1]
   refine zI (zM (zA (zL (st' (Ad (c:=(2:Int)) O O jY) O (AL O (oNl' (zB (sL [2,3,6,7,8,5] O) (z7 (zj (q4 (st' (Ag (c:=false) O O jY) O ?_)))))))))))
   refine oNl' (q1 (zU O (zW (zO (zO (zR (q2 (AL O (asg' O (oNl' (zB (sL [2,3,6,7,8,5] O) ?_)))))))))))
   exact zA (zF (ret_one O (rd_tmp (v:=(vI 0)) O) (λw hw=>⟨by rw [hr]<;>rfl,hw.1,hw.get (i:=0) O⟩)))
end
end Go.Proofs.YtcpkbjjmcleplaaGreatDoor
