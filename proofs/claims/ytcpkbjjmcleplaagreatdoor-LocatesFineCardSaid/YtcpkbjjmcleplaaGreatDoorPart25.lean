import Derived.Test.YtcpkbjjmcleplaaGreatDoorPart24
namespace Go.Proofs.YtcpkbjjmcleplaaGreatDoor
open Go Go.RowKit Go.Proofs.Tryz
open Go.Value renaming slice→qz,bool→qa
set_option linter.unusedVariables false
set_option linter.unusedSimpArgs false
section
theorem Gv (a b:Rat):Sz (a/b)<=Sz a+Sz b:=by
  by_cases h:b=0
  · subst h
    rw [show a/0=0 by rw [Rat.div_def,Rat.inv_zero,Rat.mul_zero]]
    have h1:Sz 0<=1:=by decide +kernel
    have h2:=OB a
    omega
  · exact He h
def IN (x y:Rat):Rat:=if BR x y<0 then y else x
theorem Vj {x y:Rat} {k:Nat} (h1:Sz x<=k) (h2:Sz y<=k):Sz (IN x y)<=k:=by unfold IN;split<;>assumption
def CS (u v:Rat) (s:Rat×Rat):Rat×Rat :=
  if (v-u).num.sign=1 then (IN s.1 (-u/(v-u)),s.2) else if (v-u).num.sign = -1 then (s.1,-IN (-s.2) (-(-u/(v-u)))) else s
def D0 (u v:Rat):Bool:=!decide ((v-u).num.sign=1)&&!decide ((v-u).num.sign = -1)&&decide (u.num.sign<0)
section
variable {u v f t:Rat}
theorem SF (h:(v-u).num.sign=1):(IN f (-u/(v-u)),t)=CS u v (f,t):=by rw [CS,if_pos h]
theorem SE (h:(v-u).num.sign = -1):(f,-IN (-t) (-(-u/(v-u))))=CS u v (f,t):=by rw [CS,if_neg (by rw [h];decide),if_pos h]
theorem O2 (h1:¬(v-u).num.sign=1) (h2:¬(v-u).num.sign = -1):(f,t)=CS u v (f,t):=by rw [CS,if_neg h1,if_neg h2]
theorem OG (h:(v-u).num.sign=1):D0 u v=false:=by simp [D0,h]
theorem OE (h:(v-u).num.sign = -1):D0 u v=false:=by simp [D0,h]
theorem Q8 (h:¬u.num.sign<0):D0 u v=false:=by rw [D0,xD h,Bool.and_false]
theorem OH (h1:¬(v-u).num.sign=1) (h2:¬(v-u).num.sign = -1) (h3:u.num.sign<0):D0 u v=true:=by rw [D0,xD h1,xD h2,xE h3];rfl
end
def Bu (u0 v0 u1 v1 u2 v2:Rat):Rat×Rat×Bool :=
  if D0 u0 v0=true then (0,1,false) else
  if D0 u1 v1=true then ((CS u0 v0 (0,1)).1,(CS u0 v0 (0,1)).2,false) else
  if D0 u2 v2=true then ((CS u1 v1 (CS u0 v0 (0,1))).1,(CS u1 v1 (CS u0 v0 (0,1))).2,false) else
  ((CS u2 v2 (CS u1 v1 (CS u0 v0 (0,1)))).1,(CS u2 v2 (CS u1 v1 (CS u0 v0 (0,1)))).2,decide (BR (CS u2 v2 (CS u1 v1 (CS u0 v0 (0,1)))).1 (CS u2 v2 (CS u1 v1 (CS u0 v0 (0,1)))).2<0))
section
variable {u0 v0 u1 v1 u2 v2 f0 t0 f1 t1 f2 t2:Rat}
theorem am (h0:D0 u0 v0=true):Bu u0 v0 u1 v1 u2 v2=(0,1,false):=by rw [Bu,if_pos h0]
theorem an (h0:D0 u0 v0=false) (e0:(f0,t0)=CS u0 v0 (0,1)) (h1:D0 u1 v1=true):Bu u0 v0 u1 v1 u2 v2=(f0,t0,false):=by rw [Bu,h0,h1,<-e0];rfl
theorem ao (h0:D0 u0 v0=false) (e0:(f0,t0)=CS u0 v0 (0,1)) (h1:D0 u1 v1=false) (e1:(f1,t1)=CS u1 v1 (f0,t0)) (h2:D0 u2 v2=true):Bu u0 v0 u1 v1 u2 v2=(f1,t1,false):=by rw [Bu,h0,h1,h2,<-e0,<-e1];rfl
theorem ap (h0:D0 u0 v0=false) (e0:(f0,t0)=CS u0 v0 (0,1)) (h1:D0 u1 v1=false) (e1:(f1,t1)=CS u1 v1 (f0,t0)) (h2:D0 u2 v2=false) (e2:(f2,t2)=CS u2 v2 (f1,t1)):Bu u0 v0 u1 v1 u2 v2=(f2,t2,decide (BR f2 t2<0)):=by rw [Bu,h0,h1,h2,<-e0,<-e1,<-e2];rfl
theorem Ff {u v:Rat} {s:Rat×Rat} {k:Nat} (h:2*Sz u+Sz v+1<=k) (h1:Sz s.1<=k) (h2:Sz s.2<=k):Sz (CS u v s).1<=k/\Sz (CS u v s).2<=k:=by
  have hk:Sz (-u/(v-u))<=k:=by
    have z1:=Gv (-u) (v-u)
    have z2:=Eq v u
    rw [BN] at z1
    omega
  unfold CS
  split
  · exact ⟨Vj h1 hk,h2⟩
  · split
    · exact ⟨h1,by rw [BN];exact Vj (by rw [BN];exact h2) (by rw [BN];exact hk)⟩
    · exact ⟨h1,h2⟩
end
def Bg (c:P3) (a b:Pt):Rat×Rat×Bool :=
  Bu (AF a c.2.1 c.2.2/AF c.1 c.2.1 c.2.2) (AF b c.2.1 c.2.2/AF c.1 c.2.1 c.2.2) (AF c.1 a c.2.2/AF c.1 c.2.1 c.2.2) (AF c.1 b c.2.2/AF c.1 c.2.1 c.2.2) (AF c.1 c.2.1 a/AF c.1 c.2.1 c.2.2) (AF c.1 c.2.1 b/AF c.1 c.2.1 c.2.2)
theorem EY {a b c d e f:Pt} (h:AF a b c≠0) (ha:BO a<=6) (hb:BO b<=6) (hc:BO c<=6) (hd:BO d<=6) (he:BO e<=6) (hf:BO f<=6):Sz (AF d e f/AF a b c)<=106:=by
  have h1:=He (a:=AF d e f) h
  have h2:=Er a b c
  have h3:=Er d e f
  omega
theorem Xv {u0 v0 u1 v1 u2 v2:Rat} (a0:Sz u0<=106) (b0:Sz v0<=106) (a1:Sz u1<=106) (b1:Sz v1<=106) (a2:Sz u2<=106) (b2:Sz v2<=106):Sz (Bu u0 v0 u1 v1 u2 v2).1<=400/\Sz (Bu u0 v0 u1 v1 u2 v2).2.1<=400:=by
  have z0:Sz 0<=400:=by decide +kernel
  have z1:Sz 1<=400:=by decide +kernel
  have s0:=Ff (u:=u0) (v:=v0) (s:=(0,1)) (k:=400) Z z0 z1
  have s1:=Ff (u:=u1) (v:=v1) (k:=400) Z s0.1 s0.2
  have s2:=Ff (u:=u2) (v:=v2) (k:=400) Z s1.1 s1.2
  unfold Bu
  split
  · exact ⟨z0,z1⟩
  split
  · exact s0
  split
  · exact s1
  · exact s2
end
section
set_option maxRecDepth 100000
theorem Lj (a b:Rat) (hs:Sz a+Sz b<=1000000) (w:World):Calls prog 28 #[aG (AC a),aG (AC b)] w (Ac w (.tuple #[aG (AC (a/b)),vN (if b=0 then 5 else 0)])):=by
 by_cases h:b=0
 ·subst h
  rw [if_pos rfl,show a/0=0 by rw [Rat.div_def,Rat.inv_zero,Rat.mul_zero]]
  exact P4 a w
 ·rw [if_neg h]
  exact I4 a b Z h w
theorem FD (x y:Rat) (hs:Sz x+Sz y<=1000000) (w:World)  :Calls prog 77 #[(aG (AC x)),(aG (AC y))] w (Ac w (aG (AC (IN x y)))):=by
 refine AV (args:=[(aG (AC x)),(aG (AC y))]) func77 O O (leB O) (zI (sL [0,1] O) (q4 (BH (cs:=AC x) O λb1=>BH (cs:=AC y) O λb2=>al Cq O λb3=>q6 (sL [2,3,4] O) (q4 (Af 2 A9 O (Af 1 A9 O (ck' call43 (K1 x y Z) O (st' (Aa (c:=(decide ((BR x y)<(0:Int)))) O O O) O ?_))))))))
 refine oNl' (zB (sL [2,3,4,8] O) (zA ?_))
 refine zK O (λhc0=>?_) (λhc0=>?_)
 ·replace hc0:=xR hc0
  have hr:IN x y=y:=if_pos hc0
  exact q4 (Af 1 A9 O (An O sizeOf60 O (oNl' (zB (sL [2,3,4] O) (zA (zF (zL (ret_one O (Ab (i:=0) (cs:=AC y) O O isAgg60 sizeOf60 O) (λw hw=>⟨by rw [hr],hw.out⟩)))))))))
 ·replace hc0:=xQ hc0
  have hr:IN x y=x:=if_neg hc0
  exact zG (q2 (Af 2 A9 O (An O sizeOf60 O (oNl' (zB (sL [2,3,4] O) (zA (zF (ret_one O (Ab (i:=0) (cs:=AC x) O O isAgg60 sizeOf60 O) (λw hw=>⟨by rw [hr],hw.out⟩)))))))))
theorem Mc (c0 c1 c2 a b:Pt) (s0:BO c0<=6) (s1:BO c1<=6) (s2:BO c2<=6) (sa:BO a<=6) (sb:BO b<=6) (hT:AF c0 c1 c2≠0) (w:World)  :Calls prog 35 #[(aG (Gr (c0,c1,c2))),(aG (Ah a)),(aG (Ah b))] w (Ac w (Value.tuple #[(aG (AC ((Bg (c0,c1,c2) a b).1))),(aG (AC ((Bg (c0,c1,c2) a b).2.1))),(qa ((Bg (c0,c1,c2) a b).2.2))])):=by
 obtain ⟨u0,hu0⟩:∃u,u=AF a c1 c2/AF c0 c1 c2:=⟨_,rfl⟩
 obtain ⟨u1,hu1⟩:∃u,u=AF c0 a c2/AF c0 c1 c2:=⟨_,rfl⟩
 obtain ⟨u2,hu2⟩:∃u,u=AF c0 c1 a/AF c0 c1 c2:=⟨_,rfl⟩
 obtain ⟨v0,hv0⟩:∃u,u=AF b c1 c2/AF c0 c1 c2:=⟨_,rfl⟩
 obtain ⟨v1,hv1⟩:∃u,u=AF c0 b c2/AF c0 c1 c2:=⟨_,rfl⟩
 obtain ⟨v2,hv2⟩:∃u,u=AF c0 c1 b/AF c0 c1 c2:=⟨_,rfl⟩
 have zu0:Sz u0<=106:=by rw [hu0];exact EY hT (by assumption) (by assumption) (by assumption) (by assumption) (by assumption) (by assumption)
 have zu1:Sz u1<=106:=by rw [hu1];exact EY hT (by assumption) (by assumption) (by assumption) (by assumption) (by assumption) (by assumption)
 have zu2:Sz u2<=106:=by rw [hu2];exact EY hT (by assumption) (by assumption) (by assumption) (by assumption) (by assumption) (by assumption)
 have zv0:Sz v0<=106:=by rw [hv0];exact EY hT (by assumption) (by assumption) (by assumption) (by assumption) (by assumption) (by assumption)
 have zv1:Sz v1<=106:=by rw [hv1];exact EY hT (by assumption) (by assumption) (by assumption) (by assumption) (by assumption) (by assumption)
 have zv2:Sz v2<=106:=by rw [hv2];exact EY hT (by assumption) (by assumption) (by assumption) (by assumption) (by assumption) (by assumption)
 have zq0:Sz (0:Rat)<=400:=by decide +kernel
 have zq1:Sz (1:Rat)<=400:=by decide +kernel
 have hS:Bg (c0,c1,c2) a b=Bu u0 v0 u1 v1 u2 v2:=by rw [hu0,hu1,hu2,hv0,hv1,hv2];rfl
 refine AV (args:=[(aG (Gr (c0,c1,c2))),(aG (Ah a)),(aG (Ah b))]) func35 O O (leB O) (zI (sL [0,1,2] O) (q4 (BH (cs:=Gr (c0,c1,c2)) O λb1=>BH (cs:=Ah a) O λb2=>BH (cs:=Ah b) O λb3=>al Cq O λb4=>al Cq O λb5=>asg' O (q3 (sL [3,4,5,6,7,8] O) (st' (v:=(pP b1 0)) (AB (j:=0) O O underlying108 sizeOf62 O jY O) O (By 4 (Ah c0) BJ O ?_))))))
 refine st' (v:=(pP b1 10)) (AB (j:=1) O O underlying108 sizeOf62 O jY O) O (By 4 (Ah c1) BJ O (st' (v:=(pP b1 20)) (AB (j:=2) O O underlying108 sizeOf62 O jY O) O (By 4 (Ah c2) BJ O (Af 3 BJ O (CQ (args:=[(aG (Ah c0)),(aG (Ah c1)),(aG (Ah c2)),(aG (Ah a))]) (v:=(Value.tuple #[(aG (AC u0++AC u1++AC u2)),(vI 0)])) call70 (λw hw=>(by rw [hu0,hu1,hu2];exact N_ c0 c1 c2 a Z hT w)) O (AK O (st' (AJ (v:=(aG (AC u0++AC u1++AC u2))) O O) O (st' (AJ (v:=(vI 0)) O O) O (al IU O λb6=>An O sizeOf153 O (asg' O ?_))))))))))
 refine q3 (sL [3,5,6,7,8,9,10] O) (st' (v:=(pP b1 0)) (AB (j:=0) O O underlying108 sizeOf62 O jY O) O (By 5 (Ah c0) BJ O (st' (v:=(pP b1 10)) (AB (j:=1) O O underlying108 sizeOf62 O jY O) O (By 5 (Ah c1) BJ O (st' (v:=(pP b1 20)) (AB (j:=2) O O underlying108 sizeOf62 O jY O) O (By 5 (Ah c2) BJ O (Af 3 BJ O (CQ (args:=[(aG (Ah c0)),(aG (Ah c1)),(aG (Ah c2)),(aG (Ah b))]) (v:=(Value.tuple #[(aG (AC v0++AC v1++AC v2)),(vI 0)])) call70 (λw hw=>(by rw [hv0,hv1,hv2];exact N_ c0 c1 c2 b Z hT w)) O (AK O (st' (AJ (v:=(aG (AC v0++AC v1++AC v2))) O O) O (st' (AJ (v:=(vI 0)) O O) O ?_)))))))))))
 refine al IU O λb7=>An O sizeOf153 O (asg' O (q3 (sL [3,6,7,8,9,10,11] O) (CQ (args:=[(vI 0)]) (v:=(aG (AC (0:Rat)))) call17 (λw hw=>(by have h9:=FK (0:Int) Z Z w;rw [show ((0:Int):Rat)=(0:Rat) by decide +kernel] at h9;exact h9)) O (CQ (args:=[(vI 1)]) (v:=(aG (AC (1:Rat)))) call17 (λw hw=>(by have h9:=FK (1:Int) Z Z w;rw [show ((1:Int):Rat)=(1:Rat) by decide +kernel] at h9;exact h9)) O (F8 O sizeOf60 O (E7 O sizeOf60 O (q6 (sL [3,6,7,8,9,10,11] O) (q4 (AK O (st' (DH (c:=false) O O jY) O ?_))))))))))
 refine oNl' (zB (sL [3,6,7,8,9,11,42] O) (zA (zU O (zG (q1 (q4 (AK O (oNl' (zB (sL [3,6,7,8,9,11,45] O) (zA (zM ?_)))))))))))
 refine yF 5 (zl (q4 (st' (Aa (c:=true) O O jY) O (oNl' (q1 (zY O (zG (q1 (zM (q4 (AK O ?_)))))))))))
 refine asg' O (q6 (sL [3,6,7,8,9,11,45,13] O) (rN [(0,true),(1,true),(2,true),(3,true),(4,true),(5,true),(6,false)] [⟨7,14,60,AC (0:Rat)⟩] [(8,false)] sr jV (λ_ _ d _ _ h=>by cases d<;>exact h) (GD O O Cq O (GP)) O (Kb O (HZ (v:=(pP b7 0)) O (AB (j:=0) O O underlying153 sizeOf60 O jY O) O (Ta 0 (AC v0) A9 O (Kb O (HZ (v:=(pP b6 0)) O (AB (j:=0) O O underlying153 sizeOf60 O jY O) O (Ta 1 (AC u0) A9 O (zf O λEF EL=>?_)))))))))
 have hz1:=Eq v0 u0
 refine ck' call16 (G6 v0 u0 (by (try simp only [BN]);omega)) O (ze sr O (zx λb8=>zD O (An O sizeOf60 O (zC (sl sr) (zP (zB (sL [3,6,7,8,9,11,45,13,14] O) (q1 (rN [(0,true),(1,true),(2,true),(4,true),(3,false),(5,false),(6,true),(7,true),(8,true)] [⟨9,15,60,AC (0:Rat)⟩] [(10,false),(11,true)] sr jV (λ_ _ d _ _ h=>by cases d<;>exact h) (GD O O Cq O (GP)) O (Kb O (HZ (v:=(pP b6 0)) O (AB (j:=0) O O underlying153 sizeOf60 O jY O) O ?_))))))))))
 refine Ta 2 (AC u0) A9 O (En 0 A9 O (zf O λEF EL=>ck' call32 (EH u0) O (ze sr O (zf O λEF EL=>?_))))
 have hz2:=Gv (-u0) (v0-u0)
 refine ck' call28 (Lj (-u0) (v0-u0) (by (try simp only [BN] at *);omega)) O (ze sr O (Kb O (HZ O (AJ (v:=(aG (AC ((-u0)/(v0-u0))))) O O) O (HZ O (AJ (v:=(vN (if v0-u0=0 then 5 else 0))) O O) O (zx λb9=>zD O (An O sizeOf60 O (zC (sl sr) (pS' O (zP (zB (sL [3,6,7,8,9,11,45,13,14,15] O) ?_))))))))))
 refine q2 (Af 1 A9 O (ck' call63 (Dh (v0-u0)) O (oNl' (zB (sL [3,6,7,8,9,11,45,13,14,15,65] O) (zA ?_)))))
 refine yV (tg λ(f0:Rat) (t0:Rat)=>(f0,t0)=CS u0 v0 ((0:Rat),(1:Rat))/\D0 u0 v0=false/\Sz f0<=400/\Sz t0<=400) (tg λ(f0:Rat) (t0:Rat)=>[(6,(pP b4 0)),(7,(pP b5 0)),(9,(pP b6 0)),(11,(pP b7 0)),(45,(vI 0))]) (tg λ(f0:Rat) (t0:Rat)=>[AO b9 60 (AC ((-u0)/(v0-u0))),AO b8 60 (AC (v0-u0)),AO b7 153 (AC v0++AC v1++AC v2),AO b6 153 (AC u0++AC u1++AC u2),AO b5 60 (AC t0),AO b4 60 (AC f0),AO b3 62 (Ah b),AO b2 62 (Ah a),AO b1 108 (Gr (c0,c1,c2))]) ?_ ?_
 ·refine zM (q4 (st' (Au (c:=(decide (((v0-u0).num.sign)=(1:Int)))) O O O) O (asg' O (oNl' (zB (sL [3,6,7,8,9,11,45,13,14,15,65,73] O) (zA ?_))))))
  refine zK O (λhc2=>?_) (λhc2=>?_)
  ·replace hc2:=xR hc2
   exact zH (Af 5 A9 O (Af 0 A9 O (ck' call77 (FD (0:Rat) ((-u0)/(v0-u0)) (by (try simp only [BN] at *);omega)) O (Dt 5 (off:=0) (vs:=AC (IN (0:Rat) ((-u0)/(v0-u0)))) (cs':=AC (IN (0:Rat) ((-u0)/(v0-u0)))) (AG O) O sizeOf60 O (oNl' (zB (sL [3,6,7,8,9,11,45,13,14,15,65] O) (zJ (zn (IN (0:Rat) ((-u0)/(v0-u0))) (1:Rat) ((λe=>⟨e,OG hc2,(by have z:=Ff (u:=u0) (v:=v0) (s:=((0:Rat),(1:Rat))) (k:=400) Z (by assumption) (by assumption);rw [<-e] at z;exact z)⟩) (SF hc2)) (sF O) sr))))))))
  ·replace hc2:=xQ hc2
   refine q4 (st' (Au (c:=(decide (((v0-u0).num.sign)=(-1:Int)))) O O O) O (asg' O (oNl' (zB (sL [3,6,7,8,9,11,45,13,14,15,65,78] O) (zA ?_)))))
   refine zK O (λhc3=>?_) (λhc3=>?_)
   ·replace hc3:=xR hc3
    refine B9 [(2,true),(0,false),(1,false),(3,false),(4,false),(5,false),(6,false)] (sk (sk (sk (sk (sl sr))))) (B3 0 A9 O (zD O (Af 4 A9 O (zC (sk (sk (sk (sk (sl sr))))) (zD O (ck' call32 (EH (1:Rat)) O (zC (sk (sk (sk (sk (sl sr))))) (zD O (ck' call32 (EH ((-u0)/(v0-u0))) O (zC (sk (sk (sk (sk (sl sr))))) (zD O ?_)))))))))))
    exact ck' call77 (FD (-(1:Rat)) (-((-u0)/(v0-u0))) (by (try simp only [BN] at *);omega)) O (zC (sk (sk (sk (sk (sl sr))))) (zD O (ck' call32 (EH (IN (-(1:Rat)) (-((-u0)/(v0-u0))))) O (zC (sk (sk (sk (sk (sl sr))))) (zD O (Dt 4 (off:=0) (vs:=AC (-(IN (-(1:Rat)) (-((-u0)/(v0-u0)))))) (cs':=AC (-(IN (-(1:Rat)) (-((-u0)/(v0-u0)))))) (AG O) O sizeOf60 O (zC (sk (sk (sk (sk (sl sr))))) (zP (zB (sL [3,6,7,8,9,11,45,13,14,15,65] O) (zJ (zn (0:Rat) (-(IN (-(1:Rat)) (-((-u0)/(v0-u0))))) ((λe=>⟨e,OE hc3,(by have z:=Ff (u:=u0) (v:=v0) (s:=((0:Rat),(1:Rat))) (k:=400) Z (by assumption) (by assumption);rw [<-e] at z;exact z)⟩) (SE hc3)) (sF O) sr)))))))))))
   ·replace hc3:=xQ hc3
    refine q4 (AK O (st' (v:=(pP b6 0)) (AB (j:=0) O O underlying153 sizeOf60 O jY O) O (By 3 (AC u0) A9 O (ck' call63 (Dh u0) O (st' (Aa (c:=(decide (u0.num.sign<(0:Int)))) O O O) O (oNl' (zB (sL [3,6,7,8,9,11,45,13,14,15,65,70] O) (zA ?_))))))))
    refine zK O (λhc4=>?_) (λhc4=>?_)
    ·replace hc4:=xR hc4
     refine zS (B9 [(0,true),(1,true),(2,false),(3,false),(4,true)] sr (B3 5 A9 O (B3 4 A9 O (zD O (Dt 5 (off:=0) (vs:=AC (0:Rat)) (cs':=AC (0:Rat)) (AG O) O sizeOf60 O (zC sr (zD O (Dt 4 (off:=0) (vs:=AC (1:Rat)) (cs':=AC (1:Rat)) (AG O) O sizeOf60 O (zC sr (pS' O (zP ?_)))))))))))
     exact zB (sL [3,6,7,8,9,11,45,13,14,15,65] O) (zA (zF (zV (ym (zV (zL (zL (zV (zL (DV O (Ab (i:=5) (cs:=AC (0:Rat)) O O isAgg60 sizeOf60 O) (Ab (i:=4) (cs:=AC (1:Rat)) O O isAgg60 sizeOf60 O) (rd_tmp (v:=(qa false)) O) (λw hw=>⟨by rw [hS,am (OH hc2 hc3 hc4)]<;>rfl,hw.out⟩)))))))))))
    ·replace hc4:=xQ hc4
     exact zG (zJ (zn (0:Rat) (1:Rat) ((λe=>⟨e,Q8 hc4,(by have z:=Ff (u:=u0) (v:=v0) (s:=((0:Rat),(1:Rat))) (k:=400) Z (by assumption) (by assumption);rw [<-e] at z;exact z)⟩) (O2 hc2 hc3)) (sF O) sr))
 ·intro f0 t0 hJ
  obtain ⟨e0,h0,zf0,zt0⟩:=hJ
  refine zJ (zA (zH (st' (AX (c:=(1:Int)) O O jY) O (AK O (oNl' (zB (sL [6,7,9,11,45] O) (z8 (zl (q4 (st' (Aa (c:=true) O O jY) O (oNl' ?_)))))))))))
  refine q1 (zY O (zG (q1 (zM (q4 (AK O (asg' O (q6 (sL [6,7,9,11,45,13] O) (rN [(0,true),(1,true),(2,true),(3,true),(4,true),(5,true),(6,false)] [⟨7,14,60,AC (0:Rat)⟩] [(8,false)] sr jV (λ_ _ d _ _ h=>by cases d<;>exact h) (GD O O Cq O (GP)) O (Kb O (HZ (v:=(pP b7 5)) O (AB (j:=1) O O underlying153 sizeOf60 O jY O) O ?_)))))))))))
  refine Ta 2 (AC v1) A9 O (Kb O (HZ (v:=(pP b6 5)) O (AB (j:=1) O O underlying153 sizeOf60 O jY O) O (Ta 3 (AC u1) A9 O (zf O λEF EL=>?_))))
  have hz3:=Eq v1 u1
  refine ck' call16 (G6 v1 u1 (by (try simp only [BN]);omega)) O (ze sr O (zx λb10=>zD O (An O sizeOf60 O (zC (sl sr) (zP (zB (sL [6,7,9,11,45,13,14] O) (q1 (rN [(0,true),(1,true),(2,true),(4,true),(3,false),(5,false),(6,true),(7,true),(8,true)] [⟨9,15,60,AC (0:Rat)⟩] [(10,false),(11,true)] sr jV (λ_ _ d _ _ h=>by cases d<;>exact h) (GD O O Cq O (GP)) O (Kb O (HZ (v:=(pP b6 5)) O (AB (j:=1) O O underlying153 sizeOf60 O jY O) O ?_))))))))))
  refine Ta 4 (AC u1) A9 O (En 0 A9 O (zf O λEF EL=>ck' call32 (EH u1) O (ze sr O (zf O λEF EL=>?_))))
  have hz4:=Gv (-u1) (v1-u1)
  refine ck' call28 (Lj (-u1) (v1-u1) (by (try simp only [BN] at *);omega)) O (ze sr O (Kb O (HZ O (AJ (v:=(aG (AC ((-u1)/(v1-u1))))) O O) O (HZ O (AJ (v:=(vN (if v1-u1=0 then 5 else 0))) O O) O (zx λb11=>zD O (An O sizeOf60 O (zC (sl sr) (pS' O (zP (zB (sL [6,7,9,11,45,13,14,15] O) ?_))))))))))
  refine q2 (Af 1 A9 O (ck' call63 (Dh (v1-u1)) O (oNl' (zB (sL [6,7,9,11,45,13,14,15,65] O) (zA ?_)))))
  refine yV (tg λ(f1:Rat) (t1:Rat)=>(f1,t1)=CS u1 v1 (f0,t0)/\D0 u1 v1=false/\Sz f1<=400/\Sz t1<=400) (tg λ(f1:Rat) (t1:Rat)=>[(6,(pP b4 0)),(7,(pP b5 0)),(9,(pP b6 0)),(11,(pP b7 0)),(45,(vI 1))]) (tg λ(f1:Rat) (t1:Rat)=>[AO b11 60 (AC ((-u1)/(v1-u1))),AO b10 60 (AC (v1-u1)),AO b9 60 (AC ((-u0)/(v0-u0))),AO b8 60 (AC (v0-u0)),AO b7 153 (AC v0++AC v1++AC v2),AO b6 153 (AC u0++AC u1++AC u2),AO b5 60 (AC t1),AO b4 60 (AC f1),AO b3 62 (Ah b),AO b2 62 (Ah a),AO b1 108 (Gr (c0,c1,c2))]) ?_ ?_
  ·refine zM (q4 (st' (Au (c:=(decide (((v1-u1).num.sign)=(1:Int)))) O O O) O (asg' O (oNl' (zB (sL [6,7,9,11,45,13,14,15,65,73] O) (zA ?_))))))
   refine zK O (λhc2=>?_) (λhc2=>?_)
   ·replace hc2:=xR hc2
    exact zH (Af 7 A9 O (Af 0 A9 O (ck' call77 (FD f0 ((-u1)/(v1-u1)) (by (try simp only [BN] at *);omega)) O (Dt 7 (off:=0) (vs:=AC (IN f0 ((-u1)/(v1-u1)))) (cs':=AC (IN f0 ((-u1)/(v1-u1)))) (AG O) O sizeOf60 O (oNl' (zB (sL [6,7,9,11,45,13,14,15,65] O) (zJ (zn (IN f0 ((-u1)/(v1-u1))) t0 ((λe=>⟨e,OG hc2,(by have z:=Ff (u:=u1) (v:=v1) (s:=(f0,t0)) (k:=400) Z (by assumption) (by assumption);rw [<-e] at z;exact z)⟩) (SF hc2)) (sF O) sr))))))))
   ·replace hc2:=xQ hc2
    refine q4 (st' (Au (c:=(decide (((v1-u1).num.sign)=(-1:Int)))) O O O) O (asg' O (oNl' (zB (sL [6,7,9,11,45,13,14,15,65,78] O) (zA ?_)))))
    refine zK O (λhc3=>?_) (λhc3=>?_)
    ·replace hc3:=xR hc3
     refine B9 [(2,true),(0,false),(1,false),(3,false),(4,false),(5,false),(6,false)] (sk (sk (sk (sk (sk (sk (sl sr))))))) (B3 0 A9 O (zD O (Af 6 A9 O (zC (sk (sk (sk (sk (sk (sk (sl sr))))))) (zD O (ck' call32 (EH t0) O (zC (sk (sk (sk (sk (sk (sk (sl sr))))))) (zD O (ck' call32 (EH ((-u1)/(v1-u1))) O (zC (sk (sk (sk (sk (sk (sk (sl sr))))))) (zD O ?_)))))))))))
     exact ck' call77 (FD (-t0) (-((-u1)/(v1-u1))) (by (try simp only [BN] at *);omega)) O (zC (sk (sk (sk (sk (sk (sk (sl sr))))))) (zD O (ck' call32 (EH (IN (-t0) (-((-u1)/(v1-u1))))) O (zC (sk (sk (sk (sk (sk (sk (sl sr))))))) (zD O (Dt 6 (off:=0) (vs:=AC (-(IN (-t0) (-((-u1)/(v1-u1)))))) (cs':=AC (-(IN (-t0) (-((-u1)/(v1-u1)))))) (AG O) O sizeOf60 O (zC (sk (sk (sk (sk (sk (sk (sl sr))))))) (zP (zB (sL [6,7,9,11,45,13,14,15,65] O) (zJ (zn f0 (-(IN (-t0) (-((-u1)/(v1-u1))))) ((λe=>⟨e,OE hc3,(by have z:=Ff (u:=u1) (v:=v1) (s:=(f0,t0)) (k:=400) Z (by assumption) (by assumption);rw [<-e] at z;exact z)⟩) (SE hc3)) (sF O) sr)))))))))))
    ·replace hc3:=xQ hc3
     refine q4 (AK O (st' (v:=(pP b6 5)) (AB (j:=1) O O underlying153 sizeOf60 O jY O) O (By 5 (AC u1) A9 O (ck' call63 (Dh u1) O (st' (Aa (c:=(decide (u1.num.sign<(0:Int)))) O O O) O (oNl' (zB (sL [6,7,9,11,45,13,14,15,65,70] O) (zA ?_))))))))
     refine zK O (λhc4=>?_) (λhc4=>?_)
     ·replace hc4:=xR hc4
      refine zS (B9 [(0,true),(1,true),(2,false),(3,false),(4,true)] sr (B3 7 A9 O (B3 6 A9 O (zD O (Dt 7 (off:=0) (vs:=AC f0) (cs':=AC f0) (AG O) O sizeOf60 O (zC sr (zD O (Dt 6 (off:=0) (vs:=AC t0) (cs':=AC t0) (AG O) O sizeOf60 O (zC sr (pS' O (zP ?_)))))))))))
      exact zB (sL [6,7,9,11,45,13,14,15,65,8] O) (zA (zF (zV (ym (zV (zL (zL (zV (zL (DV O (Ab (i:=7) (cs:=AC f0) O O isAgg60 sizeOf60 O) (Ab (i:=6) (cs:=AC t0) O O isAgg60 sizeOf60 O) (rd_tmp (v:=(qa false)) O) (λw hw=>⟨by rw [hS,an h0 e0 (OH hc2 hc3 hc4)]<;>rfl,hw.out⟩)))))))))))
     ·replace hc4:=xQ hc4
      exact zG (zJ (zn f0 t0 ((λe=>⟨e,Q8 hc4,(by have z:=Ff (u:=u1) (v:=v1) (s:=(f0,t0)) (k:=400) Z (by assumption) (by assumption);rw [<-e] at z;exact z)⟩) (O2 hc2 hc3)) (sF O) sr))
  ·intro f1 t1 hJ
   obtain ⟨e1,h1,zf1,zt1⟩:=hJ
   refine zJ (zA (zH (st' (AX (c:=(2:Int)) O O jY) O (AK O (oNl' (zB (sL [6,7,9,11,45] O) (z8 (zl (q4 (st' (Aa (c:=true) O O jY) O (oNl' ?_)))))))))))
   refine q1 (zY O (zG (q1 (zM (q4 (AK O (asg' O (q6 (sL [6,7,9,11,45,13] O) (rN [(0,true),(1,true),(2,true),(3,true),(4,true),(5,true),(6,false)] [⟨7,14,60,AC (0:Rat)⟩] [(8,false)] sr jV (λ_ _ d _ _ h=>by cases d<;>exact h) (GD O O Cq O (GP)) O (Kb O (HZ (v:=(pP b7 10)) O (AB (j:=2) O O underlying153 sizeOf60 O jY O) O ?_)))))))))))
   refine Ta 4 (AC v2) A9 O (Kb O (HZ (v:=(pP b6 10)) O (AB (j:=2) O O underlying153 sizeOf60 O jY O) O (Ta 5 (AC u2) A9 O (zf O λEF EL=>?_))))
   have hz5:=Eq v2 u2
   refine ck' call16 (G6 v2 u2 (by (try simp only [BN]);omega)) O (ze sr O (zx λb12=>zD O (An O sizeOf60 O (zC (sl sr) (zP (zB (sL [6,7,9,11,45,13,14] O) (q1 (rN [(0,true),(1,true),(2,true),(4,true),(3,false),(5,false),(6,true),(7,true),(8,true)] [⟨9,15,60,AC (0:Rat)⟩] [(10,false),(11,true)] sr jV (λ_ _ d _ _ h=>by cases d<;>exact h) (GD O O Cq O (GP)) O (Kb O (HZ (v:=(pP b6 10)) O (AB (j:=2) O O underlying153 sizeOf60 O jY O) O ?_))))))))))
   refine Ta 6 (AC u2) A9 O (En 0 A9 O (zf O λEF EL=>ck' call32 (EH u2) O (ze sr O (zf O λEF EL=>?_))))
   have hz6:=Gv (-u2) (v2-u2)
   refine ck' call28 (Lj (-u2) (v2-u2) (by (try simp only [BN] at *);omega)) O (ze sr O (Kb O (HZ O (AJ (v:=(aG (AC ((-u2)/(v2-u2))))) O O) O (HZ O (AJ (v:=(vN (if v2-u2=0 then 5 else 0))) O O) O (zx λb13=>zD O (An O sizeOf60 O (zC (sl sr) (pS' O (zP (zB (sL [6,7,9,11,45,13,14,15] O) ?_))))))))))
   refine q2 (Af 1 A9 O (ck' call63 (Dh (v2-u2)) O (oNl' (zB (sL [6,7,9,11,45,13,14,15,65] O) (zA ?_)))))
   refine yV (tg λ(f2:Rat) (t2:Rat)=>(f2,t2)=CS u2 v2 (f1,t1)/\D0 u2 v2=false/\Sz f2<=400/\Sz t2<=400) (tg λ(f2:Rat) (t2:Rat)=>[(6,(pP b4 0)),(7,(pP b5 0)),(9,(pP b6 0)),(11,(pP b7 0)),(45,(vI 2))]) (tg λ(f2:Rat) (t2:Rat)=>[AO b13 60 (AC ((-u2)/(v2-u2))),AO b12 60 (AC (v2-u2)),AO b11 60 (AC ((-u1)/(v1-u1))),AO b10 60 (AC (v1-u1)),AO b9 60 (AC ((-u0)/(v0-u0))),AO b8 60 (AC (v0-u0)),AO b7 153 (AC v0++AC v1++AC v2),AO b6 153 (AC u0++AC u1++AC u2),AO b5 60 (AC t2),AO b4 60 (AC f2),AO b3 62 (Ah b),AO b2 62 (Ah a),AO b1 108 (Gr (c0,c1,c2))]) ?_ ?_
   ·refine zM (q4 (st' (Au (c:=(decide (((v2-u2).num.sign)=(1:Int)))) O O O) O (asg' O (oNl' (zB (sL [6,7,9,11,45,13,14,15,65,73] O) (zA ?_))))))
    refine zK O (λhc2=>?_) (λhc2=>?_)
    ·replace hc2:=xR hc2
     exact zH (Af 9 A9 O (Af 0 A9 O (ck' call77 (FD f1 ((-u2)/(v2-u2)) (by (try simp only [BN] at *);omega)) O (Dt 9 (off:=0) (vs:=AC (IN f1 ((-u2)/(v2-u2)))) (cs':=AC (IN f1 ((-u2)/(v2-u2)))) (AG O) O sizeOf60 O (oNl' (zB (sL [6,7,9,11,45,13,14,15,65] O) (zJ (zn (IN f1 ((-u2)/(v2-u2))) t1 ((λe=>⟨e,OG hc2,(by have z:=Ff (u:=u2) (v:=v2) (s:=(f1,t1)) (k:=400) Z (by assumption) (by assumption);rw [<-e] at z;exact z)⟩) (SF hc2)) (sF O) sr))))))))
    ·replace hc2:=xQ hc2
     refine q4 (st' (Au (c:=(decide (((v2-u2).num.sign)=(-1:Int)))) O O O) O (asg' O (oNl' (zB (sL [6,7,9,11,45,13,14,15,65,78] O) (zA ?_)))))
     refine zK O (λhc3=>?_) (λhc3=>?_)
     ·replace hc3:=xR hc3
      refine B9 [(2,true),(0,false),(1,false),(3,false),(4,false),(5,false),(6,false)] (sk (sk (sk (sk (sk (sk (sk (sk (sl sr))))))))) (B3 0 A9 O (zD O (Af 8 A9 O (zC (sk (sk (sk (sk (sk (sk (sk (sk (sl sr))))))))) (zD O (ck' call32 (EH t1) O (zC (sk (sk (sk (sk (sk (sk (sk (sk (sl sr))))))))) (zD O (ck' call32 (EH ((-u2)/(v2-u2))) O (zC (sk (sk (sk (sk (sk (sk (sk (sk (sl sr))))))))) (zD O ?_)))))))))))
      exact ck' call77 (FD (-t1) (-((-u2)/(v2-u2))) (by (try simp only [BN] at *);omega)) O (zC (sk (sk (sk (sk (sk (sk (sk (sk (sl sr))))))))) (zD O (ck' call32 (EH (IN (-t1) (-((-u2)/(v2-u2))))) O (zC (sk (sk (sk (sk (sk (sk (sk (sk (sl sr))))))))) (zD O (Dt 8 (off:=0) (vs:=AC (-(IN (-t1) (-((-u2)/(v2-u2)))))) (cs':=AC (-(IN (-t1) (-((-u2)/(v2-u2)))))) (AG O) O sizeOf60 O (zC (sk (sk (sk (sk (sk (sk (sk (sk (sl sr))))))))) (zP (zB (sL [6,7,9,11,45,13,14,15,65] O) (zJ (zn f1 (-(IN (-t1) (-((-u2)/(v2-u2))))) ((λe=>⟨e,OE hc3,(by have z:=Ff (u:=u2) (v:=v2) (s:=(f1,t1)) (k:=400) Z (by assumption) (by assumption);rw [<-e] at z;exact z)⟩) (SE hc3)) (sF O) sr)))))))))))
     ·replace hc3:=xQ hc3
      refine q4 (AK O (st' (v:=(pP b6 10)) (AB (j:=2) O O underlying153 sizeOf60 O jY O) O (By 7 (AC u2) A9 O (ck' call63 (Dh u2) O (st' (Aa (c:=(decide (u2.num.sign<(0:Int)))) O O O) O (oNl' (zB (sL [6,7,9,11,45,13,14,15,65,70] O) (zA ?_))))))))
      refine zK O (λhc4=>?_) (λhc4=>?_)
      ·replace hc4:=xR hc4
       refine zS (B9 [(0,true),(1,true),(2,false),(3,false),(4,true)] sr (B3 9 A9 O (B3 8 A9 O (zD O (Dt 9 (off:=0) (vs:=AC f1) (cs':=AC f1) (AG O) O sizeOf60 O (zC sr (zD O (Dt 8 (off:=0) (vs:=AC t1) (cs':=AC t1) (AG O) O sizeOf60 O (zC sr (pS' O (zP ?_)))))))))))
       exact zB (sL [6,7,9,11,45,13,14,15,65,8] O) (zA (zF (zV (ym (zV (zL (zL (zV (zL (DV O (Ab (i:=9) (cs:=AC f1) O O isAgg60 sizeOf60 O) (Ab (i:=8) (cs:=AC t1) O O isAgg60 sizeOf60 O) (rd_tmp (v:=(qa false)) O) (λw hw=>⟨by rw [hS,ao h0 e0 h1 e1 (OH hc2 hc3 hc4)]<;>rfl,hw.out⟩)))))))))))
      ·replace hc4:=xQ hc4
       exact zG (zJ (zn f1 t1 ((λe=>⟨e,Q8 hc4,(by have z:=Ff (u:=u2) (v:=v2) (s:=(f1,t1)) (k:=400) Z (by assumption) (by assumption);rw [<-e] at z;exact z)⟩) (O2 hc2 hc3)) (sF O) sr))
   ·intro f2 t2 hJ
    obtain ⟨e2,h2,zf2,zt2⟩:=hJ
    refine zJ (zA (zH (st' (AX (c:=(3:Int)) O O jY) O (AK O (oNl' (zB (sL [6,7,9,11,45] O) (z8 (zl (q4 (st' (Aa (c:=false) O O jY) O (oNl' ?_)))))))))))
    refine q1 (zU O (zW (zO (zO (zR (q1 (B9 (EV 4++[(4,false),(5,true),(6,false),(7,false),(8,true)]) sr (B3 9 A9 O (B3 8 A9 O (B3 9 A9 O (B3 8 A9 O ?_)))))))))))
    refine zD O (ck' call43 (K1 f2 t2 Z) O (zC sr (Am O (Aa (c:=(decide ((BR f2 t2)<(0:Int)))) O O O) (zD O (Dt 9 (off:=0) (vs:=AC f2) (cs':=AC f2) (AG O) O sizeOf60 O (zC sr (zD O (Dt 8 (off:=0) (vs:=AC t2) (cs':=AC t2) (AG O) O sizeOf60 O (zC sr (pS' O (zP ?_)))))))))))
    exact zB (sL [6,7,9,11,45,8] O) (zA (zF (DV O (Ab (i:=9) (cs:=AC f2) O O isAgg60 sizeOf60 O) (Ab (i:=8) (cs:=AC t2) O O isAgg60 sizeOf60 O) (rd_tmp (v:=(qa (decide ((BR f2 t2)<(0:Int))))) O) (λw hw=>⟨by rw [hS,ap h0 e0 h1 e1 h2 e2]<;>rfl,hw.out⟩))))
end
section
def G0 (a b:Nat):Int:=if a<b then -1 else if b<a then 1 else 0
theorem Yx {a b:Nat} (h:a<b):G0 a b = -1:=if_pos h
theorem Yw {a b:Nat} (h:¬a<b) (h2:b<a):G0 a b=1:=by rw [G0,if_neg h,if_pos h2]
theorem Yv {a b:Nat} (h:¬a<b) (h2:¬b<a):G0 a b=0:=by rw [G0,if_neg h,if_neg h2]
def XB (a b:Int):Int:=if a≠0 then a else if b≠0 then b else 0
section
variable {P:Program} {n:Nat} {F:List (Nat×Value)} {w0:Ay} {L:List As} {d:Option Tmp} {x:Operand} {t:TypeId} {p:String} {af:Array Edge} {g:Option (Nat×Bool)}
theorem NE {tx e:TypeId} {a:Option Addr} {len cap k:Nat} {hi mx:Operand} {ki kj:IntKind} {m:Nat} (hx:evF F x=some (.slice a len cap)) (hh:evF F hi=some (.int ki (m:Nat))) (hj:evF F mx=some (.int kj (m:Nat))) (hu:P.underlying tx=some (.slice e)) (hs:∀w,(sizeOf e).run P w=.ok k w) (hm:m<=cap) :
    Ex P n F w0 L ⟨d,.slice tx x none (some hi) (some mx),t,p,af,g⟩ (.slice a m m):=λA w ha _=>by
  simp only [execOp,ha.ev hx,Instr.sliceAt,run_underlying hu,Instr.slice,Option.map_some,Option.map_none,ha.ev hh,ha.ev hj,Instr.sliceBounds,Instr.sliceBound,asIntOf,Sem.run_bind,Result.andThen_ok,Sem.run_pure]
  have h1:(0:Int)<=(m:Int)/\(m:Int)<=(cap:Int):=⟨Z,Z⟩
  simp [h1.2,hs]
  cases a<;>simp [Addr.add]
end
theorem XD {p:Option Addr} {n c:Nat} (h:OwnOk p n c) (hn:n≠0):∃g,p=some ⟨g,0,none⟩:=by
  cases p with
  | none=>exact absurd (h.nil rfl).1 hn
  | some a=>exact ⟨a.block,by rw [<-h.at0 a rfl]⟩
section
variable {P:Program} {ops:Array Oper} {rest:List Oper} {Q:Exit->Act->World->Prop} {n:Nat} {F:List (Nat×Value)} {w0:Ay} {L L':List As}
theorem yU (hs:L'.Sublist L) (h:AP P ops rest Q n F w0 L'):AP P ops rest Q n F w0 L:=λa w ha hw=>h a w ha (hw.weak hs)
end
end
section
structure Pc where
  tri:Nat
  lo:Rat
  hi:Rat
deriving DecidableEq
def Ca (p:Pc):List Value:=vN p.tri::(AC p.lo++AC p.hi)
theorem DM (p:Pc):(Ca p).length=11:=rfl
def Ha (x y:Pc):Int:=if BR x.lo y.lo≠0 then BR x.lo y.lo else G0 x.tri y.tri
theorem cu (x y:Pc):XB (BR x.lo y.lo) (G0 x.tri y.tri)=Ha x y:=by
  unfold XB Ha
  split
  · rfl
  · split
    · rfl
    · rename_i h;exact (Decidable.of_not_not h).symm
def Iq (x y:Pc) (tl:List Value):List Value:=if Ha y x<0 then Ca y++(Ca x++tl) else Ca x++(Ca y++tl)
theorem di {x y:Pc} {tl:List Value} (h:Ha y x<0):Iq x y tl=Ca y++(Ca x++tl):=if_pos h
theorem dh {x y:Pc} {tl:List Value} (h:¬Ha y x<0):Iq x y tl=Ca x++(Ca y++tl):=if_neg h
def Gc (a b:Pt) (f t:Rat):Pt:=a+Bm (b-a) ((((1:Int):Rat)/((2:Int):Rat))*(f+t))
def G_ (ps:List Pt) (a b:Pt) (t:Nat) (T:Tq3):List Pc :=
  if (Bg (B_ ps T) a b).2.2=true then (if BZ ps (Gc a b (Bg (B_ ps T) a b).1 (Bg (B_ ps T) a b).2.1) T=1 then [⟨t,(Bg (B_ ps T) a b).1,(Bg (B_ ps T) a b).2.1⟩] else []) else []
def Bc (ps:List Pt) (ts:List (Tq3)) (a b:Pt):Nat->List Pc
  | 0=>[]
  | t+1=>Bc ps ts a b t++G_ ps a b t (ts.getD t (0,0,0))
section
variable {ps:List Pt} {ts:List (Tq3)} {a b:Pt} {t:Nat} {sv:Rat×Rat×Bool}
theorem MR (h:sv=Bg (B_ ps (ts.getD t (0,0,0))) a b) (h1:sv.2.2=false):Bc ps ts a b (t+1)=Bc ps ts a b t:=by
  rw [Bc,G_,<-h,h1];simp
theorem MP (h:sv=Bg (B_ ps (ts.getD t (0,0,0))) a b) (h1:sv.2.2=true) (h2:¬BZ ps (Gc a b sv.1 sv.2.1) (ts.getD t (0,0,0))=1):Bc ps ts a b (t+1)=Bc ps ts a b t:=by
  rw [Bc,G_,<-h,if_pos h1,if_neg h2,List.append_nil]
theorem Ox (h:sv=Bg (B_ ps (ts.getD t (0,0,0))) a b) (h1:sv.2.2=true) (h2:BZ ps (Gc a b sv.1 sv.2.1) (ts.getD t (0,0,0))=1):Bc ps ts a b (t+1)=Bc ps ts a b t++[⟨t,sv.1,sv.2.1⟩]:=by
  rw [Bc,G_,<-h,if_pos h1,if_pos h2]
theorem QK (T:Tq3):(G_ ps a b t T).length<=1:=by
  unfold G_
  split
  · split<;>simp
  · simp
theorem Gf:∀t,(Bc ps ts a b t).length<=t
  | 0=>Nat.le_refl _
  | t+1=>by
    have h1:=Gf t
    have h2:=QK (ps:=ps) (a:=a) (b:=b) (t:=t) (ts.getD t (0,0,0))
    rw [Bc,xJ]
    omega
end
theorem JY {c:P3} {a b:Pt} (h:AF c.1 c.2.1 c.2.2≠0) (h1:BO c.1<=6) (h2:BO c.2.1<=6) (h3:BO c.2.2<=6) (ha:BO a<=6) (hb:BO b<=6):Sz (Bg c a b).1<=400/\Sz (Bg c a b).2.1<=400 :=
  Xv (EY h h1 h2 h3 ha h2 h3) (EY h h1 h2 h3 hb h2 h3) (EY h h1 h2 h3 h1 ha h3) (EY h h1 h2 h3 h1 hb h3) (EY h h1 h2 h3 h1 h2 ha) (EY h h1 h2 h3 h1 h2 hb)
def Iy (rl:List Pc) (s:Option Addr×Nat):Prop:=OwnOk s.1 rl.length s.2/\(rl=[]->s=(none,0))
theorem Iy.more {rl rl':List Pc} {x:Pc} {p:Option Addr} {c:Nat} (e:rl'=rl++[x]) (h:OwnOk p (rl.length+1) c):Iy rl' (p,c):=by
  subst e
  exact ⟨by simpa using h,λe=>by simp at e⟩
section
variable {P:Program} {ops:Array Oper} {rest:List Oper} {Q:Exit->Act->World->Prop} {n D:Nat} {F:List (Nat×Value)} {w0:Ay} {L L':List As} {c:Code}
theorem E5.castL (e:L=L') (h:E5 D P c Q n F w0 L'):E5 D P c Q n F w0 L:=e▸h
theorem E5.subL (hs:L'.Sublist L) (h:E5 D P c Q n F w0 L'):E5 D P c Q n F w0 L:=λa w ha hw=>h a w ha (hw.weak hs)
theorem AP.unrow (i:Nat) {g T z m c:Nat} {cs:List Value} (hi:L[i]?=some (rowW (jk g) T z m c cs)) (next:∀tl,AP P ops rest Q n F w0 (L.set i (AO g T (cs++tl)))):AP P ops rest Q n F w0 L:=λa w ha hw=>by
  obtain ⟨o,ho,hp⟩:=hw.at hi rfl
  obtain ⟨cur,rfl,hs,ht⟩:=hp
  refine next (cur.toList.drop (m*z)) a w ha ?_
  have e:cs++cur.toList.drop (m*z)=cur.toList:=by rw [<-ht,List.take_append_drop]
  rw [e]
  exact hw.turn hi O O ⟨⟨rfl,rfl,rfl,Nat.le_refl _,λ_ _ _=>rfl⟩,Nat.le_refl _⟩ ⟨_,ho,by simp⟩
end
def SA (x y:Pc):List Pc:=if Ha y x<0 then [y,x] else [x,y]
theorem YD (x y:Pc) (tl:List Value):(Iq x y tl).take 22=rowsL Ca (SA x y):=by
  unfold Iq SA
  split<;>rfl
theorem gq {S:Nat->Prop} {W w:World} {L:List As} (hw:A_ ⟨W,none⟩ w L) (i:Nat) {g T:Nat} {x y:Pc} {tl:List Value} (hi:L[i]?=some (AO g T (Iq x y tl))):Aj (RX (rowsL Ca (SA x y)) 2) S W (.returned (.slice (jk g) 2 2)) w:=by
  have hro:BG (jk g) 2 2:=⟨(λe=>by cases e),(λa e=>by injection e with e;rw [<-e]),Nat.le_refl _⟩
  obtain ⟨h1,o,ho,hp⟩:=hw.2.1 _ (List.mem_of_getElem? hi) g rfl
  refine ⟨⟨some ⟨g,0,none⟩,2,hro⟩,rfl,hw.out,λz hz=>?_⟩
  rcases xM.1 hz with rfl
  refine ⟨λb e=>?_,λb e=>?_⟩
  · injection e with e
    subst e
    refine ⟨o,ho,(Iq x y tl).toArray,T,(0,0),hp,?_⟩
    have h2:(rowsL Ca (SA x y)).length=22:=by unfold SA;split<;>rfl
    rw [h2,<-YD x y tl]
    simp
    rfl
  · injection e with e
    subst e
    rcases h1 with h1|h1|h1
    · cases h1
    · exact .inl h1
    · cases h1
end
section
set_option maxRecDepth 100000
theorem Wx (a:Nat) (w:World)  :Calls prog 83 #[(vN a)] w (Ac w (qa false)):=by
 refine AV (args:=[(vN a)]) func83 O O (leB O) (zI (sL [0] O) (q4 (asg' O (oNl' (q2 (AK O (AK O (st' (DH (c:=false) O O jX) O (asg' O (oNl' (zB (sL [2] O) ?_)))))))))))
 exact zA (zF (ret_one O (rd_tmp (v:=(qa false)) O) (λw hw=>⟨rfl,hw.out⟩)))
theorem Yy (a b:Nat) (w:World)  :Calls prog 44 #[(vN a),(vN b)] w (Ac w (vI (G0 a b))):=by
 refine AV (args:=[(vN a),(vN b)]) func44 O O (leB O) (zI (sL [0,1] O) (q4 (asg' O (oNl' (q2 (AK O (ck' call83 (Wx a) O (asg' O (q3 (sL [0,1,4,5] O) (AK O (ck' call83 (Wx b) O ?_)))))))))))
 refine asg' O (q6 (sL [0,1,4,5,6] O) (q4 (AK O (oNl' (zB (sL [0,1,4,6,11] O) (zA (zU O (zG (q1 (q4 (AK O ?_)))))))))))
 refine oNl' (zB (sL [0,1,4,6,13] O) (zA (zU O (zG (q1 (q4 (AK O (AK O (st' (Aa (c:=(decide (a<b))) O O (DE (a:=a) (b:=b))) O (oNl' (zB (sL [0,1,4,6,16] O) ?_)))))))))))
 refine zA ?_
 refine zK O (λhc3=>?_) (λhc3=>?_)
 ·replace hc3:=xR hc3
  have hr:=Yx hc3
  exact q4 (asg' O (oNl' (zA (zF (zL (ret_one O (rd_tmp (v:=(vI (-1:Int))) O) (λw hw=>⟨by rw [hr]<;>rfl,hw.out⟩)))))))
 ·replace hc3:=xQ hc3
  refine zG (q1 (q4 (AK O (AK O (st' (CC (c:=(decide (b<a))) O O (DE (a:=b) (b:=a))) O (oNl' (zB (sL [0,1,4,6,19] O) (zA ?_))))))))
  refine zK O (λhc4=>?_) (λhc4=>?_)
  ·replace hc4:=xR hc4
   have hr:=Yw hc3 hc4
   exact q4 (asg' O (oNl' (zA (zF (zL (ret_one O (rd_tmp (v:=(vI 1)) O) (λw hw=>⟨by rw [hr]<;>rfl,hw.out⟩)))))))
  ·replace hc4:=xQ hc4
   have hr:=Yv hc3 hc4
   exact zG (q2 (asg' O (oNl' (zA (zF (ret_one O (rd_tmp (v:=(vI 0)) O) (λw hw=>⟨by rw [hr]<;>rfl,hw.out⟩)))))))
theorem V3 (a b:Int) (g:Nat) (w:World) (hg:w.heap[g]?=some (.cells ([(vI a),(vI b)]).toArray 3 (0,0))):Calls prog 42 #[(qz (jk g) 2 2)] w (λe w'=>e=.returned (Value.int .i64 (XB a b))/\LK w w' (some g)/\w'.heap[g]?=some (.cells ([(vI a),(vI b)]).toArray 3 (0,0))):=by
 refine Ft (args:=[(qz (jk g) 2 2)]) (g:=g) (T:=3) (cs:=[(vI a),(vI b)]) func42 O O (leB O) hg (zI (sL [0] O) (q4 (asg' O (oNl' (q2 (asg' O (oNl' (q1 (q4 (AK O (st' (v:=(vI 2)) (AD O underlying79) O ?_)))))))))))
 refine AK O (oNl' (zB (sL [2,3,6,7,8] O) (zA (zM (yF 4 (zl (q4 (st' (Aa (c:=true) O O jY) O (oNl' (q1 (zY O ?_)))))))))))
 refine zG (q1 (zM (q4 (st' (v:=(pP g 0)) (AH (j:=0) O O underlying79 sizeOf3 O Z O) O (BL 0 (vI a) Dc O (asg' O (q3 (sL [2,3,6,7,8,5] O) (AK O (AK O (st' (DH (c:=(decide (a≠(0:Int)))) O O O) O (oNl' ?_)))))))))))
 refine zB (sL [2,3,6,7,8,5,14] O) (zA ?_)
 refine zK O (λhc1=>?_) (λhc1=>?_)
 ·replace hc1:=xR hc1
  have hr:XB a b=a:=if_pos hc1
  exact q4 (AK O (asg' O (oNl' (zB (sL [2,3,6,7,8,5] O) (zA (zF (zV (zL (zL (zV (zL (ret_one O (rd_tmp (v:=(vI a)) O) (λw hw=>⟨by rw [hr]<;>rfl,hw.1,hw.get (i:=0) O⟩)))))))))))))
 ·replace hc1:=xQ hc1
  have hq:=hc1
  refine zG (zJ (zA (zH (st' (AX (c:=(1:Int)) O O jY) O (AK O (oNl' (zB (sL [2,3,6,7,8,5] O) (z8 (zl (q4 (st' (Aa (c:=true) O O jY) O ?_)))))))))))
  refine oNl' (q1 (zY O (zG (q1 (zM (q4 (st' (v:=(pP g 1)) (AH (j:=1) O O underlying79 sizeOf3 O Z O) O (BL 0 (vI b) Dc O (asg' O (q3 (sL [2,3,6,7,8,5] O) (AK O ?_)))))))))))
  refine AK O (st' (DH (c:=(decide (b≠(0:Int)))) O O O) O (oNl' (zB (sL [2,3,6,7,8,5,14] O) (zA ?_))))
  refine zK O (λhc1=>?_) (λhc1=>?_)
  ·replace hc1:=xR hc1
   have hr:XB a b=b:=by rw [XB,if_neg hq,if_pos hc1]
   exact q4 (AK O (asg' O (oNl' (zB (sL [2,3,6,7,8,5] O) (zA (zF (zV (zL (zL (zV (zL (ret_one O (rd_tmp (v:=(vI b)) O) (λw hw=>⟨by rw [hr]<;>rfl,hw.1,hw.get (i:=0) O⟩)))))))))))))
  ·replace hc1:=xQ hc1
   have hr:XB a b=0:=by rw [XB,if_neg hq,if_neg hc1]
   refine zG (zJ (zA (zH (st' (AX (c:=(2:Int)) O O jY) O (AK O (oNl' (zB (sL [2,3,6,7,8,5] O) (z8 (zl (q4 (st' (Aa (c:=false) O O jY) O ?_)))))))))))
   refine oNl' (q1 (zU O (zW (zO (zO (zR (q2 (AK O (asg' O (oNl' (zB (sL [2,3,6,7,8,5] O) ?_)))))))))))
   exact zA (zF (ret_one O (rd_tmp (v:=(vI 0)) O) (λw hw=>⟨by rw [hr]<;>rfl,hw.1,hw.get (i:=0) O⟩)))
end
end Go.Proofs.YtcpkbjjmcleplaaGreatDoor
