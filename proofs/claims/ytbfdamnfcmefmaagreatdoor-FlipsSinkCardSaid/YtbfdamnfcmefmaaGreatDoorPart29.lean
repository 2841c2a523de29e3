import Derived.Test.YtbfdamnfcmefmaaGreatDoorPart28
namespace Go.Proofs.YtbfdamnfcmefmaaGreatDoor
open Go Go.RowKit Go.Proofs.Tryz
open Go.Value renaming slice→qz,bool→qa
set_option linter.unusedVariables false
set_option linter.unusedSimpArgs false
section
def Uq (A B:P2) (t:T2):Bool:=decide (Bs A B t.1<=0)&&decide (Bs A B t.2.1<=0)&&decide (Bs A B t.2.2<=0)
def WO (s t:T2):Bool:=Uq s.1 s.2.1 t||Uq s.2.1 s.2.2 t||Uq s.2.2 s.1 t
def V0 (s t:T2):Bool:=s == t||(WO s t||WO t s)
def V1:Bool:=Gp.all λp=>Gp.all λq=>(decide (p.1=q.1/\p.2.1=q.2.1/\p.2.2≠q.2.2))||(TJ p.1 p.2.1 p.2.2).all λs=>(TJ q.1 q.2.1 q.2.2).all λt=>V0 s t
theorem Mc:V1=true:=by decide +kernel
theorem V7 {m:MQ} {s t:T2} (hs:s∈A6 m) (ht:t∈A6 m):V0 s t=true:=by
  obtain ⟨i,hi,h1⟩:=EP m _ s hs
  obtain ⟨j,hj,h2⟩:=EP m _ t ht
  have hx:=JK m
  have hy:=JL m
  have b:∀k,k<GD m*S6 m->k%GD m<=2/\k/GD m<=2:=λk hk=>by
    have a1:=Nat.mod_lt k (show 0<GD m by omega)
    have a2:k/GD m<S6 m:=Nat.div_lt_of_lt_mul hk
    omega
  rw [Mn] at h1 h2
  have h:=List.all_eq_true.1 (List.all_eq_true.1 Mc _ (Ew (b i hi).1 (b i hi).2 (KD (Gm m i) i))) _ (Ew (b j hj).1 (b j hj).2 (KD (Gm m j) j))
  rw [yy,xW] at h
  rcases h with ⟨e1,e2,e3⟩|h
  · exfalso
    have e:i=j:=by rw [<-Nat.div_add_mod i (GD m),<-Nat.div_add_mod j (GD m),show i%GD m=j%GD m from e1,show i/GD m=j/GD m from e2]
    subst e
    exact e3 O
  · exact List.all_eq_true.1 (List.all_eq_true.1 h s h1) t h2
theorem Nm {A B:P2} {t:T2} (h:Uq A B t=true):∀q,q<3->Bs A B (C3 t q)<=0:=by
  simp only [Uq,yz,xW] at h
  intro q hq
  have e:q=0\/q=1\/q=2:=by omega
  rcases e with rfl|rfl|rfl
  · exact h.1.1
  · exact h.1.2
  · exact h.2
theorem aU {s t:T2} (h:WO s t=true) (hp:0<Bs s.1 s.2.1 s.2.2):∃A B X:P2,0<Bs A B X/\(∀q,q<3->0<=Bs A B (C3 s q))/\∀q,q<3->Bs A B (C3 t q)<=0:=by
  have hs:∀A B C:P2,0<Bs A B C->(A=s.1/\B=s.2.1/\C=s.2.2\/A=s.2.1/\B=s.2.2/\C=s.1\/A=s.2.2/\B=s.1/\C=s.2.1)->∀q,q<3->0<=Bs A B (C3 s q):=λA B C hc he q hq=>by
    have e:q=0\/q=1\/q=2:=by omega
    have s1:=(DY A B).2.1
    have s2:=(DY A B).2.2
    rcases he with ⟨rfl,rfl,rfl⟩|⟨rfl,rfl,rfl⟩|⟨rfl,rfl,rfl⟩<;>rcases e with rfl|rfl|rfl<;>simp only [C3,if_true]<;>first|exact Int.le_of_lt hc|(simp;first|exact Int.le_of_lt hc|(rw [s1];exact Int.le_refl 0)|(have:=(DY s.1 s.2.1);have:=(DY s.2.1 s.2.2);have:=(DY s.2.2 s.1);unfold Bs at *;omega)|(unfold Bs;grind))
  simp only [WO,yy] at h
  rcases h with (h|h)|h
  · exact ⟨_,_,_,hp,hs _ _ _ hp (.inl ⟨rfl,rfl,rfl⟩),Nm h⟩
  · have hp':0<Bs s.2.1 s.2.2 s.1:=by rw [E7];exact hp
    exact ⟨_,_,_,hp',hs _ _ _ hp' (.inr (.inl ⟨rfl,rfl,rfl⟩)),Nm h⟩
  · have hp':0<Bs s.2.2 s.1 s.2.1:=by rw [E7,E7];exact hp
    exact ⟨_,_,_,hp',hs _ _ _ hp' (.inr (.inr ⟨rfl,rfl,rfl⟩)),Nm h⟩
def Ln (ps:List Pt) (s t:T3):Prop:=∃(u:Pt) (k:Rat),u≠⟨0,0⟩/\bP u k (cor ps s.1) (cor ps s.2.1) (cor ps s.2.2) (cor ps t.1) (cor ps t.2.1) (cor ps t.2.2)
theorem Ln.symm {ps:List Pt} {s t:T3} (h:Ln ps s t):Ln ps t s:=by
  obtain ⟨u,k,hu,⟨h1,h2,h3⟩,h4,h5,h6⟩:=h
  have ng:∀a,dt ⟨-u.x,-u.y⟩ a = -dt u a:=λa=>by unfold dt;grind
  refine ⟨⟨-u.x,-u.y⟩,-k,λe=>hu ?_,⟨?_,?_,?_⟩,?_,?_,?_⟩
  · obtain ⟨x,y⟩:=u
    injection e with e1 e2
    simp only at e1 e2
    rw [show x=0 by grind,show y=0 by grind]
  all_goals rw [ng];grind
section
variable {ps:List Pt} {ts:List T3}
theorem Ve (g:FV ps ts) {i j:Nat} (hi:i<ts.length) (hj:j<ts.length) (hne:i≠j):Ln ps (ts.getD i (0,0,0)) (ts.getD j (0,0,0)):=by
  obtain ⟨m,pl,l⟩:=g.lattice
  obtain ⟨c,hc,hT⟩:=PF (Fc m.a m.b m.c m.d) (B5 m)
  have hlen:=l.inv.tl
  have dz:T2:=((0,0),(0,0),(0,0))
  have key:∀i j,i<ts.length->j<ts.length->WO ((A6 m).getD i ((0,0),(0,0),(0,0))) ((A6 m).getD j ((0,0),(0,0),(0,0)))=true->Ln ps (ts.getD i (0,0,0)) (ts.getD j (0,0,0)):=λi j hi hj h=>by
    obtain ⟨A,B,X,hX,hs,ht⟩:=aU h (HK m _ (l.cell hi)).1
    have pt:∀k,k<ts.length->∀r,r<3->∃q,q<3/\cor ps (FB (ts.getD k (0,0,0)) r)=PQ (mapM m) (B5 m) ((C3 ((A6 m).getD k ((0,0),(0,0),(0,0))) q).1:Rat) ((C3 ((A6 m).getD k ((0,0),(0,0),(0,0))) q).2:Rat):=λk hk r hr=>by
      have hat:=l.inv.at_ k Z
      have e:=Wq hat hr
      have hlt:FB (ts.getD k (0,0,0)) r<pl.length:=by
        have er:r=0\/r=1\/r=2:=by omega
        rcases er with rfl|rfl|rfl
        · exact hat.a.1
        · exact hat.b.1
        · exact hat.c.1
      refine ⟨JR m k r,Nat.mod_lt _ jY,?_⟩
      show ps.getD _ ⟨0,0⟩=_
      rw [l.at_ _ hlt,Jd,e]
      rfl
    have q2:∀C:P2,AF (CR (Gk (mapM m) (B5 m) A)) (CR (Gk (mapM m) (B5 m) B)) (PQ (mapM m) (B5 m) (C.1:Rat) (C.2:Rat))=c*((Bs A B C:Int):Rat):=λC=>by
      rw [show mapM m=Gj m.a m.b m.c m.d from rfl,hT]
      congr 1
      simp only [KS,Bs,Rat.intCast_sub,Rat.intCast_mul,Rat.intCast_natCast]
    have dq:∀P:Pt,AF (CR (Gk (mapM m) (B5 m) A)) (CR (Gk (mapM m) (B5 m) B)) P=dt (Ez (CR (Gk (mapM m) (B5 m) B)) (CR (Gk (mapM m) (B5 m) A))) P-dt (Ez (CR (Gk (mapM m) (B5 m) B)) (CR (Gk (mapM m) (B5 m) A))) (CR (Gk (mapM m) (B5 m) A)):=λP=>by
      simp only [BO,dt,Ez];grind
    have lf:∀r,r<3->dt (Ez (CR (Gk (mapM m) (B5 m) B)) (CR (Gk (mapM m) (B5 m) A))) (CR (Gk (mapM m) (B5 m) A))<=dt (Ez (CR (Gk (mapM m) (B5 m) B)) (CR (Gk (mapM m) (B5 m) A))) (cor ps (FB (ts.getD i (0,0,0)) r)):=λr hr=>by
      obtain ⟨q,hq,e⟩:=pt i hi r hr
      have h1:=dq (cor ps (FB (ts.getD i (0,0,0)) r))
      rw [e,q2] at h1
      rw [e]
      have h2:(0:Rat)<=((Bs A B (C3 ((A6 m).getD i ((0,0),(0,0),(0,0))) q):Int):Rat):=by exact_mod_cast hs q hq
      have h3:=Rat.mul_nonneg (Rat.le_of_lt hc) h2
      grind
    have rt:∀r,r<3->dt (Ez (CR (Gk (mapM m) (B5 m) B)) (CR (Gk (mapM m) (B5 m) A))) (cor ps (FB (ts.getD j (0,0,0)) r))<=dt (Ez (CR (Gk (mapM m) (B5 m) B)) (CR (Gk (mapM m) (B5 m) A))) (CR (Gk (mapM m) (B5 m) A)):=λr hr=>by
      obtain ⟨q,hq,e⟩:=pt j hj r hr
      have h1:=dq (cor ps (FB (ts.getD j (0,0,0)) r))
      rw [e,q2] at h1
      rw [e]
      have h2:(0:Rat) <= -((Bs A B (C3 ((A6 m).getD j ((0,0),(0,0),(0,0))) q):Int):Rat):=by
        have h9:((Bs A B (C3 ((A6 m).getD j ((0,0),(0,0),(0,0))) q):Int):Rat)<=0:=by exact_mod_cast ht q hq
        grind
      have h3:=Rat.mul_nonneg (Rat.le_of_lt hc) h2
      grind
    refine ⟨_,_,λe=>?_,⟨lf 0 jY,lf 1 jY,lf 2 jY⟩,rt 0 jY,rt 1 jY,rt 2 jY⟩
    have h1:=dq (PQ (mapM m) (B5 m) (X.1:Rat) (X.2:Rat))
    rw [q2,e] at h1
    have h2:(0:Rat)<((Bs A B X:Int):Rat):=by exact_mod_cast hX
    have h3:=Rat.mul_pos hc h2
    unfold dt at h1
    grind
  have h3:=V7 (l.cell hi) (l.cell hj)
  simp only [V0,yy,beq_iff_eq] at h3
  rcases h3 with h3|h3|h3
  · exfalso
    obtain ⟨x,y,ho⟩:=Zl (HK m _ (l.cell hi)).1
    refine Mq m (show i<(A6 m).length by omega) (show j<(A6 m).length by omega) hne ((0,0),(0,0),(0,0)) x y ho ?_
    rw [<-h3]
    exact ⟨by have:=ho.1;grind,by have:=ho.2.1;grind,by have:=ho.2.2;grind⟩
  · exact key i j hi hj h3
  · exact (key j i hj hi h3).symm
end
end
section
section
variable {md:List (P2×Nat)} {N M n a b c e p:Nat} {k κ:P2} {T:T3} {ts ts':List T3}
end
end
section
def bz (l:Nat):Int×Int×Int:=if l=0 then (2,0,0) else if l=1 then (0,2,0) else if l=2 then (0,0,2) else if l=3 then (1,1,0) else if l=4 then (0,1,1) else (1,0,1)
def D3 (i j k:Nat):Int:=(bz i).1*((bz j).2.1*(bz k).2.2-(bz j).2.2*(bz k).2.1)-(bz i).2.1*((bz j).1*(bz k).2.2-(bz j).2.2*(bz k).1)+(bz i).2.2*((bz j).1*(bz k).2.1-(bz j).2.1*(bz k).1)
def cv (a b:Pt):Pt:=G4 (a+b) (1/2)
def LP (a b c:Pt) (l:Nat):Pt:=if l=0 then a else if l=1 then b else if l=2 then c else if l=3 then cv a b else if l=4 then cv b c else cv c a
def Gl (fam:List T3) (l:Nat):Bool:=fam.any λL=>B_ L l
def Xn (i j:Nat) (M:T3):Bool:=decide (D3 i j M.1<=0)&&decide (D3 i j M.2.1<=0)&&decide (D3 i j M.2.2<=0)
def TF (L M:T3):Bool:=Xn L.1 L.2.1 M||Xn L.2.1 L.2.2 M||Xn L.2.2 L.1 M
def Xb (L:T3) (l:Nat):Bool:=decide (0<=D3 l L.2.1 L.2.2)&&decide (0<=D3 L.1 l L.2.2)&&decide (0<=D3 L.1 L.2.1 l)
structure Tr (fam:List T3):Prop where
  lt:∀L∈fam,L.1<6/\L.2.1<6/\L.2.2<6
  pos:∀L∈fam,0<D3 L.1 L.2.1 L.2.2
  sep:fam.Pairwise λL M=>(TF L M||TF M L)=true
  cls:∀L∈fam,∀l,l<6->Gl fam l=true->Xb L l=true->B_ L l=true
  cor:∀l,l<3->Gl fam l=true
instance (fam:List T3):Decidable (∀l,l<6->Gl fam l=true->∀L∈fam,Xb L l=true->B_ L l=true):=inferInstance
theorem O7 {fam:List T3} (h:((fam.all λL=>decide (L.1<6)&&decide (L.2.1<6)&&decide (L.2.2<6)&&decide (0<D3 L.1 L.2.1 L.2.2)&&(List.range 6).all λl=>!Gl fam l||!Xb L l||B_ L l)&&(List.range 3).all (Gl fam))=true) (hs:fam.Pairwise λL M=>(TF L M||TF M L)=true):Tr fam:=by
  rw [yz] at h
  have h1:=List.all_eq_true.1 h.1
  simp only [yz,xW] at h1
  refine ⟨λL hL=>?_,λL hL=>?_,hs,λL hL l hl hu hc=>?_,λl hl=>?_⟩
  · have:=h1 L hL;exact ⟨this.1.1.1.1,this.1.1.1.2,this.1.1.2⟩
  · exact (h1 L hL).1.2
  · have:=List.all_eq_true.1 (h1 L hL).2 l (List.mem_range.2 hl)
    rw [hu,hc] at this
    simpa using this
  · exact List.all_eq_true.1 h.2 l (List.mem_range.2 hl)
section
variable {a b c q:Pt} {l i j k:Nat}
theorem Rp (hl:l<6):(LP a b c l).x*2=((bz l).1:Rat)*a.x+((bz l).2.1:Rat)*b.x+((bz l).2.2:Rat)*c.x/\(LP a b c l).y*2=((bz l).1:Rat)*a.y+((bz l).2.1:Rat)*b.y+((bz l).2.2:Rat)*c.y/\((bz l).1:Rat)+((bz l).2.1:Rat)+((bz l).2.2:Rat)=2:=by
  have e:l=0\/l=1\/l=2\/l=3\/l=4\/l=5:=by omega
  rcases e with rfl|rfl|rfl|rfl|rfl|rfl<;>simp [LP,bz,cv,R6,R7,ZE,ZF]<;>refine ⟨?_,?_,?_⟩<;>grind
theorem YD {P Q R:Pt} {p1 p2 p3 q1 q2 q3 r1 r2 r3:Rat} (hx:P.x*2=p1*a.x+p2*b.x+p3*c.x) (hy:P.y*2=p1*a.y+p2*b.y+p3*c.y) (hp:p1+p2+p3=2)
    (kx:Q.x*2=q1*a.x+q2*b.x+q3*c.x) (ky:Q.y*2=q1*a.y+q2*b.y+q3*c.y) (kq:q1+q2+q3=2) (mx:R.x*2=r1*a.x+r2*b.x+r3*c.x) (my:R.y*2=r1*a.y+r2*b.y+r3*c.y) (mr:r1+r2+r3=2) :
    AF P Q R*8=(p1*(q2*r3-q3*r2)-p2*(q1*r3-q3*r1)+p3*(q1*r2-q2*r1))*AF a b c:=by
  have e1:p3=2-p1-p2:=by grind
  have e2:q3=2-q1-q2:=by grind
  have e3:r3=2-r1-r2:=by grind
  subst e1;subst e2;subst e3
  have ux:(Q.x-P.x)*2=(q1-p1)*(a.x-c.x)+(q2-p2)*(b.x-c.x):=by grind
  have uy:(Q.y-P.y)*2=(q1-p1)*(a.y-c.y)+(q2-p2)*(b.y-c.y):=by grind
  have vx:(R.x-P.x)*2=(r1-p1)*(a.x-c.x)+(r2-p2)*(b.x-c.x):=by grind
  have vy:(R.y-P.y)*2=(r1-p1)*(a.y-c.y)+(r2-p2)*(b.y-c.y):=by grind
  have e:AF P Q R*4=((Q.x-P.x)*2)*((R.y-P.y)*2)-((Q.y-P.y)*2)*((R.x-P.x)*2):=by simp only [BO];grind
  have e':AF P Q R*4=((q1-p1)*(r2-p2)-(q2-p2)*(r1-p1))*AF a b c:=by
    rw [e,ux,uy,vx,vy]
    simp only [BO]
    generalize q1-p1=s1
    generalize q2-p2=s2
    generalize r1-p1=s3
    generalize r2-p2=s4
    grind
  have e4:p1*(q2*(2-r1-r2)-(2-q1-q2)*r2)-p2*(q1*(2-r1-r2)-(2-q1-q2)*r1)+(2-p1-p2)*(q1*r2-q2*r1)=((q1-p1)*(r2-p2)-(q2-p2)*(r1-p1))*2:=by grind
  rw [e4]
  have:AF P Q R*8=AF P Q R*4*2:=by grind
  rw [this,e']
  grind
theorem F3 (hi:i<6) (hj:j<6) (hk:k<6):AF (LP a b c i) (LP a b c j) (LP a b c k)*8=((D3 i j k:Int):Rat)*AF a b c:=by
  obtain ⟨x1,y1,s1⟩:=Rp (a:=a) (b:=b) (c:=c) hi
  obtain ⟨x2,y2,s2⟩:=Rp (a:=a) (b:=b) (c:=c) hj
  obtain ⟨x3,y3,s3⟩:=Rp (a:=a) (b:=b) (c:=c) hk
  rw [YD x1 y1 s1 x2 y2 s2 x3 y3 s3]
  congr 1
  unfold D3
  simp only [Rat.intCast_add,Rat.intCast_sub,Rat.intCast_mul]
theorem QS (hT:0<AF a b c) (hi:i<6) (hj:j<6) (hk:k<6) (h:0<=AF (LP a b c i) (LP a b c j) (LP a b c k)):0<=D3 i j k:=by
  have e:=F3 (a:=a) (b:=b) (c:=c) hi hj hk
  have h1:0<=AF a b c*((D3 i j k:Int):Rat):=by rw [Rat.mul_comm,<-e];grind
  have h2:=Hq hT h1
  exact_mod_cast h2
theorem HT (hT:0<AF a b c) (hi:i<6) (hj:j<6) (hk:k<6) (h:0<=D3 i j k):0<=AF (LP a b c i) (LP a b c j) (LP a b c k):=by
  have e:=F3 (a:=a) (b:=b) (c:=c) hi hj hk
  have h1:(0:Rat)<=((D3 i j k:Int):Rat):=by exact_mod_cast h
  have h2:=Rat.mul_nonneg h1 (Rat.le_of_lt hT)
  grind
theorem GO (hT:0<AF a b c) (hi:i<6) (hj:j<6) (hk:k<6) (h:D3 i j k<=0):AF (LP a b c i) (LP a b c j) (LP a b c k)<=0:=by
  have e:=F3 (a:=a) (b:=b) (c:=c) hi hj hk
  have h1:(0:Rat) <= -((D3 i j k:Int):Rat):=by
    have:((D3 i j k:Int):Rat)<=0:=by exact_mod_cast h
    grind
  have h2:=Rat.mul_nonneg h1 (Rat.le_of_lt hT)
  grind
theorem YE (hT:0<AF a b c) (hi:i<6) (hj:j<6) (hk:k<6) (h:0<D3 i j k):0<AF (LP a b c i) (LP a b c j) (LP a b c k):=by
  have e:=F3 (a:=a) (b:=b) (c:=c) hi hj hk
  have h1:(0:Rat)<((D3 i j k:Int):Rat):=by exact_mod_cast h
  have h2:=Rat.mul_pos h1 hT
  grind
theorem Rj (hT:0<AF a b c) (hi:i<6) (hj:j<6) (h:LP a b c i=LP a b c j):i=j:=by
  have key:∀u v:Nat,u<6->v<6->D3 i u v=D3 j u v:=λu v hu hv=>by
    have e1:=F3 (a:=a) (b:=b) (c:=c) hi hu hv
    have e2:=F3 (a:=a) (b:=b) (c:=c) hj hu hv
    rw [h,e2] at e1
    have h1:(((D3 i u v:Int):Rat)-((D3 j u v:Int):Rat))*AF a b c=0:=by grind
    rcases Rat.mul_eq_zero.1 h1 with h2|h2
    · have h3:((D3 i u v:Int):Rat)=((D3 j u v:Int):Rat):=by grind
      exact_mod_cast h3
    · rw [h2] at hT;exact absurd hT Rat.lt_irrefl
  have k1:=key 1 2 jY jY
  have k2:=key 2 0 jY jY
  have k3:=key 0 1 jY jY
  have ei:i=0\/i=1\/i=2\/i=3\/i=4\/i=5:=by omega
  have ej:j=0\/j=1\/j=2\/j=3\/j=4\/j=5:=by omega
  rcases ei with rfl|rfl|rfl|rfl|rfl|rfl<;>rcases ej with rfl|rfl|rfl|rfl|rfl|rfl<;>first|rfl|(revert k1 k2 k3;decide)
theorem dJ (P Q R q u v:Pt):AF u v q*AF P Q R=AF q Q R*AF u v P+AF P q R*AF u v Q+AF P Q q*AF u v R:=by simp only [BO];grind
theorem Yw {P Q R u v:Pt} (hT:0<AF P Q R) (h1:0<=AF q Q R) (h2:0<=AF P q R) (h3:0<=AF P Q q) (k1:0<=AF u v P) (k2:0<=AF u v Q) (k3:0<=AF u v R):0<=AF u v q:=by
  have e:=dJ P Q R q u v
  have m1:=Rat.mul_nonneg h1 k1
  have m2:=Rat.mul_nonneg h2 k2
  have m3:=Rat.mul_nonneg h3 k3
  exact H_ hT (by rw [e];grind)
end
theorem Nj {u a b c:Pt} {k:Rat} {l:Nat} (hl:l<6) (h1:k<=dt u a) (h2:k<=dt u b) (h3:k<=dt u c):k<=dt u (LP a b c l):=by
  obtain ⟨x1,y1,s1⟩:=Rp (a:=a) (b:=b) (c:=c) hl
  have e:dt u (LP a b c l)*2=((bz l).1:Rat)*dt u a+((bz l).2.1:Rat)*dt u b+((bz l).2.2:Rat)*dt u c:=by
    have e0:dt u (LP a b c l)*2=u.x*((LP a b c l).y*2)-u.y*((LP a b c l).x*2):=by unfold dt;grind
    rw [e0,x1,y1];unfold dt;grind
  have z:(0:Rat)<=((bz l).1:Rat)/\(0:Rat)<=((bz l).2.1:Rat)/\(0:Rat)<=((bz l).2.2:Rat):=by
    have e:l=0\/l=1\/l=2\/l=3\/l=4\/l=5:=by omega
    rcases e with rfl|rfl|rfl|rfl|rfl|rfl<;>exact ⟨by decide,by decide,by decide⟩
  have m1:=Rat.mul_nonneg z.1 (show 0<=dt u a-k by grind)
  have m2:=Rat.mul_nonneg z.2.1 (show 0<=dt u b-k by grind)
  have m3:=Rat.mul_nonneg z.2.2 (show 0<=dt u c-k by grind)
  have s2:((bz l).1:Rat)*k+((bz l).2.1:Rat)*k+((bz l).2.2:Rat)*k=2*k:=by rw [<-s1];grind
  generalize ((bz l).1:Rat)=p1 at *
  generalize ((bz l).2.1:Rat)=p2 at *
  generalize ((bz l).2.2:Rat)=p3 at *
  clear x1 y1 z s1
  grind
theorem Nk {u a b c:Pt} {k:Rat} {l:Nat} (hl:l<6) (h1:dt u a<=k) (h2:dt u b<=k) (h3:dt u c<=k):dt u (LP a b c l)<=k:=by
  have ng:∀a,dt ⟨-u.x,-u.y⟩ a = -dt u a:=λa=>by unfold dt;grind
  have h:=Nj (u:=⟨-u.x,-u.y⟩) (k := -k) (a:=a) (b:=b) (c:=c) hl (by rw [ng];grind) (by rw [ng];grind) (by rw [ng];grind)
  rw [ng] at h
  grind
end
section
theorem aV {q:Rat}:0<q.num.sign↔0<q:=by
  rcases HY 0 q with h|h
  · rw [Kc h];exact ⟨λ_=>h,λ_=>by decide⟩
  · by_cases e:q=0
    · rw [Lt e,e];decide
    · rw [OM (q:=q) (by grind)];exact ⟨λk=>absurd k jY,λk=>by grind⟩
theorem JU {q:Rat}:q.num.sign = -1↔q<0:=by
  rcases HY 0 q with h|h
  · rw [Kc h];exact ⟨λk=>absurd k jY,λk=>by grind⟩
  · by_cases e:q=0
    · rw [Lt e,e];decide
    · have:q<0:=by grind
      rw [OM this];exact ⟨λ_=>this,λ_=>rfl⟩
theorem QE {p q:Pt} {B:Q3} (h:AF p q B.1<=0/\AF p q B.2.1<=0/\AF p q B.2.2<=0):Fk p q B=false:=by
  have k:∀r,AF p q r<=0->MK p q r=false:=λr hr=>xI (by rw [aV];grind)
  unfold Fk
  rw [k _ h.1,k _ h.2.1,k _ h.2.2];rfl
theorem ZG {A B:Q3} (h:Gf A.1 A.2.1 A.2.2 B.1 B.2.1 B.2.2):Dy A B=true:=by
  unfold Dy
  rcases h with h|h|h
  · rw [QE h];rfl
  · rw [QE (p:=A.2.1) (q:=A.2.2) h];simp
  · rw [QE (p:=A.2.2) (q:=A.1) h];simp
theorem Tb {ps:List Pt} {t:T3} {q:Pt} (hT:0<AF (cor ps t.1) (cor ps t.2.1) (cor ps t.2.2)):JZ ps q t=0↔¬Kl ps t q:=by
  have hd:∀z,0<=z/AF (cor ps t.1) (cor ps t.2.1) (cor ps t.2.2)↔0<=z:=λz=>by
    have e:z/AF (cor ps t.1) (cor ps t.2.1) (cor ps t.2.2)*AF (cor ps t.1) (cor ps t.2.1) (cor ps t.2.2)=z:=Rat.div_mul_cancel (by grind)
    generalize z/AF (cor ps t.1) (cor ps t.2.1) (cor ps t.2.2)=w at *
    exact ⟨λk=>by rw [<-e];exact Rat.mul_nonneg k (by grind),λk=>by rw [<-e] at k;exact H_ hT k⟩
  have h1:JZ ps q t=FR (AF q (cor ps t.2.1) (cor ps t.2.2)/AF (cor ps t.1) (cor ps t.2.1) (cor ps t.2.2)) (AF (cor ps t.1) q (cor ps t.2.2)/AF (cor ps t.1) (cor ps t.2.1) (cor ps t.2.2)) (AF (cor ps t.1) (cor ps t.2.1) q/AF (cor ps t.1) (cor ps t.2.1) (cor ps t.2.2)):=if_neg (λe=>by rw [e] at hT;exact absurd hT Rat.lt_irrefl)
  have h2:∀{x y z:Rat},FR x y z=0↔¬(0<=x/\0<=y/\0<=z):=λ{x y z}=>by
    unfold FR
    split
    · rename_i h
      rw [JU,JU,JU] at h
      exact ⟨λ_=>by grind,λ_=>rfl⟩
    · rename_i h
      rw [JU,JU,JU] at h
      exact ⟨λh=>by omega,λh=>by exfalso;apply h;grind⟩
  rw [h1,h2,hd,hd,hd]
  exact Iff.rfl
def GN (mv:Nat->Nat->Nat) (t:T3) (l:Nat):Nat:=if l=0 then t.1 else if l=1 then t.2.1 else if l=2 then t.2.2 else if l=3 then mv t.1 t.2.1 else if l=4 then mv t.2.1 t.2.2 else mv t.2.2 t.1
def F2 (mv:Nat->Nat->Nat) (t L:T3):T3:=(GN mv t L.1,GN mv t L.2.1,GN mv t L.2.2)
def YA (t:T3) (l:Nat):P2:=if l=3 then CB t.1 t.2.1 else if l=4 then CB t.2.1 t.2.2 else CB t.2.2 t.1
def Kh (ps:List Pt) (t:T3) (l:Nat):Pt:=LP (cor ps t.1) (cor ps t.2.1) (cor ps t.2.2) l
structure IY (ps:List Pt) (ts:List T3) (ps':List Pt) (ts':List T3) (mv:Nat->Nat->Nat) (fam:T3->List T3):Prop where
  g:FV ps ts
  cut:ts'=ts.flatMap λt=>(fam t).map (F2 mv t)
  fok:∀t∈ts,Tr (fam t)
  len:ps.length<=ps'.length
  old:∀p,p<ps.length->cor ps' p=cor ps p
  mid:∀t∈ts,∀l,3<=l->l<6->Gl (fam t) l=true->ps.length<=GN mv t l/\GN mv t l<ps'.length/\cor ps' (GN mv t l)=Kh ps t l
  new:∀p,ps.length<=p->p<ps'.length->∃t∈ts,∃l,3<=l/\l<6/\Gl (fam t) l=true/\p=GN mv t l
  cls:∀t∈ts,∀s∈ts,∀l k,3<=l->l<6->3<=k->k<6->Gl (fam s) k=true->YA t l=YA s k->Gl (fam t) l=true/\GN mv t l=GN mv s k
theorem Qz {fam:List T3} {L:T3} {l:Nat} (hL:L∈fam) (h:B_ L l=true):Gl fam l=true:=List.any_eq_true.2 ⟨L,hL,h⟩
theorem dT (L:T3):B_ L L.1=true/\B_ L L.2.1=true/\B_ L L.2.2=true:=by simp [B_]
theorem N1 {mv:Nat->Nat->Nat} {t L:T3} {l:Nat} (h:B_ L l=true):B_ (F2 mv t L) (GN mv t l)=true:=by
  simp only [B_,yy,beq_iff_eq] at h ⊢
  rcases h with (h|h)|h
  · left;left;show GN mv t L.1=_;rw [h]
  · left;right;show GN mv t L.2.1=_;rw [h]
  · right;show GN mv t L.2.2=_;rw [h]
section
variable {ps ps':List Pt} {ts ts':List T3} {mv:Nat->Nat->Nat} {fam:T3->List T3} {t s c L:T3} {l k p:Nat}
theorem HZ (h:t∈ts):∃j,j<ts.length/\ts.getD j (0,0,0)=t:=by
  obtain ⟨j,hj,e⟩:=List.getElem_of_mem h
  exact ⟨j,hj,by rw [List.getD,xQ hj];exact e⟩
theorem Ik {j:Nat} (h:j<ts.length):ts.getD j (0,0,0)∈ts:=by rw [List.getD,xQ h];exact List.getElem_mem h
theorem IY.tri (S:IY ps ts ps' ts' mv fam) (ht:t∈ts):bQ ps t:=by
  obtain ⟨j,hj,rfl⟩:=HZ ht
  exact S.g.tri j hj
theorem IY.v_pos (S:IY ps ts ps' ts' mv fam) (ht:t∈ts):0<AF (cor ps t.1) (cor ps t.2.1) (cor ps t.2.2):=(S.tri ht).pos
theorem IY.v_pt (S:IY ps ts ps' ts' mv fam) (ht:t∈ts) (hl:l<6) (hu:Gl (fam t) l=true):GN mv t l<ps'.length/\cor ps' (GN mv t l)=Kh ps t l:=by
  have h:=S.tri ht
  have hle:=S.len
  rcases Nat.lt_or_ge l 3 with h3|h3
  · have e:l=0\/l=1\/l=2:=by omega
    rcases e with rfl|rfl|rfl
    · exact ⟨Nat.lt_of_lt_of_le h.a hle,S.old _ h.a⟩
    · exact ⟨Nat.lt_of_lt_of_le h.b hle,S.old _ h.b⟩
    · exact ⟨Nat.lt_of_lt_of_le h.c hle,S.old _ h.c⟩
  · exact (S.mid t ht l h3 hl hu).2
theorem IY.v_child (S:IY ps ts ps' ts' mv fam) (hc:c∈ts'):∃t∈ts,∃L∈fam t,c=F2 mv t L:=by
  rw [S.cut] at hc
  obtain ⟨t,ht,hc⟩:=List.mem_flatMap.1 hc
  obtain ⟨L,hL,e⟩:=List.mem_map.1 hc
  exact ⟨t,ht,L,hL,e.symm⟩
theorem IY.v_c3 (S:IY ps ts ps' ts' mv fam) (ht:t∈ts) (hL:L∈fam t):cor ps' (F2 mv t L).1=Kh ps t L.1/\cor ps' (F2 mv t L).2.1=Kh ps t L.2.1/\cor ps' (F2 mv t L).2.2=Kh ps t L.2.2:=by
  obtain ⟨h1,h2,h3⟩:=(S.fok t ht).lt L hL
  obtain ⟨u1,u2,u3⟩:=dT L
  exact ⟨(S.v_pt ht h1 (Qz hL u1)).2,(S.v_pt ht h2 (Qz hL u2)).2,(S.v_pt ht h3 (Qz hL u3)).2⟩
theorem IY.v_cpos (S:IY ps ts ps' ts' mv fam) (ht:t∈ts) (hL:L∈fam t):0<AF (cor ps' (F2 mv t L).1) (cor ps' (F2 mv t L).2.1) (cor ps' (F2 mv t L).2.2):=by
  obtain ⟨h1,h2,h3⟩:=(S.fok t ht).lt L hL
  obtain ⟨e1,e2,e3⟩:=S.v_c3 ht hL
  rw [e1,e2,e3]
  exact YE (S.v_pos ht) h1 h2 h3 ((S.fok t ht).pos L hL)
def BB (ps:List Pt) (c d:T3):Prop:=Gf (cor ps c.1) (cor ps c.2.1) (cor ps c.2.2) (cor ps d.1) (cor ps d.2.1) (cor ps d.2.2)\/Gf (cor ps d.1) (cor ps d.2.1) (cor ps d.2.2) (cor ps c.1) (cor ps c.2.1) (cor ps c.2.2)
theorem Ri {a b c:Pt} {M:T3} (hT:0<AF a b c) (hL:L.1<6/\L.2.1<6/\L.2.2<6) (hM:M.1<6/\M.2.1<6/\M.2.2<6) (h:TF L M=true):Gf (LP a b c L.1) (LP a b c L.2.1) (LP a b c L.2.2) (LP a b c M.1) (LP a b c M.2.1) (LP a b c M.2.2):=by
  simp only [TF,Xn,yy,yz,xW] at h
  rcases h with (⟨⟨h1,h2⟩,h3⟩|⟨⟨h1,h2⟩,h3⟩)|⟨⟨h1,h2⟩,h3⟩
  · exact .inl ⟨GO hT hL.1 hL.2.1 hM.1 h1,GO hT hL.1 hL.2.1 hM.2.1 h2,GO hT hL.1 hL.2.1 hM.2.2 h3⟩
  · exact .inr (.inl ⟨GO hT hL.2.1 hL.2.2 hM.1 h1,GO hT hL.2.1 hL.2.2 hM.2.1 h2,GO hT hL.2.1 hL.2.2 hM.2.2 h3⟩)
  · exact .inr (.inr ⟨GO hT hL.2.2 hL.1 hM.1 h1,GO hT hL.2.2 hL.1 hM.2.1 h2,GO hT hL.2.2 hL.1 hM.2.2 h3⟩)
theorem IY.v_bb (S:IY ps ts ps' ts' mv fam):ts'.Pairwise (BB ps'):=by
  rw [S.cut]
  refine List.pairwise_flatMap.2 ⟨λt ht=>?_,?_⟩
  · refine List.pairwise_map.2 ((S.fok t ht).sep.imp_of_mem λ{L M} hL hM h=>?_)
    obtain ⟨e1,e2,e3⟩:=S.v_c3 ht hL
    obtain ⟨f1,f2,f3⟩:=S.v_c3 ht hM
    unfold BB
    rw [e1,e2,e3,f1,f2,f3]
    rw [yy] at h
    exact h.imp (Ri (S.v_pos ht) ((S.fok t ht).lt L hL) ((S.fok t ht).lt M hM)) (Ri (S.v_pos ht) ((S.fok t ht).lt M hM) ((S.fok t ht).lt L hL))
  · have base:ts.Pairwise (Ln ps):=List.pairwise_iff_getElem.2 λi j hi hj hij=>by
      have h:=Ve S.g hi hj Z
      rwa [List.getD,List.getD,xQ hi,xQ hj] at h
    refine base.imp_of_mem λ{t s} ht hs ⟨u,k,hu,⟨h1,h2,h3⟩,h4,h5,h6⟩ x hx y hy=>?_
    obtain ⟨L,hL,rfl⟩:=List.mem_map.1 hx
    obtain ⟨M,hM,rfl⟩:=List.mem_map.1 hy
    obtain ⟨l1,l2,l3⟩:=(S.fok t ht).lt L hL
    obtain ⟨m1,m2,m3⟩:=(S.fok s hs).lt M hM
    obtain ⟨e1,e2,e3⟩:=S.v_c3 ht hL
    obtain ⟨f1,f2,f3⟩:=S.v_c3 hs hM
    have a:=S.v_cpos ht hL
    have b:=S.v_cpos hs hM
    refine fO a b hu (k:=k) ?_
    rw [e1,e2,e3,f1,f2,f3]
    exact ⟨⟨Nj l1 h1 h2 h3,Nj l2 h1 h2 h3,Nj l3 h1 h2 h3⟩,Nk m1 h4 h5 h6,Nk m2 h4 h5 h6,Nk m3 h4 h5 h6⟩
theorem IY.v_up (S:IY ps ts ps' ts' mv fam) (ht:t∈ts) (hL:L∈fam t) {q:Pt} (h:Kl ps' (F2 mv t L) q):Kl ps t q:=by
  obtain ⟨l1,l2,l3⟩:=(S.fok t ht).lt L hL
  obtain ⟨e1,e2,e3⟩:=S.v_c3 ht hL
  have hc:=S.v_cpos ht hL
  obtain ⟨h1,h2,h3⟩:=h
  have hT:=S.v_pos ht
  have sd:∀i j:Nat,i<6->j<6->(∀l,l<6->0<=D3 i j l)->0<=AF (Kh ps t i) (Kh ps t j) q:=λi j hi hj hd =>
    Yw hc h1 h2 h3 (by rw [e1];exact HT hT hi hj l1 (hd _ l1)) (by rw [e2];exact HT hT hi hj l2 (hd _ l2)) (by rw [e3];exact HT hT hi hj l3 (hd _ l3))
  have d1:=sd 1 2 jY jY jY
  have d2:=sd 2 0 jY jY jY
  have d3:=sd 0 1 jY jY jY
  have c1:AF q (cor ps t.2.1) (cor ps t.2.2)=AF (cor ps t.2.1) (cor ps t.2.2) q:=by simp only [BO];grind
  have c2:AF (cor ps t.1) q (cor ps t.2.2)=AF (cor ps t.2.2) (cor ps t.1) q:=by simp only [BO];grind
  exact ⟨by show 0<=AF q (cor ps t.2.1) (cor ps t.2.2);rw [c1];exact d1,by show 0<=AF (cor ps t.1) q (cor ps t.2.2);rw [c2];exact d2,d3⟩
theorem IY.v_lab (S:IY ps ts ps' ts' mv fam) (ht:t∈ts) (hL:L∈fam t) (hl:l<6) (hu:Gl (fam t) l=true) (h:Kl ps' (F2 mv t L) (Kh ps t l)):B_ L l=true:=by
  obtain ⟨l1,l2,l3⟩:=(S.fok t ht).lt L hL
  obtain ⟨e1,e2,e3⟩:=S.v_c3 ht hL
  obtain ⟨h1,h2,h3⟩:=h
  have h1:0<=AF (Kh ps t l) (cor ps' (F2 mv t L).2.1) (cor ps' (F2 mv t L).2.2):=h1
  have h2:0<=AF (cor ps' (F2 mv t L).1) (Kh ps t l) (cor ps' (F2 mv t L).2.2):=h2
  have h3:0<=AF (cor ps' (F2 mv t L).1) (cor ps' (F2 mv t L).2.1) (Kh ps t l):=h3
  rw [e2,e3] at h1
  rw [e1,e3] at h2
  rw [e1,e2] at h3
  have hT:=S.v_pos ht
  refine (S.fok t ht).cls L hL l hl hu ?_
  simp only [Xb,yz,xW]
  exact ⟨⟨QS hT hl l2 l3 h1,QS hT l1 hl l3 h2⟩,QS hT l1 l2 hl h3⟩
theorem N2 (h:B_ t p=true):∃l,l<3/\p=GN mv t l:=by
  simp only [B_,yy,beq_iff_eq] at h
  rcases h with (h|h)|h
  · exact ⟨0,by decide,h.symm⟩
  · exact ⟨1,by decide,h.symm⟩
  · exact ⟨2,by decide,h.symm⟩
theorem VT (hk:3<=k) (hk6:k<6):∃r,r<3/\YA s k=CB (crn s r) (crn s ((r+1)%3))/\Kh ps s k=G4 (cor ps (crn s r)+cor ps (crn s ((r+1)%3))) (1/2):=by
  have e:k=3\/k=4\/k=5:=by omega
  rcases e with rfl|rfl|rfl
  · exact ⟨0,by decide,rfl,rfl⟩
  · exact ⟨1,by decide,rfl,rfl⟩
  · exact ⟨2,by decide,rfl,rfl⟩
theorem Ur {x y:Nat} (hx:B_ t x=true) (hy:B_ t y=true) (hne:x≠y):∃l,3<=l/\l<6/\YA t l=CB x y:=by
  simp only [B_,yy,beq_iff_eq] at hx hy
  have sy:∀a b,CB a b=CB b a:=λa b=>by unfold CB;rw [Nat.min_comm,Nat.max_comm]
  rcases hx with (hx|hx)|hx<;>rcases hy with (hy|hy)|hy<;>subst hx<;>subst hy
  · exact absurd O hne
  · exact ⟨3,by decide,by decide,rfl⟩
  · exact ⟨5,by decide,by decide,sy _ _⟩
  · exact ⟨3,by decide,by decide,sy _ _⟩
  · exact absurd O hne
  · exact ⟨4,by decide,by decide,rfl⟩
  · exact ⟨5,by decide,by decide,rfl⟩
  · exact ⟨4,by decide,by decide,sy _ _⟩
  · exact absurd O hne
theorem IY.v_mid (S:IY ps ts ps' ts' mv fam) (ht:t∈ts) (hs:s∈ts) (hk:3<=k) (hk6:k<6) (hu:Gl (fam s) k=true) (h:Kl ps t (Kh ps s k)):∃l,3<=l/\l<6/\Gl (fam t) l=true/\GN mv t l=GN mv s k:=by
  obtain ⟨r,hr,e1,e2⟩:=VT (ps:=ps) (s:=s) hk hk6
  obtain ⟨i,hi,rfl⟩:=HZ hs
  obtain ⟨j,hj,rfl⟩:=HZ ht
  rw [e2] at h
  obtain ⟨a,b⟩:=Vd S.g hi hj hr h
  have hne:crn (ts.getD i (0,0,0)) r≠crn (ts.getD i (0,0,0)) ((r+1)%3):=by
    have hT:=S.tri hs
    have er:r=0\/r=1\/r=2:=by omega
    rcases er with rfl|rfl|rfl
    · exact hT.ab
    · exact hT.bc
    · exact hT.ca
  obtain ⟨l,hl,hl6,e⟩:=Ur a b hne
  exact ⟨l,hl,hl6,S.cls _ ht _ hs l k hl hl6 hk hk6 hu (by rw [e,e1])⟩
theorem Tw (hT:0<AF (cor ps t.1) (cor ps t.2.1) (cor ps t.2.2)) (hl:l<6):Kl ps t (Kh ps t l):=by
  have e:l=0\/l=1\/l=2\/l=3\/l=4\/l=5:=by omega
  have k1:0<=D3 l 1 2:=by rcases e with rfl|rfl|rfl|rfl|rfl|rfl<;>decide
  have k2:0<=D3 0 l 2:=by rcases e with rfl|rfl|rfl|rfl|rfl|rfl<;>decide
  have k3:0<=D3 0 1 l:=by rcases e with rfl|rfl|rfl|rfl|rfl|rfl<;>decide
  have d1:0<=AF (Kh ps t l) (Kh ps t 1) (Kh ps t 2):=HT hT hl jY jY k1
  have d2:0<=AF (Kh ps t 0) (Kh ps t l) (Kh ps t 2):=HT hT jY hl jY k2
  have d3:0<=AF (Kh ps t 0) (Kh ps t 1) (Kh ps t l):=HT hT jY jY hl k3
  exact ⟨d1,d2,d3⟩
theorem IY.v_crn (S:IY ps ts ps' ts' mv fam) (hc:c∈ts') (hp:p<ps'.length) (h:Kl ps' c (cor ps' p)):B_ c p=true:=by
  obtain ⟨t,ht,L,hL,rfl⟩:=S.v_child hc
  rcases Nat.lt_or_ge p ps.length with hlt|hge
  · have h1:=S.v_up ht hL h
    rw [S.old p hlt] at h1
    obtain ⟨j,hj,rfl⟩:=HZ ht
    obtain ⟨l,hl,e⟩:=N2 (mv:=mv) (Jq S.g hlt hj h1)
    have hu:=(S.fok _ ht).cor l hl
    rw [e,(S.v_pt ht (show l<6 by omega) hu).2] at h
    rw [e]
    exact N1 (S.v_lab ht hL Z hu h)
  · obtain ⟨s,hs,k,hk,hk6,hu,e⟩:=S.new p hge hp
    have e2:=(S.mid s hs k hk hk6 hu).2.2
    rw [e,e2] at h
    obtain ⟨l,hl,hl6,hul,el⟩:=S.v_mid ht hs hk hk6 hu (S.v_up ht hL h)
    have e3:=(S.mid t ht l hl hl6 hul).2.2
    rw [<-e2,<-el,e3] at h
    rw [e,<-el]
    exact N1 (S.v_lab ht hL hl6 hul h)
theorem IY.v_dst (S:IY ps ts ps' ts' mv fam) {p q:Nat} (hp:p<ps'.length) (hq:q<ps'.length) (h:cor ps' p=cor ps' q):p=q:=by
  have one:∀p q,p<ps.length->ps.length<=q->q<ps'.length->cor ps' p≠cor ps' q:=λp q hp hq hq' h=>by
    obtain ⟨s,hs,k,hk,hk6,hu,e⟩:=S.new q hq hq'
    have e2:=(S.mid s hs k hk hk6 hu).2.2
    rw [e,e2,S.old p hp] at h
    have h1:=Tw (S.v_pos hs) hk6
    rw [<-h] at h1
    obtain ⟨j,hj,rfl⟩:=HZ hs
    obtain ⟨l,hl,e4⟩:=N2 (mv:=mv) (Jq S.g hp hj h1)
    have e5:=(S.v_pt hs (show l<6 by omega) ((S.fok _ hs).cor l hl)).2
    rw [<-e4,S.old p hp] at e5
    have:=Rj (S.v_pos hs) (show l<6 by omega) hk6 (e5.symm.trans h)
    omega
  rcases Nat.lt_or_ge p ps.length with hpl|hpg<;>rcases Nat.lt_or_ge q ps.length with hql|hqg
  · rw [S.old p hpl,S.old q hql] at h
    exact Vc S.g hpl hql h
  · exact absurd h (one p q hpl hqg hq)
  · exact absurd h.symm (one q p hql hpg hp)
  · obtain ⟨s,hs,k,hk,hk6,hu,e⟩:=S.new p hpg hp
    obtain ⟨t,ht,l,hl,hl6,hul,e'⟩:=S.new q hqg hq
    have e2:=(S.mid s hs k hk hk6 hu).2.2
    have e3:=(S.mid t ht l hl hl6 hul).2.2
    rw [e,e2,e',e3] at h
    have h1:=Tw (S.v_pos ht) hl6
    rw [<-h] at h1
    obtain ⟨l0,h0,h06,hu0,e0⟩:=S.v_mid ht hs hk hk6 hu h1
    have e4:=(S.mid t ht l0 h0 h06 hu0).2.2
    rw [e0,e2,h] at e4
    have:=Rj (S.v_pos ht) hl6 h06 e4
    rw [e,e',<-e0,this]
theorem IY.v_use (S:IY ps ts ps' ts' mv fam) (hp:p<ps'.length):∃c∈ts',B_ c p=true:=by
  have fin:∀t∈ts,∀l,Gl (fam t) l=true->∃c∈ts',B_ c (GN mv t l)=true:=λt ht l hu=>by
    obtain ⟨L,hL,h⟩:=List.any_eq_true.1 hu
    exact ⟨F2 mv t L,by rw [S.cut];exact List.mem_flatMap.2 ⟨t,ht,List.mem_map_of_mem hL⟩,N1 h⟩
  rcases Nat.lt_or_ge p ps.length with hlt|hge
  · obtain ⟨j,hj,h⟩:=JF S.g hlt
    obtain ⟨l,hl,e⟩:=N2 (mv:=mv) h
    rw [e]
    exact fin _ (Ik hj) l ((S.fok _ (Ik hj)).cor l hl)
  · obtain ⟨s,hs,k,hk,hk6,hu,e⟩:=S.new p hge hp
    rw [e]
    exact fin s hs k hu
theorem IY.chk {ss':List T3} (S:IY ps ts ps' ts' mv fam) (hpl:ps'.length<=4096) (htl:ts'.length<=8192) (hsl:ss'.length<=24576) (h0:0<ts'.length) (hz:∀k,Bn (cor ps' k)<=1000) (hn:BV ps'.length ts'=true)
    (hs:∀s∈ss',s.1<ps'.length/\s.2.1<ps'.length/\s.2.2<=255) (hr:ss'.map (λs=>(s.1,s.2.1))=(Eh ts').map λs=>(s.1,s.2.1)):Fr ps' ts' ss' where
  pl:=hpl
  tl:=htl
  t0:=h0
  sl:=hsl
  sz:=hz
  num:=hn
  pos j hj:=by
    obtain ⟨t,ht,L,hL,e⟩:=S.v_child (Ik hj)
    rw [e]
    exact Kc (S.v_cpos ht hL)
  sid j hj:=hs _ (Ik hj)
  use p hp:=by
    obtain ⟨c,hc,h⟩:=S.v_use hp
    obtain ⟨j,hj,e⟩:=HZ hc
    exact ⟨j,hj,by rw [e];exact h⟩
  dst:=List.pairwise_iff_getElem.2 λi j hi hj hij e=>by
    have:=S.v_dst hi hj (by unfold cor;rw [List.getD,List.getD,xQ hi,xQ hj];exact e)
    omega
  apart i k hi hk:=by
    have h:=List.pairwise_iff_getElem.1 S.v_bb k i Z hi hk
    rw [<-show ts'.getD k (0,0,0)=ts'[k] by rw [List.getD,xQ Z];rfl,<-show ts'.getD i (0,0,0)=ts'[i] by rw [List.getD,xQ hi];rfl] at h
    rcases h with h|h
    · rw [ZG (A:=Be ps' (ts'.getD k (0,0,0))) (B:=Be ps' (ts'.getD i (0,0,0))) h];simp
    · rw [ZG (A:=Be ps' (ts'.getD i (0,0,0))) (B:=Be ps' (ts'.getD k (0,0,0))) h];simp
  crn i p hi hp hn:=by
    have hm:=Ik hi
    obtain ⟨t,ht,L,hL,e⟩:=S.v_child hm
    refine (Tb (by rw [e];exact S.v_cpos ht hL)).2 λh=>?_
    rw [S.v_crn hm hp h] at hn
    cases hn
  rl:=by have h:=congrArg List.length hr;simpa using h
  rim j hj:=by
    have hl:=congrArg List.length hr
    simp only [xL] at hl
    have h:=congrArg (λl:List (Nat×Nat)=>l[j]?) hr
    simp only [List.getElem?_map,xQ hj,xQ (show j<(Eh ts').length by omega),Option.map_some,Option.some.injEq,Prod.mk.injEq] at h
    rw [List.getD,List.getD,xQ hj,xQ (show j<(Eh ts').length by omega)]
    exact h
end
end
section
section
variable {ps:List Pt} {ts ss:List T3} {c:T3}
theorem Qo {W w:World} {L:List As} (hw:BI ⟨W,none⟩ w L) (i:Nat) {p:Option Addr} {T:TypeId} {z n c c':Nat} {cs:List Value} (hi:L[i]?=some (rowW p T z n c cs)) (ho:OwnOk p n c) (hl:cs.length=n*z) (ok:Aw p n c'):Ro (λ_=>True) w (⟨p,c',ok⟩:RX cs n):=λy hy=>by
  rcases xP.1 hy with rfl
  exact ⟨(GS (S:=λ_=>True) hw i hi ho hl).1,λ_ _=>trivial⟩
def Qq (b:Nat):T3:=if b=0 then (0,1,2) else if b=1 then (1,2,0) else (2,0,1)
theorem Yn (b:Nat):Tr [Qq b]:=by
  unfold Qq
  split
  · exact O7 jY jY
  · split<;>exact O7 jY jY
theorem PW (b:Nat) {l:Nat} (h3:3<=l):Gl [Qq b] l=false:=by
  unfold Qq
  have e:∀x,x<3->¬x=l:=λx hx=>by omega
  split
  · simp [Gl,B_];omega
  · split<;>(simp [Gl,B_];omega)
theorem WH (mv:Nat->Nat->Nat) (t:T3) {b:Nat} (hb:b<3):F2 mv t (Qq b)=Md t b:=by
  have e:b=0\/b=1\/b=2:=by omega
  rcases e with rfl|rfl|rfl<;>rfl
theorem NC {α β:Type} (f:α->β):∀l:List α,l.map f=l.flatMap λt=>[f t]
  | []=>rfl
  | x::r=>by rw [List.map_cons,List.flatMap_cons,List.singleton_append,NC f r]
theorem Yp (g:FV ps ts) {h:T3->Nat} (hh:∀t,h t<3):IY ps ts ps (ts.map λt=>Md t (h t)) (λ_ _=>0) (λt=>[Qq (h t)]):=by
  refine ⟨g,?_,λt _=>Yn _,Nat.le_refl _,λ_ _=>rfl,λt _ l hl _ hu=>?_,λp h1 h2=>by omega,λt _ s _ l k _ _ hk _ hu=>?_⟩
  · have e:(λt=>[Qq (h t)].map (F2 (λ_ _=>0) t))=λt=>[Md t (h t)]:=funext λt=>by rw [List.map_cons,List.map_nil,WH _ _ (hh t)]
    rw [e]
    exact NC _ _
  · rw [PW _ hl] at hu;cases hu
  · rw [PW _ hk] at hu;cases hu
theorem WI (h:T3->Nat) (hh:∀t,h t<3):(Et ts).Perm (Et (ts.map λt=>Md t (h t))):=by
  unfold Et
  refine flatMap_perm2 (0,0,0) (by rw [xL]) λj hj=>?_
  have e:(ts.map λt=>Md t (h t)).getD j (0,0,0)=Md (ts.getD j (0,0,0)) (h (ts.getD j (0,0,0))):=by simp [List.getD,hj]
  rw [e]
  generalize ts.getD j (0,0,0)=T
  have hb:=hh T
  have eb:h T=0\/h T=1\/h T=2:=by omega
  obtain ⟨a,b,d⟩:=T
  rcases eb with eb|eb|eb<;>rw [eb]
  · exact List.Perm.refl _
  · show [CB a b,CB b d,CB d a].Perm [CB b d,CB d a,CB a b]
    exact (List.perm_append_comm (l₁:=[CB a b]) (l₂:=[CB b d,CB d a]))
  · show [CB a b,CB b d,CB d a].Perm [CB d a,CB a b,CB b d]
    exact (List.perm_append_comm (l₁:=[CB a b,CB b d]) (l₂:=[CB d a]))
theorem Yo (g:FV ps ts) (hn:BV ps.length ts=true) (sd:∃mm,ss=FN mm ts ps.length ps.length) (hsl:ss.length<=24576) {h:T3->Nat} (hh:∀t,h t<3) (hn':BV ps.length (ts.map λt=>Md t (h t))=true):Fr ps (ts.map λt=>Md t (h t)) ss:=by
  have hp:=g.pl
  have ht:=g.tl
  have h0:=List.length_pos_iff.2 g.ne
  obtain ⟨mm,hmm⟩:=sd
  refine (Yp g hh).chk Z (by rw [xL];omega) hsl (by rw [xL];omega) (λk=>xN (g.sz k) jY) hn' (λs hs=>?_) ?_
  · rw [hmm] at hs
    obtain ⟨h1,h2,h3,_,h5⟩:=(GY _).1 hs
    refine ⟨h1,h3,?_⟩
    rw [h5]
    show (s.1+3*s.2.1+mm.fst)%5<=255
    omega
  · rw [hmm,TK hn Z,<-WE hn hn' Z (WI h hh),List.map_map]
    rfl
end
end
section
section
variable {ps:List Pt} {ts us ss:List T3} {N:Nat}
theorem VC (g:FV ps ts) (hn:BV ps.length ts=true) (sd:∃mm,ss=FN mm ts ps.length ps.length) (hsl:ss.length<=24576):Fr ps ts ss:=by
  have e:(ts.map λt=>Md t ((λ_=>0) t))=ts:=by
    have e2:(λt:T3=>Md t ((λ_=>0) t))=id:=funext λt=>rfl
    rw [e2,List.map_id]
  have h:=Yo (h:=λ_=>0) g hn sd hsl (λ_=>by decide) (by rw [e];exact hn)
  rwa [e] at h
theorem PA (ts:List T3) (a b:Nat):∀s,∃z,KB ts s a b z
  | 0=>⟨-1,KB.none λu hu=>absurd hu (Nat.not_lt_zero _)⟩
  | s+1=>by
    obtain ⟨z,h⟩:=PA ts a b s
    by_cases e:Br ts s=(a,b)
    · by_cases hz:z = -1
      · subst hz;exact ⟨_,h.take e⟩
      · exact ⟨z,h.keep hz⟩
    · exact ⟨z,h.skip e⟩
end
end
section
section
variable {ts:List T3} {a b t:Nat}
end
section
variable {ts:List T3} {a b N t:Nat}
end
section
variable {ts:List T3} {a b N t i:Nat}
end
section
variable {ts:List T3} {p n:Nat}
end
end
end Go.Proofs.YtbfdamnfcmefmaaGreatDoor
