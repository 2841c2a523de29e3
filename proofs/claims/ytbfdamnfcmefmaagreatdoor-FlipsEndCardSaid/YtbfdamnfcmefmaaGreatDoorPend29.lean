import Derived.Test.YtbfdamnfcmefmaaGreatDoorPend28
namespace Go.Proofs.YtbfdamnfcmefmaaGreatDoor
open Go Go.RowKit Go.Proofs.Tryz
open Go.Value renaming slice→qz,bool→qa
set_option linter.unusedVariables false
set_option linter.unusedSimpArgs false
section
def Us (A B:P2) (t:T2):Bool:=decide (Bq A B t.1<=0)&&decide (Bq A B t.2.1<=0)&&decide (Bq A B t.2.2<=0)
def WR (s t:T2):Bool:=Us s.1 s.2.1 t||Us s.2.1 s.2.2 t||Us s.2.2 s.1 t
def V4 (s t:T2):Bool:=s == t||(WR s t||WR t s)
def V5:Bool:=Gj.all λp=>Gj.all λq=>(decide (p.1=q.1/\p.2.1=q.2.1/\p.2.2≠q.2.2))||(TG p.1 p.2.1 p.2.2).all λs=>(TG q.1 q.2.1 q.2.2).all λt=>V4 s t
theorem Mc:V5=true:=by decide +kernel
theorem WA {m:MQ} {s t:T2} (hs:s∈Aw m) (ht:t∈Aw m):V4 s t=true:=by
  obtain ⟨i,hi,h1⟩:=EJ m _ s hs
  obtain ⟨j,hj,h2⟩:=EJ m _ t ht
  have hx:=JB m
  have hy:=JC m
  have b:∀k,k<GA m*S4 m->k%GA m<=2/\k/GA m<=2:=λk hk=>by
    have a1:=Nat.mod_lt k (show 0<GA m by omega)
    have a2:k/GA m<S4 m:=Nat.div_lt_of_lt_mul hk
    omega
  rw [Mn] at h1 h2
  have h:=List.all_eq_true.1 (List.all_eq_true.1 Mc _ (Eu (b i hi).1 (b i hi).2 (J5 (Gg m i) i))) _ (Eu (b j hj).1 (b j hj).2 (J5 (Gg m j) j))
  rw [yy,xV] at h
  rcases h with ⟨e1,e2,e3⟩|h
  · exfalso
    have e:i=j:=by rw [<-Nat.div_add_mod i (GA m),<-Nat.div_add_mod j (GA m),show i%GA m=j%GA m from e1,show i/GA m=j/GA m from e2]
    subst e
    exact e3 O
  · exact List.all_eq_true.1 (List.all_eq_true.1 h s h1) t h2
theorem Nl {A B:P2} {t:T2} (h:Us A B t=true):∀q,q<3->Bq A B (C0 t q)<=0:=by
  simp only [Us,yz,xV] at h
  intro q hq
  have e:q=0\/q=1\/q=2:=by omega
  rcases e with rfl|rfl|rfl
  · exact h.1.1
  · exact h.1.2
  · exact h.2
theorem ao {s t:T2} (h:WR s t=true) (hp:0<Bq s.1 s.2.1 s.2.2):∃A B X:P2,0<Bq A B X/\(∀q,q<3->0<=Bq A B (C0 s q))/\∀q,q<3->Bq A B (C0 t q)<=0:=by
  have hs:∀A B C:P2,0<Bq A B C->(A=s.1/\B=s.2.1/\C=s.2.2\/A=s.2.1/\B=s.2.2/\C=s.1\/A=s.2.2/\B=s.1/\C=s.2.1)->∀q,q<3->0<=Bq A B (C0 s q):=λA B C hc he q hq=>by
    have e:q=0\/q=1\/q=2:=by omega
    have s1:=(DQ A B).2.1
    have s2:=(DQ A B).2.2
    rcases he with ⟨rfl,rfl,rfl⟩|⟨rfl,rfl,rfl⟩|⟨rfl,rfl,rfl⟩<;>rcases e with rfl|rfl|rfl<;>simp only [C0,if_true]<;>first|exact Int.le_of_lt hc|(simp;first|exact Int.le_of_lt hc|(rw [s1];exact Int.le_refl 0)|(have:=(DQ s.1 s.2.1);have:=(DQ s.2.1 s.2.2);have:=(DQ s.2.2 s.1);unfold Bq at *;omega)|(unfold Bq;grind))
  simp only [WR,yy] at h
  rcases h with (h|h)|h
  · exact ⟨_,_,_,hp,hs _ _ _ hp (.inl ⟨rfl,rfl,rfl⟩),Nl h⟩
  · have hp':0<Bq s.2.1 s.2.2 s.1:=by rw [E7];exact hp
    exact ⟨_,_,_,hp',hs _ _ _ hp' (.inr (.inl ⟨rfl,rfl,rfl⟩)),Nl h⟩
  · have hp':0<Bq s.2.2 s.1 s.2.1:=by rw [E7,E7];exact hp
    exact ⟨_,_,_,hp',hs _ _ _ hp' (.inr (.inr ⟨rfl,rfl,rfl⟩)),Nl h⟩
def Ln (ps:List Pt) (s t:T3):Prop:=∃(u:Pt) (k:Rat),u≠⟨0,0⟩/\ba u k (cor ps s.1) (cor ps s.2.1) (cor ps s.2.2) (cor ps t.1) (cor ps t.2.1) (cor ps t.2.2)
theorem Ln.symm {ps:List Pt} {s t:T3} (h:Ln ps s t):Ln ps t s:=by
  obtain ⟨u,k,hu,⟨h1,h2,h3⟩,h4,h5,h6⟩:=h
  have ng:∀a,dt ⟨-u.x,-u.y⟩ a = -dt u a:=λa=>by unfold dt;grind
  refine ⟨⟨-u.x,-u.y⟩,-k,λe=>hu ?_,⟨?_,?_,?_⟩,?_,?_,?_⟩
  · obtain ⟨x,y⟩:=u
    injection e with e1 e2
    simp only at e1 e2
    rw [show x=0 by grind,show y=0 by grind]
  all_goals rw [ng];grind
section
variable {ps:List Pt} {ts:List T3}
theorem Vi (g:FY ps ts) {i j:Nat} (hi:i<ts.length) (hj:j<ts.length) (hne:i≠j):Ln ps (ts.getD i (0,0,0)) (ts.getD j (0,0,0)):=by
  obtain ⟨m,pl,l⟩:=g.lattice
  obtain ⟨c,hc,hT⟩:=PB (Fe m.a m.b m.c m.d) (Bz m)
  have hlen:=l.inv.tl
  have dz:T2:=((0,0),(0,0),(0,0))
  have key:∀i j,i<ts.length->j<ts.length->WR ((Aw m).getD i ((0,0),(0,0),(0,0))) ((Aw m).getD j ((0,0),(0,0),(0,0)))=true->Ln ps (ts.getD i (0,0,0)) (ts.getD j (0,0,0)):=λi j hi hj h=>by
    obtain ⟨A,B,X,hX,hs,ht⟩:=ao h (HH m _ (l.cell hi)).1
    have pt:∀k,k<ts.length->∀r,r<3->∃q,q<3/\cor ps (FW (ts.getD k (0,0,0)) r)=PQ (mapM m) (Bz m) ((C0 ((Aw m).getD k ((0,0),(0,0),(0,0))) q).1:Rat) ((C0 ((Aw m).getD k ((0,0),(0,0),(0,0))) q).2:Rat):=λk hk r hr=>by
      have hat:=l.inv.at_ k Z
      have e:=Wu hat hr
      have hlt:FW (ts.getD k (0,0,0)) r<pl.length:=by
        have er:r=0\/r=1\/r=2:=by omega
        rcases er with rfl|rfl|rfl
        · exact hat.a.1
        · exact hat.b.1
        · exact hat.c.1
      refine ⟨JI m k r,Nat.mod_lt _ jY,?_⟩
      show ps.getD _ ⟨0,0⟩=_
      rw [l.at_ _ hlt,JV,e]
      rfl
    have q2:∀C:P2,AC (CK (Ge (mapM m) (Bz m) A)) (CK (Ge (mapM m) (Bz m) B)) (PQ (mapM m) (Bz m) (C.1:Rat) (C.2:Rat))=c*((Bq A B C:Int):Rat):=λC=>by
      rw [show mapM m=Gd m.a m.b m.c m.d from rfl,hT]
      congr 1
      simp only [KL,Bq,Rat.intCast_sub,Rat.intCast_mul,Rat.intCast_natCast]
    have dq:∀P:Pt,AC (CK (Ge (mapM m) (Bz m) A)) (CK (Ge (mapM m) (Bz m) B)) P=dt (Ew (CK (Ge (mapM m) (Bz m) B)) (CK (Ge (mapM m) (Bz m) A))) P-dt (Ew (CK (Ge (mapM m) (Bz m) B)) (CK (Ge (mapM m) (Bz m) A))) (CK (Ge (mapM m) (Bz m) A)):=λP=>by
      simp only [BC,dt,Ew];grind
    have lf:∀r,r<3->dt (Ew (CK (Ge (mapM m) (Bz m) B)) (CK (Ge (mapM m) (Bz m) A))) (CK (Ge (mapM m) (Bz m) A))<=dt (Ew (CK (Ge (mapM m) (Bz m) B)) (CK (Ge (mapM m) (Bz m) A))) (cor ps (FW (ts.getD i (0,0,0)) r)):=λr hr=>by
      obtain ⟨q,hq,e⟩:=pt i hi r hr
      have h1:=dq (cor ps (FW (ts.getD i (0,0,0)) r))
      rw [e,q2] at h1
      rw [e]
      have h2:(0:Rat)<=((Bq A B (C0 ((Aw m).getD i ((0,0),(0,0),(0,0))) q):Int):Rat):=by exact_mod_cast hs q hq
      have h3:=Rat.mul_nonneg (Rat.le_of_lt hc) h2
      grind
    have rt:∀r,r<3->dt (Ew (CK (Ge (mapM m) (Bz m) B)) (CK (Ge (mapM m) (Bz m) A))) (cor ps (FW (ts.getD j (0,0,0)) r))<=dt (Ew (CK (Ge (mapM m) (Bz m) B)) (CK (Ge (mapM m) (Bz m) A))) (CK (Ge (mapM m) (Bz m) A)):=λr hr=>by
      obtain ⟨q,hq,e⟩:=pt j hj r hr
      have h1:=dq (cor ps (FW (ts.getD j (0,0,0)) r))
      rw [e,q2] at h1
      rw [e]
      have h2:(0:Rat) <= -((Bq A B (C0 ((Aw m).getD j ((0,0),(0,0),(0,0))) q):Int):Rat):=by
        have h9:((Bq A B (C0 ((Aw m).getD j ((0,0),(0,0),(0,0))) q):Int):Rat)<=0:=by exact_mod_cast ht q hq
        grind
      have h3:=Rat.mul_nonneg (Rat.le_of_lt hc) h2
      grind
    refine ⟨_,_,λe=>?_,⟨lf 0 jY,lf 1 jY,lf 2 jY⟩,rt 0 jY,rt 1 jY,rt 2 jY⟩
    have h1:=dq (PQ (mapM m) (Bz m) (X.1:Rat) (X.2:Rat))
    rw [q2,e] at h1
    have h2:(0:Rat)<((Bq A B X:Int):Rat):=by exact_mod_cast hX
    have h3:=Rat.mul_pos hc h2
    unfold dt at h1
    grind
  have h3:=WA (l.cell hi) (l.cell hj)
  simp only [V4,yy,beq_iff_eq] at h3
  rcases h3 with h3|h3|h3
  · exfalso
    obtain ⟨x,y,ho⟩:=Zt (HH m _ (l.cell hi)).1
    refine Mq m (show i<(Aw m).length by omega) (show j<(Aw m).length by omega) hne ((0,0),(0,0),(0,0)) x y ho ?_
    rw [<-h3]
    exact ⟨by have:=ho.1;grind,by have:=ho.2.1;grind,by have:=ho.2.2;grind⟩
  · exact key i j hi hj h3
  · exact (key j i hj hi h3).symm
end
end
section
section
variable {md:List (P2×Nat)} {N M n a b c e p:Nat} {k κ:P2} {T:T3} {ts ts':List T3}
end
end
section
def bz (l:Nat):Int×Int×Int:=if l=0 then (2,0,0) else if l=1 then (0,2,0) else if l=2 then (0,0,2) else if l=3 then (1,1,0) else if l=4 then (0,1,1) else (1,0,1)
def D3 (i j k:Nat):Int:=(bz i).1*((bz j).2.1*(bz k).2.2-(bz j).2.2*(bz k).2.1)-(bz i).2.1*((bz j).1*(bz k).2.2-(bz j).2.2*(bz k).1)+(bz i).2.2*((bz j).1*(bz k).2.1-(bz j).2.1*(bz k).1)
def dF (a b:Pt):Pt:=G0 (a+b) (1/2)
def LP (a b c:Pt) (l:Nat):Pt:=if l=0 then a else if l=1 then b else if l=2 then c else if l=3 then dF a b else if l=4 then dF b c else dF c a
def Gf (fam:List T3) (l:Nat):Bool:=fam.any λL=>B4 L l
def Xu (i j:Nat) (M:T3):Bool:=decide (D3 i j M.1<=0)&&decide (D3 i j M.2.1<=0)&&decide (D3 i j M.2.2<=0)
def TC (L M:T3):Bool:=Xu L.1 L.2.1 M||Xu L.2.1 L.2.2 M||Xu L.2.2 L.1 M
def Xh (L:T3) (l:Nat):Bool:=decide (0<=D3 l L.2.1 L.2.2)&&decide (0<=D3 L.1 l L.2.2)&&decide (0<=D3 L.1 L.2.1 l)
structure Tr (fam:List T3):Prop where
  lt:∀L∈fam,L.1<6/\L.2.1<6/\L.2.2<6
  pos:∀L∈fam,0<D3 L.1 L.2.1 L.2.2
  sep:fam.Pairwise λL M=>(TC L M||TC M L)=true
  cls:∀L∈fam,∀l,l<6->Gf fam l=true->Xh L l=true->B4 L l=true
  cor:∀l,l<3->Gf fam l=true
instance (fam:List T3):Decidable (∀l,l<6->Gf fam l=true->∀L∈fam,Xh L l=true->B4 L l=true):=inferInstance
theorem O6 {fam:List T3} (h:((fam.all λL=>decide (L.1<6)&&decide (L.2.1<6)&&decide (L.2.2<6)&&decide (0<D3 L.1 L.2.1 L.2.2)&&(List.range 6).all λl=>!Gf fam l||!Xh L l||B4 L l)&&(List.range 3).all (Gf fam))=true) (hs:fam.Pairwise λL M=>(TC L M||TC M L)=true):Tr fam:=by
  rw [yz] at h
  have h1:=List.all_eq_true.1 h.1
  simp only [yz,xV] at h1
  refine ⟨λL hL=>?_,λL hL=>?_,hs,λL hL l hl hu hc=>?_,λl hl=>?_⟩
  · have:=h1 L hL;exact ⟨this.1.1.1.1,this.1.1.1.2,this.1.1.2⟩
  · exact (h1 L hL).1.2
  · have:=List.all_eq_true.1 (h1 L hL).2 l (List.mem_range.2 hl)
    rw [hu,hc] at this
    simpa using this
  · exact List.all_eq_true.1 h.2 l (List.mem_range.2 hl)
section
variable {a b c q:Pt} {l i j k:Nat}
theorem Rm (hl:l<6):(LP a b c l).x*2=((bz l).1:Rat)*a.x+((bz l).2.1:Rat)*b.x+((bz l).2.2:Rat)*c.x/\(LP a b c l).y*2=((bz l).1:Rat)*a.y+((bz l).2.1:Rat)*b.y+((bz l).2.2:Rat)*c.y/\((bz l).1:Rat)+((bz l).2.1:Rat)+((bz l).2.2:Rat)=2:=by
  have e:l=0\/l=1\/l=2\/l=3\/l=4\/l=5:=by omega
  rcases e with rfl|rfl|rfl|rfl|rfl|rfl<;>simp [LP,bz,dF,R6,R7,ZL,ZM]<;>refine ⟨?_,?_,?_⟩<;>grind
theorem YP {P Q R:Pt} {p1 p2 p3 q1 q2 q3 r1 r2 r3:Rat} (hx:P.x*2=p1*a.x+p2*b.x+p3*c.x) (hy:P.y*2=p1*a.y+p2*b.y+p3*c.y) (hp:p1+p2+p3=2)
    (kx:Q.x*2=q1*a.x+q2*b.x+q3*c.x) (ky:Q.y*2=q1*a.y+q2*b.y+q3*c.y) (kq:q1+q2+q3=2) (mx:R.x*2=r1*a.x+r2*b.x+r3*c.x) (my:R.y*2=r1*a.y+r2*b.y+r3*c.y) (mr:r1+r2+r3=2) :
    AC P Q R*8=(p1*(q2*r3-q3*r2)-p2*(q1*r3-q3*r1)+p3*(q1*r2-q2*r1))*AC a b c:=by
  have e1:p3=2-p1-p2:=by grind
  have e2:q3=2-q1-q2:=by grind
  have e3:r3=2-r1-r2:=by grind
  subst e1;subst e2;subst e3
  have ux:(Q.x-P.x)*2=(q1-p1)*(a.x-c.x)+(q2-p2)*(b.x-c.x):=by grind
  have uy:(Q.y-P.y)*2=(q1-p1)*(a.y-c.y)+(q2-p2)*(b.y-c.y):=by grind
  have vx:(R.x-P.x)*2=(r1-p1)*(a.x-c.x)+(r2-p2)*(b.x-c.x):=by grind
  have vy:(R.y-P.y)*2=(r1-p1)*(a.y-c.y)+(r2-p2)*(b.y-c.y):=by grind
  have e:AC P Q R*4=((Q.x-P.x)*2)*((R.y-P.y)*2)-((Q.y-P.y)*2)*((R.x-P.x)*2):=by simp only [BC];grind
  have e':AC P Q R*4=((q1-p1)*(r2-p2)-(q2-p2)*(r1-p1))*AC a b c:=by
    rw [e,ux,uy,vx,vy]
    simp only [BC]
    generalize q1-p1=s1
    generalize q2-p2=s2
    generalize r1-p1=s3
    generalize r2-p2=s4
    grind
  have e4:p1*(q2*(2-r1-r2)-(2-q1-q2)*r2)-p2*(q1*(2-r1-r2)-(2-q1-q2)*r1)+(2-p1-p2)*(q1*r2-q2*r1)=((q1-p1)*(r2-p2)-(q2-p2)*(r1-p1))*2:=by grind
  rw [e4]
  have:AC P Q R*8=AC P Q R*4*2:=by grind
  rw [this,e']
  grind
theorem F2 (hi:i<6) (hj:j<6) (hk:k<6):AC (LP a b c i) (LP a b c j) (LP a b c k)*8=((D3 i j k:Int):Rat)*AC a b c:=by
  obtain ⟨x1,y1,s1⟩:=Rm (a:=a) (b:=b) (c:=c) hi
  obtain ⟨x2,y2,s2⟩:=Rm (a:=a) (b:=b) (c:=c) hj
  obtain ⟨x3,y3,s3⟩:=Rm (a:=a) (b:=b) (c:=c) hk
  rw [YP x1 y1 s1 x2 y2 s2 x3 y3 s3]
  congr 1
  unfold D3
  simp only [Rat.intCast_add,Rat.intCast_sub,Rat.intCast_mul]
theorem QS (hT:0<AC a b c) (hi:i<6) (hj:j<6) (hk:k<6) (h:0<=AC (LP a b c i) (LP a b c j) (LP a b c k)):0<=D3 i j k:=by
  have e:=F2 (a:=a) (b:=b) (c:=c) hi hj hk
  have h1:0<=AC a b c*((D3 i j k:Int):Rat):=by rw [Rat.mul_comm,<-e];grind
  have h2:=Hj hT h1
  exact_mod_cast h2
theorem HR (hT:0<AC a b c) (hi:i<6) (hj:j<6) (hk:k<6) (h:0<=D3 i j k):0<=AC (LP a b c i) (LP a b c j) (LP a b c k):=by
  have e:=F2 (a:=a) (b:=b) (c:=c) hi hj hk
  have h1:(0:Rat)<=((D3 i j k:Int):Rat):=by exact_mod_cast h
  have h2:=Rat.mul_nonneg h1 (Rat.le_of_lt hT)
  grind
theorem GK (hT:0<AC a b c) (hi:i<6) (hj:j<6) (hk:k<6) (h:D3 i j k<=0):AC (LP a b c i) (LP a b c j) (LP a b c k)<=0:=by
  have e:=F2 (a:=a) (b:=b) (c:=c) hi hj hk
  have h1:(0:Rat) <= -((D3 i j k:Int):Rat):=by
    have:((D3 i j k:Int):Rat)<=0:=by exact_mod_cast h
    grind
  have h2:=Rat.mul_nonneg h1 (Rat.le_of_lt hT)
  grind
theorem YQ (hT:0<AC a b c) (hi:i<6) (hj:j<6) (hk:k<6) (h:0<D3 i j k):0<AC (LP a b c i) (LP a b c j) (LP a b c k):=by
  have e:=F2 (a:=a) (b:=b) (c:=c) hi hj hk
  have h1:(0:Rat)<((D3 i j k:Int):Rat):=by exact_mod_cast h
  have h2:=Rat.mul_pos h1 hT
  grind
theorem Ri (hT:0<AC a b c) (hi:i<6) (hj:j<6) (h:LP a b c i=LP a b c j):i=j:=by
  have key:∀u v:Nat,u<6->v<6->D3 i u v=D3 j u v:=λu v hu hv=>by
    have e1:=F2 (a:=a) (b:=b) (c:=c) hi hu hv
    have e2:=F2 (a:=a) (b:=b) (c:=c) hj hu hv
    rw [h,e2] at e1
    have h1:(((D3 i u v:Int):Rat)-((D3 j u v:Int):Rat))*AC a b c=0:=by grind
    rcases Rat.mul_eq_zero.1 h1 with h2|h2
    · have h3:((D3 i u v:Int):Rat)=((D3 j u v:Int):Rat):=by grind
      exact_mod_cast h3
    · rw [h2] at hT;exact absurd hT Rat.lt_irrefl
  have k1:=key 1 2 jY jY
  have k2:=key 2 0 jY jY
  have k3:=key 0 1 jY jY
  have ei:i=0\/i=1\/i=2\/i=3\/i=4\/i=5:=by omega
  have ej:j=0\/j=1\/j=2\/j=3\/j=4\/j=5:=by omega
  rcases ei with rfl|rfl|rfl|rfl|rfl|rfl<;>rcases ej with rfl|rfl|rfl|rfl|rfl|rfl<;>first|rfl|(revert k1 k2 k3;decide)
theorem dV (P Q R q u v:Pt):AC u v q*AC P Q R=AC q Q R*AC u v P+AC P q R*AC u v Q+AC P Q q*AC u v R:=by simp only [BC];grind
theorem Y8 {P Q R u v:Pt} (hT:0<AC P Q R) (h1:0<=AC q Q R) (h2:0<=AC P q R) (h3:0<=AC P Q q) (k1:0<=AC u v P) (k2:0<=AC u v Q) (k3:0<=AC u v R):0<=AC u v q:=by
  have e:=dV P Q R q u v
  have m1:=Rat.mul_nonneg h1 k1
  have m2:=Rat.mul_nonneg h2 k2
  have m3:=Rat.mul_nonneg h3 k3
  exact H0 hT (by rw [e];grind)
end
theorem Ni {u a b c:Pt} {k:Rat} {l:Nat} (hl:l<6) (h1:k<=dt u a) (h2:k<=dt u b) (h3:k<=dt u c):k<=dt u (LP a b c l):=by
  obtain ⟨x1,y1,s1⟩:=Rm (a:=a) (b:=b) (c:=c) hl
  have e:dt u (LP a b c l)*2=((bz l).1:Rat)*dt u a+((bz l).2.1:Rat)*dt u b+((bz l).2.2:Rat)*dt u c:=by
    have e0:dt u (LP a b c l)*2=u.x*((LP a b c l).y*2)-u.y*((LP a b c l).x*2):=by unfold dt;grind
    rw [e0,x1,y1];unfold dt;grind
  have z:(0:Rat)<=((bz l).1:Rat)/\(0:Rat)<=((bz l).2.1:Rat)/\(0:Rat)<=((bz l).2.2:Rat):=by
    have e:l=0\/l=1\/l=2\/l=3\/l=4\/l=5:=by omega
    rcases e with rfl|rfl|rfl|rfl|rfl|rfl<;>exact ⟨by decide,by decide,by decide⟩
  have m1:=Rat.mul_nonneg z.1 (show 0<=dt u a-k by grind)
  have m2:=Rat.mul_nonneg z.2.1 (show 0<=dt u b-k by grind)
  have m3:=Rat.mul_nonneg z.2.2 (show 0<=dt u c-k by grind)
  have s2:((bz l).1:Rat)*k+((bz l).2.1:Rat)*k+((bz l).2.2:Rat)*k=2*k:=by rw [<-s1];grind
  generalize ((bz l).1:Rat)=p1 at *
  generalize ((bz l).2.1:Rat)=p2 at *
  generalize ((bz l).2.2:Rat)=p3 at *
  clear x1 y1 z s1
  grind
theorem Nj {u a b c:Pt} {k:Rat} {l:Nat} (hl:l<6) (h1:dt u a<=k) (h2:dt u b<=k) (h3:dt u c<=k):dt u (LP a b c l)<=k:=by
  have ng:∀a,dt ⟨-u.x,-u.y⟩ a = -dt u a:=λa=>by unfold dt;grind
  have h:=Ni (u:=⟨-u.x,-u.y⟩) (k := -k) (a:=a) (b:=b) (c:=c) hl (by rw [ng];grind) (by rw [ng];grind) (by rw [ng];grind)
  rw [ng] at h
  grind
end
section
theorem ap {q:Rat}:0<q.num.sign↔0<q:=by
  rcases HW 0 q with h|h
  · rw [KX h];exact ⟨λ_=>h,λ_=>by decide⟩
  · by_cases e:q=0
    · rw [Lq e,e];decide
    · rw [OL (q:=q) (by grind)];exact ⟨λk=>absurd k jY,λk=>by grind⟩
theorem JL {q:Rat}:q.num.sign = -1↔q<0:=by
  rcases HW 0 q with h|h
  · rw [KX h];exact ⟨λk=>absurd k jY,λk=>by grind⟩
  · by_cases e:q=0
    · rw [Lq e,e];decide
    · have:q<0:=by grind
      rw [OL this];exact ⟨λ_=>this,λ_=>rfl⟩
theorem QB {p q:Pt} {B:Q3} (h:AC p q B.1<=0/\AC p q B.2.1<=0/\AC p q B.2.2<=0):Fp p q B=false:=by
  have k:∀r,AC p q r<=0->MH p q r=false:=λr hr=>xH (by rw [ap];grind)
  unfold Fp
  rw [k _ h.1,k _ h.2.1,k _ h.2.2];rfl
theorem ZN {A B:Q3} (h:Fl A.1 A.2.1 A.2.2 B.1 B.2.1 B.2.2):Dw A B=true:=by
  unfold Dw
  rcases h with h|h|h
  · rw [QB h];rfl
  · rw [QB (p:=A.2.1) (q:=A.2.2) h];simp
  · rw [QB (p:=A.2.2) (q:=A.1) h];simp
theorem TX {ps:List Pt} {t:T3} {q:Pt} (hT:0<AC (cor ps t.1) (cor ps t.2.1) (cor ps t.2.2)):JR ps q t=0↔¬Kh ps t q:=by
  have hd:∀z,0<=z/AC (cor ps t.1) (cor ps t.2.1) (cor ps t.2.2)↔0<=z:=λz=>by
    have e:z/AC (cor ps t.1) (cor ps t.2.1) (cor ps t.2.2)*AC (cor ps t.1) (cor ps t.2.1) (cor ps t.2.2)=z:=Rat.div_mul_cancel (by grind)
    generalize z/AC (cor ps t.1) (cor ps t.2.1) (cor ps t.2.2)=w at *
    exact ⟨λk=>by rw [<-e];exact Rat.mul_nonneg k (by grind),λk=>by rw [<-e] at k;exact H0 hT k⟩
  have h1:JR ps q t=FT (AC q (cor ps t.2.1) (cor ps t.2.2)/AC (cor ps t.1) (cor ps t.2.1) (cor ps t.2.2)) (AC (cor ps t.1) q (cor ps t.2.2)/AC (cor ps t.1) (cor ps t.2.1) (cor ps t.2.2)) (AC (cor ps t.1) (cor ps t.2.1) q/AC (cor ps t.1) (cor ps t.2.1) (cor ps t.2.2)):=if_neg (λe=>by rw [e] at hT;exact absurd hT Rat.lt_irrefl)
  have h2:∀{x y z:Rat},FT x y z=0↔¬(0<=x/\0<=y/\0<=z):=λ{x y z}=>by
    unfold FT
    split
    · rename_i h
      rw [JL,JL,JL] at h
      exact ⟨λ_=>by grind,λ_=>rfl⟩
    · rename_i h
      rw [JL,JL,JL] at h
      exact ⟨λh=>by omega,λh=>by exfalso;apply h;grind⟩
  rw [h1,h2,hd,hd,hd]
  exact Iff.rfl
def GJ (mv:Nat->Nat->Nat) (t:T3) (l:Nat):Nat:=if l=0 then t.1 else if l=1 then t.2.1 else if l=2 then t.2.2 else if l=3 then mv t.1 t.2.1 else if l=4 then mv t.2.1 t.2.2 else mv t.2.2 t.1
def F1 (mv:Nat->Nat->Nat) (t L:T3):T3:=(GJ mv t L.1,GJ mv t L.2.1,GJ mv t L.2.2)
def YM (t:T3) (l:Nat):P2:=if l=3 then B5 t.1 t.2.1 else if l=4 then B5 t.2.1 t.2.2 else B5 t.2.2 t.1
def Kc (ps:List Pt) (t:T3) (l:Nat):Pt:=LP (cor ps t.1) (cor ps t.2.1) (cor ps t.2.2) l
structure IN (ps:List Pt) (ts:List T3) (ps':List Pt) (ts':List T3) (mv:Nat->Nat->Nat) (fam:T3->List T3):Prop where
  g:FY ps ts
  cut:ts'=ts.flatMap λt=>(fam t).map (F1 mv t)
  fok:∀t∈ts,Tr (fam t)
  len:ps.length<=ps'.length
  old:∀p,p<ps.length->cor ps' p=cor ps p
  mid:∀t∈ts,∀l,3<=l->l<6->Gf (fam t) l=true->ps.length<=GJ mv t l/\GJ mv t l<ps'.length/\cor ps' (GJ mv t l)=Kc ps t l
  new:∀p,ps.length<=p->p<ps'.length->∃t∈ts,∃l,3<=l/\l<6/\Gf (fam t) l=true/\p=GJ mv t l
  cls:∀t∈ts,∀s∈ts,∀l k,3<=l->l<6->3<=k->k<6->Gf (fam s) k=true->YM t l=YM s k->Gf (fam t) l=true/\GJ mv t l=GJ mv s k
theorem Q1 {fam:List T3} {L:T3} {l:Nat} (hL:L∈fam) (h:B4 L l=true):Gf fam l=true:=List.any_eq_true.2 ⟨L,hL,h⟩
theorem dp (L:T3):B4 L L.1=true/\B4 L L.2.1=true/\B4 L L.2.2=true:=by simp [B4]
theorem Nv {mv:Nat->Nat->Nat} {t L:T3} {l:Nat} (h:B4 L l=true):B4 (F1 mv t L) (GJ mv t l)=true:=by
  simp only [B4,yy,beq_iff_eq] at h ⊢
  rcases h with (h|h)|h
  · left;left;show GJ mv t L.1=_;rw [h]
  · left;right;show GJ mv t L.2.1=_;rw [h]
  · right;show GJ mv t L.2.2=_;rw [h]
section
variable {ps ps':List Pt} {ts ts':List T3} {mv:Nat->Nat->Nat} {fam:T3->List T3} {t s c L:T3} {l k p:Nat}
theorem HX (h:t∈ts):∃j,j<ts.length/\ts.getD j (0,0,0)=t:=by
  obtain ⟨j,hj,e⟩:=List.getElem_of_mem h
  exact ⟨j,hj,by rw [List.getD,xP hj];exact e⟩
theorem IY {j:Nat} (h:j<ts.length):ts.getD j (0,0,0)∈ts:=by rw [List.getD,xP h];exact List.getElem_mem h
theorem IN.tri (S:IN ps ts ps' ts' mv fam) (ht:t∈ts):bb ps t:=by
  obtain ⟨j,hj,rfl⟩:=HX ht
  exact S.g.tri j hj
theorem IN.v_pos (S:IN ps ts ps' ts' mv fam) (ht:t∈ts):0<AC (cor ps t.1) (cor ps t.2.1) (cor ps t.2.2):=(S.tri ht).pos
theorem IN.v_pt (S:IN ps ts ps' ts' mv fam) (ht:t∈ts) (hl:l<6) (hu:Gf (fam t) l=true):GJ mv t l<ps'.length/\cor ps' (GJ mv t l)=Kc ps t l:=by
  have h:=S.tri ht
  have hle:=S.len
  rcases Nat.lt_or_ge l 3 with h3|h3
  · have e:l=0\/l=1\/l=2:=by omega
    rcases e with rfl|rfl|rfl
    · exact ⟨Nat.lt_of_lt_of_le h.a hle,S.old _ h.a⟩
    · exact ⟨Nat.lt_of_lt_of_le h.b hle,S.old _ h.b⟩
    · exact ⟨Nat.lt_of_lt_of_le h.c hle,S.old _ h.c⟩
  · exact (S.mid t ht l h3 hl hu).2
theorem IN.v_child (S:IN ps ts ps' ts' mv fam) (hc:c∈ts'):∃t∈ts,∃L∈fam t,c=F1 mv t L:=by
  rw [S.cut] at hc
  obtain ⟨t,ht,hc⟩:=List.mem_flatMap.1 hc
  obtain ⟨L,hL,e⟩:=List.mem_map.1 hc
  exact ⟨t,ht,L,hL,e.symm⟩
theorem IN.v_c3 (S:IN ps ts ps' ts' mv fam) (ht:t∈ts) (hL:L∈fam t):cor ps' (F1 mv t L).1=Kc ps t L.1/\cor ps' (F1 mv t L).2.1=Kc ps t L.2.1/\cor ps' (F1 mv t L).2.2=Kc ps t L.2.2:=by
  obtain ⟨h1,h2,h3⟩:=(S.fok t ht).lt L hL
  obtain ⟨u1,u2,u3⟩:=dp L
  exact ⟨(S.v_pt ht h1 (Q1 hL u1)).2,(S.v_pt ht h2 (Q1 hL u2)).2,(S.v_pt ht h3 (Q1 hL u3)).2⟩
theorem IN.v_cpos (S:IN ps ts ps' ts' mv fam) (ht:t∈ts) (hL:L∈fam t):0<AC (cor ps' (F1 mv t L).1) (cor ps' (F1 mv t L).2.1) (cor ps' (F1 mv t L).2.2):=by
  obtain ⟨h1,h2,h3⟩:=(S.fok t ht).lt L hL
  obtain ⟨e1,e2,e3⟩:=S.v_c3 ht hL
  rw [e1,e2,e3]
  exact YQ (S.v_pos ht) h1 h2 h3 ((S.fok t ht).pos L hL)
def BB (ps:List Pt) (c d:T3):Prop:=Fl (cor ps c.1) (cor ps c.2.1) (cor ps c.2.2) (cor ps d.1) (cor ps d.2.1) (cor ps d.2.2)\/Fl (cor ps d.1) (cor ps d.2.1) (cor ps d.2.2) (cor ps c.1) (cor ps c.2.1) (cor ps c.2.2)
theorem Rh {a b c:Pt} {M:T3} (hT:0<AC a b c) (hL:L.1<6/\L.2.1<6/\L.2.2<6) (hM:M.1<6/\M.2.1<6/\M.2.2<6) (h:TC L M=true):Fl (LP a b c L.1) (LP a b c L.2.1) (LP a b c L.2.2) (LP a b c M.1) (LP a b c M.2.1) (LP a b c M.2.2):=by
  simp only [TC,Xu,yy,yz,xV] at h
  rcases h with (⟨⟨h1,h2⟩,h3⟩|⟨⟨h1,h2⟩,h3⟩)|⟨⟨h1,h2⟩,h3⟩
  · exact .inl ⟨GK hT hL.1 hL.2.1 hM.1 h1,GK hT hL.1 hL.2.1 hM.2.1 h2,GK hT hL.1 hL.2.1 hM.2.2 h3⟩
  · exact .inr (.inl ⟨GK hT hL.2.1 hL.2.2 hM.1 h1,GK hT hL.2.1 hL.2.2 hM.2.1 h2,GK hT hL.2.1 hL.2.2 hM.2.2 h3⟩)
  · exact .inr (.inr ⟨GK hT hL.2.2 hL.1 hM.1 h1,GK hT hL.2.2 hL.1 hM.2.1 h2,GK hT hL.2.2 hL.1 hM.2.2 h3⟩)
theorem IN.v_bb (S:IN ps ts ps' ts' mv fam):ts'.Pairwise (BB ps'):=by
  rw [S.cut]
  refine List.pairwise_flatMap.2 ⟨λt ht=>?_,?_⟩
  · refine List.pairwise_map.2 ((S.fok t ht).sep.imp_of_mem λ{L M} hL hM h=>?_)
    obtain ⟨e1,e2,e3⟩:=S.v_c3 ht hL
    obtain ⟨f1,f2,f3⟩:=S.v_c3 ht hM
    unfold BB
    rw [e1,e2,e3,f1,f2,f3]
    rw [yy] at h
    exact h.imp (Rh (S.v_pos ht) ((S.fok t ht).lt L hL) ((S.fok t ht).lt M hM)) (Rh (S.v_pos ht) ((S.fok t ht).lt M hM) ((S.fok t ht).lt L hL))
  · have base:ts.Pairwise (Ln ps):=List.pairwise_iff_getElem.2 λi j hi hj hij=>by
      have h:=Vi S.g hi hj Z
      rwa [List.getD,List.getD,xP hi,xP hj] at h
    refine base.imp_of_mem λ{t s} ht hs ⟨u,k,hu,⟨h1,h2,h3⟩,h4,h5,h6⟩ x hx y hy=>?_
    obtain ⟨L,hL,rfl⟩:=List.mem_map.1 hx
    obtain ⟨M,hM,rfl⟩:=List.mem_map.1 hy
    obtain ⟨l1,l2,l3⟩:=(S.fok t ht).lt L hL
    obtain ⟨m1,m2,m3⟩:=(S.fok s hs).lt M hM
    obtain ⟨e1,e2,e3⟩:=S.v_c3 ht hL
    obtain ⟨f1,f2,f3⟩:=S.v_c3 hs hM
    have a:=S.v_cpos ht hL
    have b:=S.v_cpos hs hM
    refine fd a b hu (k:=k) ?_
    rw [e1,e2,e3,f1,f2,f3]
    exact ⟨⟨Ni l1 h1 h2 h3,Ni l2 h1 h2 h3,Ni l3 h1 h2 h3⟩,Nj m1 h4 h5 h6,Nj m2 h4 h5 h6,Nj m3 h4 h5 h6⟩
theorem IN.v_up (S:IN ps ts ps' ts' mv fam) (ht:t∈ts) (hL:L∈fam t) {q:Pt} (h:Kh ps' (F1 mv t L) q):Kh ps t q:=by
  obtain ⟨l1,l2,l3⟩:=(S.fok t ht).lt L hL
  obtain ⟨e1,e2,e3⟩:=S.v_c3 ht hL
  have hc:=S.v_cpos ht hL
  obtain ⟨h1,h2,h3⟩:=h
  have hT:=S.v_pos ht
  have sd:∀i j:Nat,i<6->j<6->(∀l,l<6->0<=D3 i j l)->0<=AC (Kc ps t i) (Kc ps t j) q:=λi j hi hj hd =>
    Y8 hc h1 h2 h3 (by rw [e1];exact HR hT hi hj l1 (hd _ l1)) (by rw [e2];exact HR hT hi hj l2 (hd _ l2)) (by rw [e3];exact HR hT hi hj l3 (hd _ l3))
  have d1:=sd 1 2 jY jY jY
  have d2:=sd 2 0 jY jY jY
  have d3:=sd 0 1 jY jY jY
  have c1:AC q (cor ps t.2.1) (cor ps t.2.2)=AC (cor ps t.2.1) (cor ps t.2.2) q:=by simp only [BC];grind
  have c2:AC (cor ps t.1) q (cor ps t.2.2)=AC (cor ps t.2.2) (cor ps t.1) q:=by simp only [BC];grind
  exact ⟨by show 0<=AC q (cor ps t.2.1) (cor ps t.2.2);rw [c1];exact d1,by show 0<=AC (cor ps t.1) q (cor ps t.2.2);rw [c2];exact d2,d3⟩
theorem IN.v_lab (S:IN ps ts ps' ts' mv fam) (ht:t∈ts) (hL:L∈fam t) (hl:l<6) (hu:Gf (fam t) l=true) (h:Kh ps' (F1 mv t L) (Kc ps t l)):B4 L l=true:=by
  obtain ⟨l1,l2,l3⟩:=(S.fok t ht).lt L hL
  obtain ⟨e1,e2,e3⟩:=S.v_c3 ht hL
  obtain ⟨h1,h2,h3⟩:=h
  have h1:0<=AC (Kc ps t l) (cor ps' (F1 mv t L).2.1) (cor ps' (F1 mv t L).2.2):=h1
  have h2:0<=AC (cor ps' (F1 mv t L).1) (Kc ps t l) (cor ps' (F1 mv t L).2.2):=h2
  have h3:0<=AC (cor ps' (F1 mv t L).1) (cor ps' (F1 mv t L).2.1) (Kc ps t l):=h3
  rw [e2,e3] at h1
  rw [e1,e3] at h2
  rw [e1,e2] at h3
  have hT:=S.v_pos ht
  refine (S.fok t ht).cls L hL l hl hu ?_
  simp only [Xh,yz,xV]
  exact ⟨⟨QS hT hl l2 l3 h1,QS hT l1 hl l3 h2⟩,QS hT l1 l2 hl h3⟩
theorem Nx (h:B4 t p=true):∃l,l<3/\p=GJ mv t l:=by
  simp only [B4,yy,beq_iff_eq] at h
  rcases h with (h|h)|h
  · exact ⟨0,by decide,h.symm⟩
  · exact ⟨1,by decide,h.symm⟩
  · exact ⟨2,by decide,h.symm⟩
theorem VW (hk:3<=k) (hk6:k<6):∃r,r<3/\YM s k=B5 (crn s r) (crn s ((r+1)%3))/\Kc ps s k=G0 (cor ps (crn s r)+cor ps (crn s ((r+1)%3))) (1/2):=by
  have e:k=3\/k=4\/k=5:=by omega
  rcases e with rfl|rfl|rfl
  · exact ⟨0,by decide,rfl,rfl⟩
  · exact ⟨1,by decide,rfl,rfl⟩
  · exact ⟨2,by decide,rfl,rfl⟩
theorem Ut {x y:Nat} (hx:B4 t x=true) (hy:B4 t y=true) (hne:x≠y):∃l,3<=l/\l<6/\YM t l=B5 x y:=by
  simp only [B4,yy,beq_iff_eq] at hx hy
  have sy:∀a b,B5 a b=B5 b a:=λa b=>by unfold B5;rw [Nat.min_comm,Nat.max_comm]
  rcases hx with (hx|hx)|hx<;>rcases hy with (hy|hy)|hy<;>subst hx<;>subst hy
  · exact absurd O hne
  · exact ⟨3,by decide,by decide,rfl⟩
  · exact ⟨5,by decide,by decide,sy _ _⟩
  · exact ⟨3,by decide,by decide,sy _ _⟩
  · exact absurd O hne
  · exact ⟨4,by decide,by decide,rfl⟩
  · exact ⟨5,by decide,by decide,rfl⟩
  · exact ⟨4,by decide,by decide,sy _ _⟩
  · exact absurd O hne
theorem IN.v_mid (S:IN ps ts ps' ts' mv fam) (ht:t∈ts) (hs:s∈ts) (hk:3<=k) (hk6:k<6) (hu:Gf (fam s) k=true) (h:Kh ps t (Kc ps s k)):∃l,3<=l/\l<6/\Gf (fam t) l=true/\GJ mv t l=GJ mv s k:=by
  obtain ⟨r,hr,e1,e2⟩:=VW (ps:=ps) (s:=s) hk hk6
  obtain ⟨i,hi,rfl⟩:=HX hs
  obtain ⟨j,hj,rfl⟩:=HX ht
  rw [e2] at h
  obtain ⟨a,b⟩:=Vh S.g hi hj hr h
  have hne:crn (ts.getD i (0,0,0)) r≠crn (ts.getD i (0,0,0)) ((r+1)%3):=by
    have hT:=S.tri hs
    have er:r=0\/r=1\/r=2:=by omega
    rcases er with rfl|rfl|rfl
    · exact hT.ab
    · exact hT.bc
    · exact hT.ca
  obtain ⟨l,hl,hl6,e⟩:=Ut a b hne
  exact ⟨l,hl,hl6,S.cls _ ht _ hs l k hl hl6 hk hk6 hu (by rw [e,e1])⟩
theorem Ty (hT:0<AC (cor ps t.1) (cor ps t.2.1) (cor ps t.2.2)) (hl:l<6):Kh ps t (Kc ps t l):=by
  have e:l=0\/l=1\/l=2\/l=3\/l=4\/l=5:=by omega
  have k1:0<=D3 l 1 2:=by rcases e with rfl|rfl|rfl|rfl|rfl|rfl<;>decide
  have k2:0<=D3 0 l 2:=by rcases e with rfl|rfl|rfl|rfl|rfl|rfl<;>decide
  have k3:0<=D3 0 1 l:=by rcases e with rfl|rfl|rfl|rfl|rfl|rfl<;>decide
  have d1:0<=AC (Kc ps t l) (Kc ps t 1) (Kc ps t 2):=HR hT hl jY jY k1
  have d2:0<=AC (Kc ps t 0) (Kc ps t l) (Kc ps t 2):=HR hT jY hl jY k2
  have d3:0<=AC (Kc ps t 0) (Kc ps t 1) (Kc ps t l):=HR hT jY jY hl k3
  exact ⟨d1,d2,d3⟩
theorem IN.v_crn (S:IN ps ts ps' ts' mv fam) (hc:c∈ts') (hp:p<ps'.length) (h:Kh ps' c (cor ps' p)):B4 c p=true:=by
  obtain ⟨t,ht,L,hL,rfl⟩:=S.v_child hc
  rcases Nat.lt_or_ge p ps.length with hlt|hge
  · have h1:=S.v_up ht hL h
    rw [S.old p hlt] at h1
    obtain ⟨j,hj,rfl⟩:=HX ht
    obtain ⟨l,hl,e⟩:=Nx (mv:=mv) (Ji S.g hlt hj h1)
    have hu:=(S.fok _ ht).cor l hl
    rw [e,(S.v_pt ht (show l<6 by omega) hu).2] at h
    rw [e]
    exact Nv (S.v_lab ht hL Z hu h)
  · obtain ⟨s,hs,k,hk,hk6,hu,e⟩:=S.new p hge hp
    have e2:=(S.mid s hs k hk hk6 hu).2.2
    rw [e,e2] at h
    obtain ⟨l,hl,hl6,hul,el⟩:=S.v_mid ht hs hk hk6 hu (S.v_up ht hL h)
    have e3:=(S.mid t ht l hl hl6 hul).2.2
    rw [<-e2,<-el,e3] at h
    rw [e,<-el]
    exact Nv (S.v_lab ht hL hl6 hul h)
theorem IN.v_dst (S:IN ps ts ps' ts' mv fam) {p q:Nat} (hp:p<ps'.length) (hq:q<ps'.length) (h:cor ps' p=cor ps' q):p=q:=by
  have one:∀p q,p<ps.length->ps.length<=q->q<ps'.length->cor ps' p≠cor ps' q:=λp q hp hq hq' h=>by
    obtain ⟨s,hs,k,hk,hk6,hu,e⟩:=S.new q hq hq'
    have e2:=(S.mid s hs k hk hk6 hu).2.2
    rw [e,e2,S.old p hp] at h
    have h1:=Ty (S.v_pos hs) hk6
    rw [<-h] at h1
    obtain ⟨j,hj,rfl⟩:=HX hs
    obtain ⟨l,hl,e4⟩:=Nx (mv:=mv) (Ji S.g hp hj h1)
    have e5:=(S.v_pt hs (show l<6 by omega) ((S.fok _ hs).cor l hl)).2
    rw [<-e4,S.old p hp] at e5
    have:=Ri (S.v_pos hs) (show l<6 by omega) hk6 (e5.symm.trans h)
    omega
  rcases Nat.lt_or_ge p ps.length with hpl|hpg<;>rcases Nat.lt_or_ge q ps.length with hql|hqg
  · rw [S.old p hpl,S.old q hql] at h
    exact Vg S.g hpl hql h
  · exact absurd h (one p q hpl hqg hq)
  · exact absurd h.symm (one q p hql hpg hp)
  · obtain ⟨s,hs,k,hk,hk6,hu,e⟩:=S.new p hpg hp
    obtain ⟨t,ht,l,hl,hl6,hul,e'⟩:=S.new q hqg hq
    have e2:=(S.mid s hs k hk hk6 hu).2.2
    have e3:=(S.mid t ht l hl hl6 hul).2.2
    rw [e,e2,e',e3] at h
    have h1:=Ty (S.v_pos ht) hl6
    rw [<-h] at h1
    obtain ⟨l0,h0,h06,hu0,e0⟩:=S.v_mid ht hs hk hk6 hu h1
    have e4:=(S.mid t ht l0 h0 h06 hu0).2.2
    rw [e0,e2,h] at e4
    have:=Ri (S.v_pos ht) hl6 h06 e4
    rw [e,e',<-e0,this]
theorem IN.v_use (S:IN ps ts ps' ts' mv fam) (hp:p<ps'.length):∃c∈ts',B4 c p=true:=by
  have fin:∀t∈ts,∀l,Gf (fam t) l=true->∃c∈ts',B4 c (GJ mv t l)=true:=λt ht l hu=>by
    obtain ⟨L,hL,h⟩:=List.any_eq_true.1 hu
    exact ⟨F1 mv t L,by rw [S.cut];exact List.mem_flatMap.2 ⟨t,ht,List.mem_map_of_mem hL⟩,Nv h⟩
  rcases Nat.lt_or_ge p ps.length with hlt|hge
  · obtain ⟨j,hj,h⟩:=I5 S.g hlt
    obtain ⟨l,hl,e⟩:=Nx (mv:=mv) h
    rw [e]
    exact fin _ (IY hj) l ((S.fok _ (IY hj)).cor l hl)
  · obtain ⟨s,hs,k,hk,hk6,hu,e⟩:=S.new p hge hp
    rw [e]
    exact fin s hs k hu
theorem IN.chk {ss':List T3} (S:IN ps ts ps' ts' mv fam) (hpl:ps'.length<=4096) (htl:ts'.length<=8192) (hsl:ss'.length<=24576) (h0:0<ts'.length) (hz:∀k,Bl (cor ps' k)<=1000) (hn:Ba ps'.length ts'=true)
    (hs:∀s∈ss',s.1<ps'.length/\s.2.1<ps'.length/\s.2.2<=255) (hr:ss'.map (λs=>(s.1,s.2.1))=(Ea ts').map λs=>(s.1,s.2.1)):Eo ps' ts' ss' where
  pl:=hpl
  tl:=htl
  t0:=h0
  sl:=hsl
  sz:=hz
  num:=hn
  pos j hj:=by
    obtain ⟨t,ht,L,hL,e⟩:=S.v_child (IY hj)
    rw [e]
    exact KX (S.v_cpos ht hL)
  sid j hj:=hs _ (IY hj)
  use p hp:=by
    obtain ⟨c,hc,h⟩:=S.v_use hp
    obtain ⟨j,hj,e⟩:=HX hc
    exact ⟨j,hj,by rw [e];exact h⟩
  dst:=List.pairwise_iff_getElem.2 λi j hi hj hij e=>by
    have:=S.v_dst hi hj (by unfold cor;rw [List.getD,List.getD,xP hi,xP hj];exact e)
    omega
  apart i k hi hk:=by
    have h:=List.pairwise_iff_getElem.1 S.v_bb k i Z hi hk
    rw [<-show ts'.getD k (0,0,0)=ts'[k] by rw [List.getD,xP Z];rfl,<-show ts'.getD i (0,0,0)=ts'[i] by rw [List.getD,xP hi];rfl] at h
    rcases h with h|h
    · rw [ZN (A:=Bd ps' (ts'.getD k (0,0,0))) (B:=Bd ps' (ts'.getD i (0,0,0))) h];simp
    · rw [ZN (A:=Bd ps' (ts'.getD i (0,0,0))) (B:=Bd ps' (ts'.getD k (0,0,0))) h];simp
  crn i p hi hp hn:=by
    have hm:=IY hi
    obtain ⟨t,ht,L,hL,e⟩:=S.v_child hm
    refine (TX (by rw [e];exact S.v_cpos ht hL)).2 λh=>?_
    rw [S.v_crn hm hp h] at hn
    cases hn
  rl:=by have h:=congrArg List.length hr;simpa using h
  rim j hj:=by
    have hl:=congrArg List.length hr
    simp only [xK] at hl
    have h:=congrArg (λl:List (Nat×Nat)=>l[j]?) hr
    simp only [List.getElem?_map,xP hj,xP (show j<(Ea ts').length by omega),Option.map_some,Option.some.injEq,Prod.mk.injEq] at h
    rw [List.getD,List.getD,xP hj,xP (show j<(Ea ts').length by omega)]
    exact h
end
end
section
section
variable {ps:List Pt} {ts ss:List T3} {c:T3}
theorem Qr {W w:World} {L:List As} (hw:BH ⟨W,none⟩ w L) (i:Nat) {p:Option Addr} {T:TypeId} {z n c c':Nat} {cs:List Value} (hi:L[i]?=some (rowW p T z n c cs)) (ho:OwnOk p n c) (hl:cs.length=n*z) (ok:A8 p n c'):Ro (λ_=>True) w (⟨p,c',ok⟩:RX cs n):=λy hy=>by
  rcases xO.1 hy with rfl
  exact ⟨(GO (S:=λ_=>True) hw i hi ho hl).1,λ_ _=>trivial⟩
theorem cR {w:World} {x:MX ps ts ss} (h1:Ro (λ_=>True) w x.a) (h2:Ro (λ_=>True) w x.b) (h3:Ro (λ_=>True) w x.c):Ro (λ_=>True) w x:=λy hy=>by
  have hy:y∈[x.a.row,x.b.row,x.c.row]:=hy
  simp only [xN,List.not_mem_nil,or_false] at hy
  rcases hy with rfl|rfl|rfl
  · exact h1 _ (xO.2 O)
  · exact h2 _ (xO.2 O)
  · exact h3 _ (xO.2 O)
def Qt (b:Nat):T3:=if b=0 then (0,1,2) else if b=1 then (1,2,0) else (2,0,1)
theorem Yz (b:Nat):Tr [Qt b]:=by
  unfold Qt
  split
  · exact O6 jY jY
  · split<;>exact O6 jY jY
theorem PW (b:Nat) {l:Nat} (h3:3<=l):Gf [Qt b] l=false:=by
  unfold Qt
  have e:∀x,x<3->¬x=l:=λx hx=>by omega
  split
  · simp [Gf,B4];omega
  · split<;>(simp [Gf,B4];omega)
theorem WK (mv:Nat->Nat->Nat) (t:T3) {b:Nat} (hb:b<3):F1 mv t (Qt b)=Md t b:=by
  have e:b=0\/b=1\/b=2:=by omega
  rcases e with rfl|rfl|rfl<;>rfl
theorem NA {α β:Type} (f:α->β):∀l:List α,l.map f=l.flatMap λt=>[f t]
  | []=>rfl
  | x::r=>by rw [List.map_cons,List.flatMap_cons,List.singleton_append,NA f r]
theorem Y1 (g:FY ps ts) {h:T3->Nat} (hh:∀t,h t<3):IN ps ts ps (ts.map λt=>Md t (h t)) (λ_ _=>0) (λt=>[Qt (h t)]):=by
  refine ⟨g,?_,λt _=>Yz _,Nat.le_refl _,λ_ _=>rfl,λt _ l hl _ hu=>?_,λp h1 h2=>by omega,λt _ s _ l k _ _ hk _ hu=>?_⟩
  · have e:(λt=>[Qt (h t)].map (F1 (λ_ _=>0) t))=λt=>[Md t (h t)]:=funext λt=>by rw [List.map_cons,List.map_nil,WK _ _ (hh t)]
    rw [e]
    exact NA _ _
  · rw [PW _ hl] at hu;cases hu
  · rw [PW _ hk] at hu;cases hu
theorem WL (h:T3->Nat) (hh:∀t,h t<3):(Ep ts).Perm (Ep (ts.map λt=>Md t (h t))):=by
  unfold Ep
  refine flatMap_perm2 (0,0,0) (by rw [xK]) λj hj=>?_
  have e:(ts.map λt=>Md t (h t)).getD j (0,0,0)=Md (ts.getD j (0,0,0)) (h (ts.getD j (0,0,0))):=by simp [List.getD,hj]
  rw [e]
  generalize ts.getD j (0,0,0)=T
  have hb:=hh T
  have eb:h T=0\/h T=1\/h T=2:=by omega
  obtain ⟨a,b,d⟩:=T
  rcases eb with eb|eb|eb<;>rw [eb]
  · exact List.Perm.refl _
  · show [B5 a b,B5 b d,B5 d a].Perm [B5 b d,B5 d a,B5 a b]
    exact (List.perm_append_comm (l₁:=[B5 a b]) (l₂:=[B5 b d,B5 d a]))
  · show [B5 a b,B5 b d,B5 d a].Perm [B5 d a,B5 a b,B5 b d]
    exact (List.perm_append_comm (l₁:=[B5 a b,B5 b d]) (l₂:=[B5 d a]))
theorem Y0 (g:FY ps ts) (hn:Ba ps.length ts=true) (sd:∃mm,ss=FP mm ts ps.length ps.length) (hsl:ss.length<=24576) {h:T3->Nat} (hh:∀t,h t<3) (hn':Ba ps.length (ts.map λt=>Md t (h t))=true):Eo ps (ts.map λt=>Md t (h t)) ss:=by
  have hp:=g.pl
  have ht:=g.tl
  have h0:=List.length_pos_iff.2 g.ne
  obtain ⟨mm,hmm⟩:=sd
  refine (Y1 g hh).chk Z (by rw [xK];omega) hsl (by rw [xK];omega) (λk=>xM (g.sz k) jY) hn' (λs hs=>?_) ?_
  · rw [hmm] at hs
    obtain ⟨h1,h2,h3,_,h5⟩:=(GU _).1 hs
    refine ⟨h1,h3,?_⟩
    rw [h5]
    show (s.1+3*s.2.1+mm.fst)%5<=255
    omega
  · rw [hmm,TH hn Z,<-WH hn hn' Z (WL h hh),List.map_map]
    rfl
end
end
section
section
variable {ps:List Pt} {ts us ss:List T3} {N:Nat}
theorem VG (g:FY ps ts) (hn:Ba ps.length ts=true) (sd:∃mm,ss=FP mm ts ps.length ps.length) (hsl:ss.length<=24576):Eo ps ts ss:=by
  have e:(ts.map λt=>Md t ((λ_=>0) t))=ts:=by
    have e2:(λt:T3=>Md t ((λ_=>0) t))=id:=funext λt=>rfl
    rw [e2,List.map_id]
  have h:=Y0 (h:=λ_=>0) g hn sd hsl (λ_=>by decide) (by rw [e];exact hn)
  rwa [e] at h
end
end
section
section
variable {ts:List T3} {a b t:Nat}
end
section
variable {ts:List T3} {a b N t:Nat}
end
section
variable {ts:List T3} {a b N t i:Nat}
end
section
variable {ts:List T3} {p n:Nat}
end
end
end Go.Proofs.YtbfdamnfcmefmaaGreatDoor
