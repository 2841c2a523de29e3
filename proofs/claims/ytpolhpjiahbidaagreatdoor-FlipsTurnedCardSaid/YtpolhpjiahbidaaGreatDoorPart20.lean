import Derived.Test.YtpolhpjiahbidaaGreatDoorPart19
namespace Go.Proofs.YtpolhpjiahbidaaGreatDoor
open Go Go.RowKit Go.Proofs.Tryz
open Go.Value renaming slice→qz,bool→qa
set_option linter.unusedVariables false
set_option linter.unusedSimpArgs false
section
def bz (l:Nat):Int×Int×Int:=if l=0 then (2,0,0) else if l=1 then (0,2,0) else if l=2 then (0,0,2) else if l=3 then (1,1,0) else if l=4 then (0,1,1) else (1,0,1)
def D3 (i j k:Nat):Int:=(bz i).1*((bz j).2.1*(bz k).2.2-(bz j).2.2*(bz k).2.1)-(bz i).2.1*((bz j).1*(bz k).2.2-(bz j).2.2*(bz k).1)+(bz i).2.2*((bz j).1*(bz k).2.1-(bz j).2.1*(bz k).1)
def cD (a b:Pt):Pt:=Dk (a+b) (1/2)
def LP (a b c:Pt) (l:Nat):Pt:=if l=0 then a else if l=1 then b else if l=2 then c else if l=3 then cD a b else if l=4 then cD b c else cD c a
def Gn (fam:List T3) (l:Nat):Bool:=fam.any λL=>CO L l
def XQ (i j:Nat) (M:T3):Bool:=decide (D3 i j M.1<=0)&&decide (D3 i j M.2.1<=0)&&decide (D3 i j M.2.2<=0)
def Sn (L M:T3):Bool:=XQ L.1 L.2.1 M||XQ L.2.1 L.2.2 M||XQ L.2.2 L.1 M
def XC (L:T3) (l:Nat):Bool:=decide (0<=D3 l L.2.1 L.2.2)&&decide (0<=D3 L.1 l L.2.2)&&decide (0<=D3 L.1 L.2.1 l)
structure TN (fam:List T3):Prop where
  lt:∀L∈fam,L.1<6/\L.2.1<6/\L.2.2<6
  pos:∀L∈fam,0<D3 L.1 L.2.1 L.2.2
  sep:fam.Pairwise λL M=>(Sn L M||Sn M L)=true
  cls:∀L∈fam,∀l,l<6->Gn fam l=true->XC L l=true->CO L l=true
  cor:∀l,l<3->Gn fam l=true
instance (fam:List T3):Decidable (∀l,l<6->Gn fam l=true->∀L∈fam,XC L l=true->CO L l=true):=inferInstance
theorem Od {fam:List T3} (h:((fam.all λL=>decide (L.1<6)&&decide (L.2.1<6)&&decide (L.2.2<6)&&decide (0<D3 L.1 L.2.1 L.2.2)&&(List.range 6).all λl=>!Gn fam l||!XC L l||CO L l)&&(List.range 3).all (Gn fam))=true) (hs:fam.Pairwise λL M=>(Sn L M||Sn M L)=true):TN fam:=by
  rw [yz] at h
  have h1:=List.all_eq_true.1 h.1
  simp only [yz,xV] at h1
  refine ⟨λL hL=>?_,λL hL=>?_,hs,λL hL l hl hu hc=>?_,λl hl=>?_⟩
  · have:=h1 L hL;exact ⟨this.1.1.1.1,this.1.1.1.2,this.1.1.2⟩
  · exact (h1 L hL).1.2
  · have:=List.all_eq_true.1 (h1 L hL).2 l (List.mem_range.2 hl)
    rw [hu,hc] at this
    simpa using this
  · exact List.all_eq_true.1 h.2 l (List.mem_range.2 hl)
section
variable {a b c q:Pt} {l i j k:Nat}
theorem RC (hl:l<6):(LP a b c l).x*2=((bz l).1:Rat)*a.x+((bz l).2.1:Rat)*b.x+((bz l).2.2:Rat)*c.x/\(LP a b c l).y*2=((bz l).1:Rat)*a.y+((bz l).2.1:Rat)*b.y+((bz l).2.2:Rat)*c.y/\((bz l).1:Rat)+((bz l).2.1:Rat)+((bz l).2.2:Rat)=2:=by
  have e:l=0\/l=1\/l=2\/l=3\/l=4\/l=5:=by omega
  rcases e with rfl|rfl|rfl|rfl|rfl|rfl<;>simp [LP,bz,cD,RS,RT,Qi,Qj]<;>refine ⟨?_,?_,?_⟩<;>grind
theorem Xr {P Q R:Pt} {p1 p2 p3 q1 q2 q3 r1 r2 r3:Rat} (hx:P.x*2=p1*a.x+p2*b.x+p3*c.x) (hy:P.y*2=p1*a.y+p2*b.y+p3*c.y) (hp:p1+p2+p3=2)
    (kx:Q.x*2=q1*a.x+q2*b.x+q3*c.x) (ky:Q.y*2=q1*a.y+q2*b.y+q3*c.y) (kq:q1+q2+q3=2) (mx:R.x*2=r1*a.x+r2*b.x+r3*c.x) (my:R.y*2=r1*a.y+r2*b.y+r3*c.y) (mr:r1+r2+r3=2) :
    AN P Q R*8=(p1*(q2*r3-q3*r2)-p2*(q1*r3-q3*r1)+p3*(q1*r2-q2*r1))*AN a b c:=by
  have e1:p3=2-p1-p2:=by grind
  have e2:q3=2-q1-q2:=by grind
  have e3:r3=2-r1-r2:=by grind
  subst e1;subst e2;subst e3
  have ux:(Q.x-P.x)*2=(q1-p1)*(a.x-c.x)+(q2-p2)*(b.x-c.x):=by grind
  have uy:(Q.y-P.y)*2=(q1-p1)*(a.y-c.y)+(q2-p2)*(b.y-c.y):=by grind
  have vx:(R.x-P.x)*2=(r1-p1)*(a.x-c.x)+(r2-p2)*(b.x-c.x):=by grind
  have vy:(R.y-P.y)*2=(r1-p1)*(a.y-c.y)+(r2-p2)*(b.y-c.y):=by grind
  have e:AN P Q R*4=((Q.x-P.x)*2)*((R.y-P.y)*2)-((Q.y-P.y)*2)*((R.x-P.x)*2):=by simp only [Ck];grind
  have e':AN P Q R*4=((q1-p1)*(r2-p2)-(q2-p2)*(r1-p1))*AN a b c:=by
    rw [e,ux,uy,vx,vy]
    simp only [Ck]
    generalize q1-p1=s1
    generalize q2-p2=s2
    generalize r1-p1=s3
    generalize r2-p2=s4
    grind
  have e4:p1*(q2*(2-r1-r2)-(2-q1-q2)*r2)-p2*(q1*(2-r1-r2)-(2-q1-q2)*r1)+(2-p1-p2)*(q1*r2-q2*r1)=((q1-p1)*(r2-p2)-(q2-p2)*(r1-p1))*2:=by grind
  rw [e4]
  have:AN P Q R*8=AN P Q R*4*2:=by grind
  rw [this,e']
  grind
theorem F1 (hi:i<6) (hj:j<6) (hk:k<6):AN (LP a b c i) (LP a b c j) (LP a b c k)*8=((D3 i j k:Int):Rat)*AN a b c:=by
  obtain ⟨x1,y1,s1⟩:=RC (a:=a) (b:=b) (c:=c) hi
  obtain ⟨x2,y2,s2⟩:=RC (a:=a) (b:=b) (c:=c) hj
  obtain ⟨x3,y3,s3⟩:=RC (a:=a) (b:=b) (c:=c) hk
  rw [Xr x1 y1 s1 x2 y2 s2 x3 y3 s3]
  congr 1
  unfold D3
  simp only [Rat.intCast_add,Rat.intCast_sub,Rat.intCast_mul]
theorem P0 (hT:0<AN a b c) (hi:i<6) (hj:j<6) (hk:k<6) (h:0<=AN (LP a b c i) (LP a b c j) (LP a b c k)):0<=D3 i j k:=by
  have e:=F1 (a:=a) (b:=b) (c:=c) hi hj hk
  have h1:0<=AN a b c*((D3 i j k:Int):Rat):=by rw [Rat.mul_comm,<-e];grind
  have h2:=Hm hT h1
  exact_mod_cast h2
theorem HS (hT:0<AN a b c) (hi:i<6) (hj:j<6) (hk:k<6) (h:0<=D3 i j k):0<=AN (LP a b c i) (LP a b c j) (LP a b c k):=by
  have e:=F1 (a:=a) (b:=b) (c:=c) hi hj hk
  have h1:(0:Rat)<=((D3 i j k:Int):Rat):=by exact_mod_cast h
  have h2:=Rat.mul_nonneg h1 (Rat.le_of_lt hT)
  grind
theorem GO (hT:0<AN a b c) (hi:i<6) (hj:j<6) (hk:k<6) (h:D3 i j k<=0):AN (LP a b c i) (LP a b c j) (LP a b c k)<=0:=by
  have e:=F1 (a:=a) (b:=b) (c:=c) hi hj hk
  have h1:(0:Rat) <= -((D3 i j k:Int):Rat):=by
    have:((D3 i j k:Int):Rat)<=0:=by exact_mod_cast h
    grind
  have h2:=Rat.mul_nonneg h1 (Rat.le_of_lt hT)
  grind
theorem Xs (hT:0<AN a b c) (hi:i<6) (hj:j<6) (hk:k<6) (h:0<D3 i j k):0<AN (LP a b c i) (LP a b c j) (LP a b c k):=by
  have e:=F1 (a:=a) (b:=b) (c:=c) hi hj hk
  have h1:(0:Rat)<((D3 i j k:Int):Rat):=by exact_mod_cast h
  have h2:=Rat.mul_pos h1 hT
  grind
theorem Q9 (hT:0<AN a b c) (hi:i<6) (hj:j<6) (h:LP a b c i=LP a b c j):i=j:=by
  have key:∀u v:Nat,u<6->v<6->D3 i u v=D3 j u v:=λu v hu hv=>by
    have e1:=F1 (a:=a) (b:=b) (c:=c) hi hu hv
    have e2:=F1 (a:=a) (b:=b) (c:=c) hj hu hv
    rw [h,e2] at e1
    have h1:(((D3 i u v:Int):Rat)-((D3 j u v:Int):Rat))*AN a b c=0:=by grind
    rcases Rat.mul_eq_zero.1 h1 with h2|h2
    · have h3:((D3 i u v:Int):Rat)=((D3 j u v:Int):Rat):=by grind
      exact_mod_cast h3
    · rw [h2] at hT;exact absurd hT Rat.lt_irrefl
  have k1:=key 1 2 jY jY
  have k2:=key 2 0 jY jY
  have k3:=key 0 1 jY jY
  have ei:i=0\/i=1\/i=2\/i=3\/i=4\/i=5:=by omega
  have ej:j=0\/j=1\/j=2\/j=3\/j=4\/j=5:=by omega
  rcases ei with rfl|rfl|rfl|rfl|rfl|rfl<;>rcases ej with rfl|rfl|rfl|rfl|rfl|rfl<;>first|rfl|(revert k1 k2 k3;decide)
theorem cQ (P Q R q u v:Pt):AN u v q*AN P Q R=AN q Q R*AN u v P+AN P q R*AN u v Q+AN P Q q*AN u v R:=by simp only [Ck];grind
theorem YY {P Q R u v:Pt} (hT:0<AN P Q R) (h1:0<=AN q Q R) (h2:0<=AN P q R) (h3:0<=AN P Q q) (k1:0<=AN u v P) (k2:0<=AN u v Q) (k3:0<=AN u v R):0<=AN u v q:=by
  have e:=cQ P Q R q u v
  have m1:=Rat.mul_nonneg h1 k1
  have m2:=Rat.mul_nonneg h2 k2
  have m3:=Rat.mul_nonneg h3 k3
  exact H2 hT (by rw [e];grind)
end
theorem NL {u a b c:Pt} {k:Rat} {l:Nat} (hl:l<6) (h1:k<=dt u a) (h2:k<=dt u b) (h3:k<=dt u c):k<=dt u (LP a b c l):=by
  obtain ⟨x1,y1,s1⟩:=RC (a:=a) (b:=b) (c:=c) hl
  have e:dt u (LP a b c l)*2=((bz l).1:Rat)*dt u a+((bz l).2.1:Rat)*dt u b+((bz l).2.2:Rat)*dt u c:=by
    have e0:dt u (LP a b c l)*2=u.x*((LP a b c l).y*2)-u.y*((LP a b c l).x*2):=by unfold dt;grind
    rw [e0,x1,y1];unfold dt;grind
  have z:(0:Rat)<=((bz l).1:Rat)/\(0:Rat)<=((bz l).2.1:Rat)/\(0:Rat)<=((bz l).2.2:Rat):=by
    have e:l=0\/l=1\/l=2\/l=3\/l=4\/l=5:=by omega
    rcases e with rfl|rfl|rfl|rfl|rfl|rfl<;>exact ⟨by decide,by decide,by decide⟩
  have m1:=Rat.mul_nonneg z.1 (show 0<=dt u a-k by grind)
  have m2:=Rat.mul_nonneg z.2.1 (show 0<=dt u b-k by grind)
  have m3:=Rat.mul_nonneg z.2.2 (show 0<=dt u c-k by grind)
  have s2:((bz l).1:Rat)*k+((bz l).2.1:Rat)*k+((bz l).2.2:Rat)*k=2*k:=by rw [<-s1];grind
  generalize ((bz l).1:Rat)=p1 at *
  generalize ((bz l).2.1:Rat)=p2 at *
  generalize ((bz l).2.2:Rat)=p3 at *
  clear x1 y1 z s1
  grind
theorem NM {u a b c:Pt} {k:Rat} {l:Nat} (hl:l<6) (h1:dt u a<=k) (h2:dt u b<=k) (h3:dt u c<=k):dt u (LP a b c l)<=k:=by
  have ng:∀a,dt ⟨-u.x,-u.y⟩ a = -dt u a:=λa=>by unfold dt;grind
  have h:=NL (u:=⟨-u.x,-u.y⟩) (k := -k) (a:=a) (b:=b) (c:=c) hl (by rw [ng];grind) (by rw [ng];grind) (by rw [ng];grind)
  rw [ng] at h
  grind
end
section
theorem Z4 {q:Rat}:0<q.num.sign↔0<q:=by
  rcases HX 0 q with h|h
  · rw [EI h];exact ⟨λ_=>h,λ_=>by decide⟩
  · by_cases e:q=0
    · rw [O2 e,e];decide
    · rw [Ff (q:=q) (by grind)];exact ⟨λk=>absurd k jY,λk=>by grind⟩
theorem JM {q:Rat}:q.num.sign = -1↔q<0:=by
  rcases HX 0 q with h|h
  · rw [EI h];exact ⟨λk=>absurd k jY,λk=>by grind⟩
  · by_cases e:q=0
    · rw [O2 e,e];decide
    · have:q<0:=by grind
      rw [Ff this];exact ⟨λ_=>this,λ_=>rfl⟩
theorem Pl {p q:Pt} {B:Q3} (h:AN p q B.1<=0/\AN p q B.2.1<=0/\AN p q B.2.2<=0):GM p q B=false:=by
  have k:∀r,AN p q r<=0->NY p q r=false:=λr hr=>xH (by rw [Z4];grind)
  unfold GM
  rw [k _ h.1,k _ h.2.1,k _ h.2.2];rfl
theorem Yy {A B:Q3} (h:PM A.1 A.2.1 A.2.2 B.1 B.2.1 B.2.2):Eb A B=true:=by
  unfold Eb
  rcases h with h|h|h
  · rw [Pl h];rfl
  · rw [Pl (p:=A.2.1) (q:=A.2.2) h];simp
  · rw [Pl (p:=A.2.2) (q:=A.1) h];simp
theorem S7 {ps:List Pt} {t:T3} {q:Pt} (hT:0<AN (cor ps t.1) (cor ps t.2.1) (cor ps t.2.2)):Lv ps q t=0↔¬KZ ps t q:=by
  have hd:∀z,0<=z/AN (cor ps t.1) (cor ps t.2.1) (cor ps t.2.2)↔0<=z:=λz=>by
    have e:z/AN (cor ps t.1) (cor ps t.2.1) (cor ps t.2.2)*AN (cor ps t.1) (cor ps t.2.1) (cor ps t.2.2)=z:=Rat.div_mul_cancel (by grind)
    generalize z/AN (cor ps t.1) (cor ps t.2.1) (cor ps t.2.2)=w at *
    exact ⟨λk=>by rw [<-e];exact Rat.mul_nonneg k (by grind),λk=>by rw [<-e] at k;exact H2 hT k⟩
  have h1:Lv ps q t=Gb (AN q (cor ps t.2.1) (cor ps t.2.2)/AN (cor ps t.1) (cor ps t.2.1) (cor ps t.2.2)) (AN (cor ps t.1) q (cor ps t.2.2)/AN (cor ps t.1) (cor ps t.2.1) (cor ps t.2.2)) (AN (cor ps t.1) (cor ps t.2.1) q/AN (cor ps t.1) (cor ps t.2.1) (cor ps t.2.2)):=if_neg (λe=>by rw [e] at hT;exact absurd hT Rat.lt_irrefl)
  have h2:∀{x y z:Rat},Gb x y z=0↔¬(0<=x/\0<=y/\0<=z):=λ{x y z}=>by
    unfold Gb
    split
    · rename_i h
      rw [JM,JM,JM] at h
      exact ⟨λ_=>by grind,λ_=>rfl⟩
    · rename_i h
      rw [JM,JM,JM] at h
      exact ⟨λh=>by omega,λh=>by exfalso;apply h;grind⟩
  rw [h1,h2,hd,hd,hd]
  exact Iff.rfl
def GN (mv:Nat->Nat->Nat) (t:T3) (l:Nat):Nat:=if l=0 then t.1 else if l=1 then t.2.1 else if l=2 then t.2.2 else if l=3 then mv t.1 t.2.1 else if l=4 then mv t.2.1 t.2.2 else mv t.2.2 t.1
def F0 (mv:Nat->Nat->Nat) (t L:T3):T3:=(GN mv t L.1,GN mv t L.2.1,GN mv t L.2.2)
def Xp (t:T3) (l:Nat):P2:=if l=3 then CP t.1 t.2.1 else if l=4 then CP t.2.1 t.2.2 else CP t.2.2 t.1
def KV (ps:List Pt) (t:T3) (l:Nat):Pt:=LP (cor ps t.1) (cor ps t.2.1) (cor ps t.2.2) l
structure II (ps:List Pt) (ts:List T3) (ps':List Pt) (ts':List T3) (mv:Nat->Nat->Nat) (fam:T3->List T3):Prop where
  g:E_ ps ts
  cut:ts'=ts.flatMap λt=>(fam t).map (F0 mv t)
  fok:∀t∈ts,TN (fam t)
  len:ps.length<=ps'.length
  old:∀p,p<ps.length->cor ps' p=cor ps p
  mid:∀t∈ts,∀l,3<=l->l<6->Gn (fam t) l=true->ps.length<=GN mv t l/\GN mv t l<ps'.length/\cor ps' (GN mv t l)=KV ps t l
  new:∀p,ps.length<=p->p<ps'.length->∃t∈ts,∃l,3<=l/\l<6/\Gn (fam t) l=true/\p=GN mv t l
  cls:∀t∈ts,∀s∈ts,∀l k,3<=l->l<6->3<=k->k<6->Gn (fam s) k=true->Xp t l=Xp s k->Gn (fam t) l=true/\GN mv t l=GN mv s k
theorem QV {fam:List T3} {L:T3} {l:Nat} (hL:L∈fam) (h:CO L l=true):Gn fam l=true:=List.any_eq_true.2 ⟨L,hL,h⟩
theorem cb (L:T3):CO L L.1=true/\CO L L.2.1=true/\CO L L.2.2=true:=by simp [CO]
theorem NZ {mv:Nat->Nat->Nat} {t L:T3} {l:Nat} (h:CO L l=true):CO (F0 mv t L) (GN mv t l)=true:=by
  simp only [CO,yy,beq_iff_eq] at h ⊢
  rcases h with (h|h)|h
  · left;left;show GN mv t L.1=_;rw [h]
  · left;right;show GN mv t L.2.1=_;rw [h]
  · right;show GN mv t L.2.2=_;rw [h]
section
variable {ps ps':List Pt} {ts ts':List T3} {mv:Nat->Nat->Nat} {fam:T3->List T3} {t s c L:T3} {l k p:Nat}
theorem HY (h:t∈ts):∃j,j<ts.length/\ts.getD j (0,0,0)=t:=by
  obtain ⟨j,hj,e⟩:=List.getElem_of_mem h
  exact ⟨j,hj,by rw [List.getD,xP hj];exact e⟩
theorem IV {j:Nat} (h:j<ts.length):ts.getD j (0,0,0)∈ts:=by rw [List.getD,xP h];exact List.getElem_mem h
theorem II.tri (S:II ps ts ps' ts' mv fam) (ht:t∈ts):ag ps t:=by
  obtain ⟨j,hj,rfl⟩:=HY ht
  exact S.g.tri j hj
theorem II.v_pos (S:II ps ts ps' ts' mv fam) (ht:t∈ts):0<AN (cor ps t.1) (cor ps t.2.1) (cor ps t.2.2):=(S.tri ht).pos
theorem II.v_pt (S:II ps ts ps' ts' mv fam) (ht:t∈ts) (hl:l<6) (hu:Gn (fam t) l=true):GN mv t l<ps'.length/\cor ps' (GN mv t l)=KV ps t l:=by
  have h:=S.tri ht
  have hle:=S.len
  rcases Nat.lt_or_ge l 3 with h3|h3
  · have e:l=0\/l=1\/l=2:=by omega
    rcases e with rfl|rfl|rfl
    · exact ⟨Nat.lt_of_lt_of_le h.a hle,S.old _ h.a⟩
    · exact ⟨Nat.lt_of_lt_of_le h.b hle,S.old _ h.b⟩
    · exact ⟨Nat.lt_of_lt_of_le h.c hle,S.old _ h.c⟩
  · exact (S.mid t ht l h3 hl hu).2
theorem II.v_child (S:II ps ts ps' ts' mv fam) (hc:c∈ts'):∃t∈ts,∃L∈fam t,c=F0 mv t L:=by
  rw [S.cut] at hc
  obtain ⟨t,ht,hc⟩:=List.mem_flatMap.1 hc
  obtain ⟨L,hL,e⟩:=List.mem_map.1 hc
  exact ⟨t,ht,L,hL,e.symm⟩
theorem II.v_c3 (S:II ps ts ps' ts' mv fam) (ht:t∈ts) (hL:L∈fam t):cor ps' (F0 mv t L).1=KV ps t L.1/\cor ps' (F0 mv t L).2.1=KV ps t L.2.1/\cor ps' (F0 mv t L).2.2=KV ps t L.2.2:=by
  obtain ⟨h1,h2,h3⟩:=(S.fok t ht).lt L hL
  obtain ⟨u1,u2,u3⟩:=cb L
  exact ⟨(S.v_pt ht h1 (QV hL u1)).2,(S.v_pt ht h2 (QV hL u2)).2,(S.v_pt ht h3 (QV hL u3)).2⟩
theorem II.v_cpos (S:II ps ts ps' ts' mv fam) (ht:t∈ts) (hL:L∈fam t):0<AN (cor ps' (F0 mv t L).1) (cor ps' (F0 mv t L).2.1) (cor ps' (F0 mv t L).2.2):=by
  obtain ⟨h1,h2,h3⟩:=(S.fok t ht).lt L hL
  obtain ⟨e1,e2,e3⟩:=S.v_c3 ht hL
  rw [e1,e2,e3]
  exact Xs (S.v_pos ht) h1 h2 h3 ((S.fok t ht).pos L hL)
def BB (ps:List Pt) (c d:T3):Prop:=PM (cor ps c.1) (cor ps c.2.1) (cor ps c.2.2) (cor ps d.1) (cor ps d.2.1) (cor ps d.2.2)\/PM (cor ps d.1) (cor ps d.2.1) (cor ps d.2.2) (cor ps c.1) (cor ps c.2.1) (cor ps c.2.2)
theorem Q8 {a b c:Pt} {M:T3} (hT:0<AN a b c) (hL:L.1<6/\L.2.1<6/\L.2.2<6) (hM:M.1<6/\M.2.1<6/\M.2.2<6) (h:Sn L M=true):PM (LP a b c L.1) (LP a b c L.2.1) (LP a b c L.2.2) (LP a b c M.1) (LP a b c M.2.1) (LP a b c M.2.2):=by
  simp only [Sn,XQ,yy,yz,xV] at h
  rcases h with (⟨⟨h1,h2⟩,h3⟩|⟨⟨h1,h2⟩,h3⟩)|⟨⟨h1,h2⟩,h3⟩
  · exact .inl ⟨GO hT hL.1 hL.2.1 hM.1 h1,GO hT hL.1 hL.2.1 hM.2.1 h2,GO hT hL.1 hL.2.1 hM.2.2 h3⟩
  · exact .inr (.inl ⟨GO hT hL.2.1 hL.2.2 hM.1 h1,GO hT hL.2.1 hL.2.2 hM.2.1 h2,GO hT hL.2.1 hL.2.2 hM.2.2 h3⟩)
  · exact .inr (.inr ⟨GO hT hL.2.2 hL.1 hM.1 h1,GO hT hL.2.2 hL.1 hM.2.1 h2,GO hT hL.2.2 hL.1 hM.2.2 h3⟩)
theorem II.v_bb (S:II ps ts ps' ts' mv fam):ts'.Pairwise (BB ps'):=by
  rw [S.cut]
  refine List.pairwise_flatMap.2 ⟨λt ht=>?_,?_⟩
  · refine List.pairwise_map.2 ((S.fok t ht).sep.imp_of_mem λ{L M} hL hM h=>?_)
    obtain ⟨e1,e2,e3⟩:=S.v_c3 ht hL
    obtain ⟨f1,f2,f3⟩:=S.v_c3 ht hM
    unfold BB
    rw [e1,e2,e3,f1,f2,f3]
    rw [yy] at h
    exact h.imp (Q8 (S.v_pos ht) ((S.fok t ht).lt L hL) ((S.fok t ht).lt M hM)) (Q8 (S.v_pos ht) ((S.fok t ht).lt M hM) ((S.fok t ht).lt L hL))
  · have base:ts.Pairwise (Ln ps):=List.pairwise_iff_getElem.2 λi j hi hj hij=>by
      have h:=VA S.g hi hj Z
      rwa [List.getD,List.getD,xP hi,xP hj] at h
    refine base.imp_of_mem λ{t s} ht hs ⟨u,k,hu,⟨h1,h2,h3⟩,h4,h5,h6⟩ x hx y hy=>?_
    obtain ⟨L,hL,rfl⟩:=List.mem_map.1 hx
    obtain ⟨M,hM,rfl⟩:=List.mem_map.1 hy
    obtain ⟨l1,l2,l3⟩:=(S.fok t ht).lt L hL
    obtain ⟨m1,m2,m3⟩:=(S.fok s hs).lt M hM
    obtain ⟨e1,e2,e3⟩:=S.v_c3 ht hL
    obtain ⟨f1,f2,f3⟩:=S.v_c3 hs hM
    have a:=S.v_cpos ht hL
    have b:=S.v_cpos hs hM
    refine eN a b hu (k:=k) ?_
    rw [e1,e2,e3,f1,f2,f3]
    exact ⟨⟨NL l1 h1 h2 h3,NL l2 h1 h2 h3,NL l3 h1 h2 h3⟩,NM m1 h4 h5 h6,NM m2 h4 h5 h6,NM m3 h4 h5 h6⟩
theorem II.v_up (S:II ps ts ps' ts' mv fam) (ht:t∈ts) (hL:L∈fam t) {q:Pt} (h:KZ ps' (F0 mv t L) q):KZ ps t q:=by
  obtain ⟨l1,l2,l3⟩:=(S.fok t ht).lt L hL
  obtain ⟨e1,e2,e3⟩:=S.v_c3 ht hL
  have hc:=S.v_cpos ht hL
  obtain ⟨h1,h2,h3⟩:=h
  have hT:=S.v_pos ht
  have sd:∀i j:Nat,i<6->j<6->(∀l,l<6->0<=D3 i j l)->0<=AN (KV ps t i) (KV ps t j) q:=λi j hi hj hd =>
    YY hc h1 h2 h3 (by rw [e1];exact HS hT hi hj l1 (hd _ l1)) (by rw [e2];exact HS hT hi hj l2 (hd _ l2)) (by rw [e3];exact HS hT hi hj l3 (hd _ l3))
  have d1:=sd 1 2 jY jY jY
  have d2:=sd 2 0 jY jY jY
  have d3:=sd 0 1 jY jY jY
  have c1:AN q (cor ps t.2.1) (cor ps t.2.2)=AN (cor ps t.2.1) (cor ps t.2.2) q:=by simp only [Ck];grind
  have c2:AN (cor ps t.1) q (cor ps t.2.2)=AN (cor ps t.2.2) (cor ps t.1) q:=by simp only [Ck];grind
  exact ⟨by show 0<=AN q (cor ps t.2.1) (cor ps t.2.2);rw [c1];exact d1,by show 0<=AN (cor ps t.1) q (cor ps t.2.2);rw [c2];exact d2,d3⟩
theorem II.v_lab (S:II ps ts ps' ts' mv fam) (ht:t∈ts) (hL:L∈fam t) (hl:l<6) (hu:Gn (fam t) l=true) (h:KZ ps' (F0 mv t L) (KV ps t l)):CO L l=true:=by
  obtain ⟨l1,l2,l3⟩:=(S.fok t ht).lt L hL
  obtain ⟨e1,e2,e3⟩:=S.v_c3 ht hL
  obtain ⟨h1,h2,h3⟩:=h
  have h1:0<=AN (KV ps t l) (cor ps' (F0 mv t L).2.1) (cor ps' (F0 mv t L).2.2):=h1
  have h2:0<=AN (cor ps' (F0 mv t L).1) (KV ps t l) (cor ps' (F0 mv t L).2.2):=h2
  have h3:0<=AN (cor ps' (F0 mv t L).1) (cor ps' (F0 mv t L).2.1) (KV ps t l):=h3
  rw [e2,e3] at h1
  rw [e1,e3] at h2
  rw [e1,e2] at h3
  have hT:=S.v_pos ht
  refine (S.fok t ht).cls L hL l hl hu ?_
  simp only [XC,yz,xV]
  exact ⟨⟨P0 hT hl l2 l3 h1,P0 hT l1 hl l3 h2⟩,P0 hT l1 l2 hl h3⟩
theorem Na (h:CO t p=true):∃l,l<3/\p=GN mv t l:=by
  simp only [CO,yy,beq_iff_eq] at h
  rcases h with (h|h)|h
  · exact ⟨0,by decide,h.symm⟩
  · exact ⟨1,by decide,h.symm⟩
  · exact ⟨2,by decide,h.symm⟩
theorem Uz (hk:3<=k) (hk6:k<6):∃r,r<3/\Xp s k=CP (crn s r) (crn s ((r+1)%3))/\KV ps s k=Dk (cor ps (crn s r)+cor ps (crn s ((r+1)%3))) (1/2):=by
  have e:k=3\/k=4\/k=5:=by omega
  rcases e with rfl|rfl|rfl
  · exact ⟨0,by decide,rfl,rfl⟩
  · exact ⟨1,by decide,rfl,rfl⟩
  · exact ⟨2,by decide,rfl,rfl⟩
theorem UP {x y:Nat} (hx:CO t x=true) (hy:CO t y=true) (hne:x≠y):∃l,3<=l/\l<6/\Xp t l=CP x y:=by
  simp only [CO,yy,beq_iff_eq] at hx hy
  have sy:∀a b,CP a b=CP b a:=λa b=>by unfold CP;rw [Nat.min_comm,Nat.max_comm]
  rcases hx with (hx|hx)|hx<;>rcases hy with (hy|hy)|hy<;>subst hx<;>subst hy
  · exact absurd O hne
  · exact ⟨3,by decide,by decide,rfl⟩
  · exact ⟨5,by decide,by decide,sy _ _⟩
  · exact ⟨3,by decide,by decide,sy _ _⟩
  · exact absurd O hne
  · exact ⟨4,by decide,by decide,rfl⟩
  · exact ⟨5,by decide,by decide,rfl⟩
  · exact ⟨4,by decide,by decide,sy _ _⟩
  · exact absurd O hne
theorem II.v_mid (S:II ps ts ps' ts' mv fam) (ht:t∈ts) (hs:s∈ts) (hk:3<=k) (hk6:k<6) (hu:Gn (fam s) k=true) (h:KZ ps t (KV ps s k)):∃l,3<=l/\l<6/\Gn (fam t) l=true/\GN mv t l=GN mv s k:=by
  obtain ⟨r,hr,e1,e2⟩:=Uz (ps:=ps) (s:=s) hk hk6
  obtain ⟨i,hi,rfl⟩:=HY hs
  obtain ⟨j,hj,rfl⟩:=HY ht
  rw [e2] at h
  obtain ⟨a,b⟩:=U_ S.g hi hj hr h
  have hne:crn (ts.getD i (0,0,0)) r≠crn (ts.getD i (0,0,0)) ((r+1)%3):=by
    have hT:=S.tri hs
    have er:r=0\/r=1\/r=2:=by omega
    rcases er with rfl|rfl|rfl
    · exact hT.ab
    · exact hT.bc
    · exact hT.ca
  obtain ⟨l,hl,hl6,e⟩:=UP a b hne
  exact ⟨l,hl,hl6,S.cls _ ht _ hs l k hl hl6 hk hk6 hu (by rw [e,e1])⟩
theorem TT (hT:0<AN (cor ps t.1) (cor ps t.2.1) (cor ps t.2.2)) (hl:l<6):KZ ps t (KV ps t l):=by
  have e:l=0\/l=1\/l=2\/l=3\/l=4\/l=5:=by omega
  have k1:0<=D3 l 1 2:=by rcases e with rfl|rfl|rfl|rfl|rfl|rfl<;>decide
  have k2:0<=D3 0 l 2:=by rcases e with rfl|rfl|rfl|rfl|rfl|rfl<;>decide
  have k3:0<=D3 0 1 l:=by rcases e with rfl|rfl|rfl|rfl|rfl|rfl<;>decide
  have d1:0<=AN (KV ps t l) (KV ps t 1) (KV ps t 2):=HS hT hl jY jY k1
  have d2:0<=AN (KV ps t 0) (KV ps t l) (KV ps t 2):=HS hT jY hl jY k2
  have d3:0<=AN (KV ps t 0) (KV ps t 1) (KV ps t l):=HS hT jY jY hl k3
  exact ⟨d1,d2,d3⟩
theorem II.v_crn (S:II ps ts ps' ts' mv fam) (hc:c∈ts') (hp:p<ps'.length) (h:KZ ps' c (cor ps' p)):CO c p=true:=by
  obtain ⟨t,ht,L,hL,rfl⟩:=S.v_child hc
  rcases Nat.lt_or_ge p ps.length with hlt|hge
  · have h1:=S.v_up ht hL h
    rw [S.old p hlt] at h1
    obtain ⟨j,hj,rfl⟩:=HY ht
    obtain ⟨l,hl,e⟩:=Na (mv:=mv) (Je S.g hlt hj h1)
    have hu:=(S.fok _ ht).cor l hl
    rw [e,(S.v_pt ht (show l<6 by omega) hu).2] at h
    rw [e]
    exact NZ (S.v_lab ht hL Z hu h)
  · obtain ⟨s,hs,k,hk,hk6,hu,e⟩:=S.new p hge hp
    have e2:=(S.mid s hs k hk hk6 hu).2.2
    rw [e,e2] at h
    obtain ⟨l,hl,hl6,hul,el⟩:=S.v_mid ht hs hk hk6 hu (S.v_up ht hL h)
    have e3:=(S.mid t ht l hl hl6 hul).2.2
    rw [<-e2,<-el,e3] at h
    rw [e,<-el]
    exact NZ (S.v_lab ht hL hl6 hul h)
theorem II.v_dst (S:II ps ts ps' ts' mv fam) {p q:Nat} (hp:p<ps'.length) (hq:q<ps'.length) (h:cor ps' p=cor ps' q):p=q:=by
  have one:∀p q,p<ps.length->ps.length<=q->q<ps'.length->cor ps' p≠cor ps' q:=λp q hp hq hq' h=>by
    obtain ⟨s,hs,k,hk,hk6,hu,e⟩:=S.new q hq hq'
    have e2:=(S.mid s hs k hk hk6 hu).2.2
    rw [e,e2,S.old p hp] at h
    have h1:=TT (S.v_pos hs) hk6
    rw [<-h] at h1
    obtain ⟨j,hj,rfl⟩:=HY hs
    obtain ⟨l,hl,e4⟩:=Na (mv:=mv) (Je S.g hp hj h1)
    have e5:=(S.v_pt hs (show l<6 by omega) ((S.fok _ hs).cor l hl)).2
    rw [<-e4,S.old p hp] at e5
    have:=Q9 (S.v_pos hs) (show l<6 by omega) hk6 (e5.symm.trans h)
    omega
  rcases Nat.lt_or_ge p ps.length with hpl|hpg<;>rcases Nat.lt_or_ge q ps.length with hql|hqg
  · rw [S.old p hpl,S.old q hql] at h
    exact U9 S.g hpl hql h
  · exact absurd h (one p q hpl hqg hq)
  · exact absurd h.symm (one q p hql hpg hp)
  · obtain ⟨s,hs,k,hk,hk6,hu,e⟩:=S.new p hpg hp
    obtain ⟨t,ht,l,hl,hl6,hul,e'⟩:=S.new q hqg hq
    have e2:=(S.mid s hs k hk hk6 hu).2.2
    have e3:=(S.mid t ht l hl hl6 hul).2.2
    rw [e,e2,e',e3] at h
    have h1:=TT (S.v_pos ht) hl6
    rw [<-h] at h1
    obtain ⟨l0,h0,h06,hu0,e0⟩:=S.v_mid ht hs hk hk6 hu h1
    have e4:=(S.mid t ht l0 h0 h06 hu0).2.2
    rw [e0,e2,h] at e4
    have:=Q9 (S.v_pos ht) hl6 h06 e4
    rw [e,e',<-e0,this]
theorem II.v_use (S:II ps ts ps' ts' mv fam) (hp:p<ps'.length):∃c∈ts',CO c p=true:=by
  have fin:∀t∈ts,∀l,Gn (fam t) l=true->∃c∈ts',CO c (GN mv t l)=true:=λt ht l hu=>by
    obtain ⟨L,hL,h⟩:=List.any_eq_true.1 hu
    exact ⟨F0 mv t L,by rw [S.cut];exact List.mem_flatMap.2 ⟨t,ht,List.mem_map_of_mem hL⟩,NZ h⟩
  rcases Nat.lt_or_ge p ps.length with hlt|hge
  · obtain ⟨j,hj,h⟩:=JA S.g hlt
    obtain ⟨l,hl,e⟩:=Na (mv:=mv) h
    rw [e]
    exact fin _ (IV hj) l ((S.fok _ (IV hj)).cor l hl)
  · obtain ⟨s,hs,k,hk,hk6,hu,e⟩:=S.new p hge hp
    rw [e]
    exact fin s hs k hu
theorem II.chk {ss':List T3} (S:II ps ts ps' ts' mv fam) (hpl:ps'.length<=4096) (htl:ts'.length<=8192) (hsl:ss'.length<=24576) (h0:0<ts'.length) (hz:∀k,Bc (cor ps' k)<=1000) (hn:Be ps'.length ts'=true)
    (hs:∀s∈ss',s.1<ps'.length/\s.2.1<ps'.length/\s.2.2<=255) (hr:ss'.map (λs=>(s.1,s.2.1))=(FS ts').map λs=>(s.1,s.2.1)):It ps' ts' ss' where
  pl:=hpl
  tl:=htl
  t0:=h0
  sl:=hsl
  sz:=hz
  num:=hn
  pos j hj:=by
    obtain ⟨t,ht,L,hL,e⟩:=S.v_child (IV hj)
    rw [e]
    exact EI (S.v_cpos ht hL)
  sid j hj:=hs _ (IV hj)
  use p hp:=by
    obtain ⟨c,hc,h⟩:=S.v_use hp
    obtain ⟨j,hj,e⟩:=HY hc
    exact ⟨j,hj,by rw [e];exact h⟩
  dst:=List.pairwise_iff_getElem.2 λi j hi hj hij e=>by
    have:=S.v_dst hi hj (by unfold cor;rw [List.getD,List.getD,xP hi,xP hj];exact e)
    omega
  apart i k hi hk:=by
    have h:=List.pairwise_iff_getElem.1 S.v_bb k i Z hi hk
    rw [<-show ts'.getD k (0,0,0)=ts'[k] by rw [List.getD,xP Z];rfl,<-show ts'.getD i (0,0,0)=ts'[i] by rw [List.getD,xP hi];rfl] at h
    rcases h with h|h
    · rw [Yy (A:=Bn ps' (ts'.getD k (0,0,0))) (B:=Bn ps' (ts'.getD i (0,0,0))) h];simp
    · rw [Yy (A:=Bn ps' (ts'.getD i (0,0,0))) (B:=Bn ps' (ts'.getD k (0,0,0))) h];simp
  crn i p hi hp hn:=by
    have hm:=IV hi
    obtain ⟨t,ht,L,hL,e⟩:=S.v_child hm
    refine (S7 (by rw [e];exact S.v_cpos ht hL)).2 λh=>?_
    rw [S.v_crn hm hp h] at hn
    cases hn
  rl:=by have h:=congrArg List.length hr;simpa using h
  rim j hj:=by
    have hl:=congrArg List.length hr
    simp only [xK] at hl
    have h:=congrArg (λl:List (Nat×Nat)=>l[j]?) hr
    simp only [List.getElem?_map,xP hj,xP (show j<(FS ts').length by omega),Option.map_some,Option.some.injEq,Prod.mk.injEq] at h
    rw [List.getD,List.getD,xP hj,xP (show j<(FS ts').length by omega)]
    exact h
end
end
section
section
variable {ps:List Pt} {ts ss:List T3} {c:T3}
theorem GW {W w:World} {L:List As} (hw:BD ⟨W,none⟩ w L) (i:Nat) {p:Option Addr} {T:TypeId} {z n c c':Nat} {cs:List Value} (hi:L[i]?=some (rowW p T z n c cs)) (ho:OwnOk p n c) (hl:cs.length=n*z) (ok:Ay p n c'):Ro (λ_=>True) w (⟨p,c',ok⟩:RX cs n):=λy hy=>by
  rcases xO.1 hy with rfl
  exact ⟨(GS (S:=λ_=>True) hw i hi ho hl).1,λ_ _=>trivial⟩
theorem bJ {w:World} {x:MX ps ts ss} (h1:Ro (λ_=>True) w x.a) (h2:Ro (λ_=>True) w x.b) (h3:Ro (λ_=>True) w x.c):Ro (λ_=>True) w x:=λy hy=>by
  have hy:y∈[x.a.row,x.b.row,x.c.row]:=hy
  simp only [xN,List.not_mem_nil,or_false] at hy
  rcases hy with rfl|rfl|rfl
  · exact h1 _ (xO.2 O)
  · exact h2 _ (xO.2 O)
  · exact h3 _ (xO.2 O)
def QP (b:Nat):T3:=if b=0 then (0,1,2) else if b=1 then (1,2,0) else (2,0,1)
theorem YR (b:Nat):TN [QP b]:=by
  unfold QP
  split
  · exact Od jY jY
  · split<;>exact Od jY jY
theorem Oy (b:Nat) {l:Nat} (h3:3<=l):Gn [QP b] l=false:=by
  unfold QP
  have e:∀x,x<3->¬x=l:=λx hx=>by omega
  split
  · simp [Gn,CO];omega
  · split<;>(simp [Gn,CO];omega)
theorem Vp (mv:Nat->Nat->Nat) (t:T3) {b:Nat} (hb:b<3):F0 mv t (QP b)=MH t b:=by
  have e:b=0\/b=1\/b=2:=by omega
  rcases e with rfl|rfl|rfl<;>rfl
theorem Mo {α β:Type} (f:α->β):∀l:List α,l.map f=l.flatMap λt=>[f t]
  | []=>rfl
  | x::r=>by rw [List.map_cons,List.flatMap_cons,List.singleton_append,Mo f r]
theorem YT (g:E_ ps ts) {h:T3->Nat} (hh:∀t,h t<3):II ps ts ps (ts.map λt=>MH t (h t)) (λ_ _=>0) (λt=>[QP (h t)]):=by
  refine ⟨g,?_,λt _=>YR _,Nat.le_refl _,λ_ _=>rfl,λt _ l hl _ hu=>?_,λp h1 h2=>by omega,λt _ s _ l k _ _ hk _ hu=>?_⟩
  · have e:(λt=>[QP (h t)].map (F0 (λ_ _=>0) t))=λt=>[MH t (h t)]:=funext λt=>by rw [List.map_cons,List.map_nil,Vp _ _ (hh t)]
    rw [e]
    exact Mo _ _
  · rw [Oy _ hl] at hu;cases hu
  · rw [Oy _ hk] at hu;cases hu
theorem Vq (h:T3->Nat) (hh:∀t,h t<3):(IJ ts).Perm (IJ (ts.map λt=>MH t (h t))):=by
  unfold IJ
  refine flatMap_perm2 (0,0,0) (by rw [xK]) λj hj=>?_
  have e:(ts.map λt=>MH t (h t)).getD j (0,0,0)=MH (ts.getD j (0,0,0)) (h (ts.getD j (0,0,0))):=by simp [List.getD,hj]
  rw [e]
  generalize ts.getD j (0,0,0)=T
  have hb:=hh T
  have eb:h T=0\/h T=1\/h T=2:=by omega
  obtain ⟨a,b,d⟩:=T
  rcases eb with eb|eb|eb<;>rw [eb]
  · exact List.Perm.refl _
  · show [CP a b,CP b d,CP d a].Perm [CP b d,CP d a,CP a b]
    exact (List.perm_append_comm (l₁:=[CP a b]) (l₂:=[CP b d,CP d a]))
  · show [CP a b,CP b d,CP d a].Perm [CP d a,CP a b,CP b d]
    exact (List.perm_append_comm (l₁:=[CP a b,CP b d]) (l₂:=[CP d a]))
theorem YS (g:E_ ps ts) (hn:Be ps.length ts=true) (sd:∃mm,ss=FO mm ts ps.length ps.length) (hsl:ss.length<=24576) {h:T3->Nat} (hh:∀t,h t<3) (hn':Be ps.length (ts.map λt=>MH t (h t))=true):It ps (ts.map λt=>MH t (h t)) ss:=by
  have hp:=g.pl
  have ht:=g.tl
  have h0:=List.length_pos_iff.2 g.ne
  obtain ⟨mm,hmm⟩:=sd
  refine (YT g hh).chk Z (by rw [xK];omega) hsl (by rw [xK];omega) (λk=>xM (g.sz k) jY) hn' (λs hs=>?_) ?_
  · rw [hmm] at hs
    obtain ⟨h1,h2,h3,_,h5⟩:=(GZ _).1 hs
    refine ⟨h1,h3,?_⟩
    rw [h5]
    show (s.1+3*s.2.1+mm.fst)%5<=255
    omega
  · rw [hmm,Sr hn Z,<-Vm hn hn' Z (Vq h hh),List.map_map]
    rfl
end
end
section
section
variable {ps:List Pt} {ts us ss:List T3} {N:Nat}
theorem Ui (g:E_ ps ts) (hn:Be ps.length ts=true) (sd:∃mm,ss=FO mm ts ps.length ps.length) (hsl:ss.length<=24576):It ps ts ss:=by
  have e:(ts.map λt=>MH t ((λ_=>0) t))=ts:=by
    have e2:(λt:T3=>MH t ((λ_=>0) t))=id:=funext λt=>rfl
    rw [e2,List.map_id]
  have h:=YS (h:=λ_=>0) g hn sd hsl (λ_=>by decide) (by rw [e];exact hn)
  rwa [e] at h
end
end
section
section
variable {ts:List T3} {a b t:Nat}
end
section
variable {ts:List T3} {a b N t:Nat}
end
section
variable {ts:List T3} {a b N t i:Nat}
end
section
variable {ts:List T3} {p n:Nat}
end
end
section
abbrev EZ:=Int×Int×Int×Int
abbrev KI:=List (P2×Int)
def d8 (a b:Int):P2:=CP a.toNat b.toNat
def Z7 (N:Nat) (ss:List Z3):Nat->KI
  | 0=>[]
  | k+1=>if B5 N (ss.getD (ss.length-1-k) (0,0,0)).1=true/\B5 N (ss.getD (ss.length-1-k) (0,0,0)).2.1=true then Bl (Z7 N ss k) (d8 (ss.getD (ss.length-1-k) (0,0,0)).1 (ss.getD (ss.length-1-k) (0,0,0)).2.1) (ss.getD (ss.length-1-k) (0,0,0)).2.2 else Z7 N ss k
def Zj (m:KI) (a b:Nat):Int:=(BW m (CP a b)).getD 0
def cU (N:Nat) (st:KI×Nat) (v:P2):KI×Nat:=(Bl (Bl st.1 (CP v.1 (N+st.2)) (Zj st.1 v.1 v.2)) (CP v.2 (N+st.2)) (Zj st.1 v.1 v.2),st.2+1)
def cV (N:Nat) (ss:List Z3) (vs:List P2):KI:=(vs.foldl (cU N) (Z7 N ss ss.length,0)).1
def cu (N:Nat) (e:EZ):Bool:=B5 N e.1&&B5 N e.2.1
def cm (e:EZ):P2:=(e.1.toNat,e.2.1.toNat)
def eP (N:Nat) (es:List EZ) (i:Nat):List P2:=((es.take i).filter (cu N)).map cm
def ax (ps:List Pt) (v:P2):Pt:=Dk (ps.getD v.1 ⟨0,0⟩+ps.getD v.2 ⟨0,0⟩) (1/2)
def eG (ps:List Pt) (vs:List P2):List Pt:=vs.foldl (λl v=>l++[ax ps v]) ps
def Eg (s:Tq3):Z3:=((s.1:Int),(s.2.1:Int),(s.2.2:Int))
def cx (n:Nat) (us:List Z3):List T3:=if JF n us=true then FS (us.map cq) else []
section
variable {N:Nat} {ss:List Z3} {vs:List P2} {v:P2} {es:List EZ} {i j k a b:Nat} {m:KI} {rs:List T3} {ps:List Pt}
theorem F5 (rs:List T3):rowsL Ac rs=rowsL BP (rs.map Eg):=by unfold rowsL;rw [List.flatMap_map];rfl
end
def cY (N:Nat) (ss:List Z3) (vs:List P2) (us:List Z3):List Z3:=(cx (N+vs.length) us).map λs=>((s.1:Int),(s.2.1:Int),Zj (cV N ss vs) s.1 s.2.1)
structure cM (N M:Nat) (ss:List Z3) where
  cs:List Value
  es:List Value
  a:RX cs N
  b:RX es M
  c:RX (rowsL BP ss) ss.length
def eK {N M:Nat} {ss:List Z3} (x:cM N M ss):List Value:=[x.a.val,x.b.val,x.c.val]
theorem bN {N M:Nat} {ss:List Z3} {x:cM N M ss} {y:As} (hy:y∈[x.a.row,x.b.row,x.c.row]):y.ro=true:=by
  simp only [xN,List.not_mem_nil,or_false] at hy
  rcases hy with rfl|rfl|rfl<;>rfl
instance {N M:Nat} {ss:List Z3}:C4 (cM N M ss):=⟨λx=>aG (eK x),λx=>[x.a.row,x.b.row,x.c.row],λx y hy=>bN hy⟩
section
variable {S:Nat->Prop} {w:World} {N M:Nat} {zs ss:List Z3} {ps:List Pt} {a b:Int} {i:Nat}
end
section
variable {f:Nat->Nat->Int} {rs:List T3} {i:Nat}
end
section
variable {rs qs:List RP} {q:RP} {N i k:Nat} {es:List EZ}
end
section
variable {N i:Nat} {es:List EZ}
end
end
section
section
variable {N:Nat} {ts:List T3} {zs ss:List Z3} {ps:List Pt}
theorem X_ (t:T3):Wn N (Eg t)=LT N t:=by
  obtain ⟨a,b,c⟩:=t
  unfold Wn LT Eg B5
  rw [Bool.eq_iff_iff]
  simp only [yz,xX,xV,xU]
  omega
theorem Sa:JF N (ts.map Eg)=Be N ts:=by
  unfold JF Be
  rw [List.all_map]
  congr 1
  funext t
  exact X_ t
end
structure MN (ps:List Pt) (ts:List T3) (ss:List Z3) where
  a:RX (rowsL AZ ps) ps.length
  b:RX (rowsL Ac ts) ts.length
  c:RX (rowsL BP ss) ss.length
def CR {ps:List Pt} {ts:List T3} {ss:List Z3} (x:MN ps ts ss):List Value:=[x.a.val,x.b.val,x.c.val]
theorem VD {ps:List Pt} {ts:List T3} {ss:List Z3} {x:MN ps ts ss} {y:As} (hy:y∈[x.a.row,x.b.row,x.c.row]):y.ro=true:=by
  simp only [xN,List.not_mem_nil,or_false] at hy
  rcases hy with rfl|rfl|rfl<;>rfl
instance {ps:List Pt} {ts:List T3} {ss:List Z3}:C4 (MN ps ts ss):=⟨λx=>aG (CR x),λx=>[x.a.row,x.b.row,x.c.row],λx y hy=>VD hy⟩
section
variable {N:Nat} {ts:List T3} {zs ss:List Z3} {ps:List Pt}
theorem Y2 (x:MN ps ts ss):∃y:RM ps.length ts (List.replicate ss.length (0,0,0)),Wo y=CR x/\∀{S:Nat->Prop} {w:World},Ro S w x->Ro S w y:=by
  obtain ⟨a,b,⟨cp,cc,cok⟩⟩:=x
  have hk:ss.length=(List.replicate ss.length jJ).length:=(List.length_replicate).symm
  refine ⟨⟨rowsL AZ ps,rowsL BP ss,a,b,⟨cp,cc,hk▸cok⟩⟩,?_,λ{S w} hx y hy=>hx y hy⟩
  show [a.val,b.val,.slice cp (List.replicate ss.length jJ).length cc]=[a.val,b.val,.slice cp ss.length cc]
  rw [<-hk]
theorem RD (x:MN ps ts ss):∃y:MZ ps (ts.map Eg) ss,On y=CR x/\∀{S:Nat->Prop} {w:World},Ro S w x->Ro S w y:=by
  obtain ⟨a,⟨bp,bc,bok⟩,c⟩:=x
  have hk:ts.length=(ts.map Eg).length:=(xK _).symm
  refine ⟨⟨a,⟨bp,bc,hk▸bok⟩,c⟩,?_,λ{S w} hx y hy=>?_⟩
  · show [a.val,.slice bp (ts.map Eg).length bc,c.val]=[a.val,.slice bp ts.length bc,c.val]
    rw [<-hk]
  · have hy:y∈[a.row,AF bp (rowsL BP (ts.map Eg)),c.row]:=hy
    rw [<-F5] at hy
    exact hx y hy
end
structure cL (ps:List Pt) (ts:List T3) (ss:List Z3) where
  rs:List RP
  e:rs.map (·.p)=ps
  a:RX (rowsL aS rs) rs.length
  b:RX (rowsL Ac ts) ts.length
  c:RX (rowsL BP ss) ss.length
def eI {ps:List Pt} {ts:List T3} {ss:List Z3} (x:cL ps ts ss):List Value:=[x.a.val,x.b.val,x.c.val]
theorem bF {ps:List Pt} {ts:List T3} {ss:List Z3} {x:cL ps ts ss} {y:As} (hy:y∈[x.a.row,x.b.row,x.c.row]++aT x.rs):y.ro=true:=by
  rcases List.mem_append.1 hy with hy|hy
  · simp only [xN,List.not_mem_nil,or_false] at hy
    rcases hy with rfl|rfl|rfl<;>rfl
  · exact Vu hy
instance {ps:List Pt} {ts:List T3} {ss:List Z3}:C4 (cL ps ts ss):=⟨λx=>aG (eI x),λx=>[x.a.row,x.b.row,x.c.row]++aT x.rs,λx y hy=>bF hy⟩
section
variable {N:Nat} {ts:List T3} {zs ss:List Z3} {ps:List Pt}
end
def dW (e:E4):EZ:=((e.a:Int),(e.b:Int),e.l,e.r)
structure dL (ps:List Pt) (ts ss:List Z3) where
  m:MZ ps ts ss
  ha:m.a.c=ps.length
  hb:m.b.c=ts.length
instance {ps:List Pt} {ts ss:List Z3}:C4 (dL ps ts ss):=⟨λx=>aG (On x.m),λx=>[x.m.a.row,x.m.b.row,x.m.c.row],λx y hy=>VK hy⟩
structure dM (ps:List Pt) (ts ss:List Z3) (l:List Nat) (e:Nat) where
  x:dL ps ts ss
  q:CX (ap l) l.length
instance {ps:List Pt} {ts ss:List Z3} {l:List Nat} {e:Nat}:C4 (dM ps ts ss l e):=⟨λr=>.tuple #[aG (On r.x.m),.slice r.q.p l.length l.length,vN e],λr=>[r.x.m.a.row,r.x.m.b.row,r.x.m.c.row,AF r.q.p (ap l)],λr y hy=>by
  rcases List.mem_append.1 (show y∈[r.x.m.a.row,r.x.m.b.row,r.x.m.c.row]++[AF r.q.p (ap l)] from hy) with hy|hy
  · exact VK hy
  · rcases xO.1 hy with rfl;rfl⟩
structure du (ps:List Pt) (ts ss:List Z3) (l:List Nat) (e:Nat) where
  x:b_ ps ts ss
  q:RX (ap l) l.length
instance {ps:List Pt} {ts ss:List Z3} {l:List Nat} {e:Nat}:C4 (du ps ts ss l e):=⟨λr=>.tuple #[aG (dY r.x),r.q.val,vN e],λr=>r.q.row::([r.x.a.row,r.x.b.row,r.x.c.row]++aT r.x.rs),λr y hy=>by
  rcases xN.1 hy with rfl|hy
  · rfl
  · exact Y9 hy⟩
section
variable {N M i j a b:Nat} {ts:List T3}
end
end
section
section
variable {n j:Nat} {ms:List Int}
end
section
variable {es:List E4} {x y j i N a b:Nat} {ts:List T3} {ms:List Int} {bs:List Bool}
end
def dP (N:Nat) (l:List E4):List P2:=eP N (l.map dW) (l.map dW).length
def dO (N:Nat) (l:List E4) (ts:List T3):List Z3:=(cf (SQ N l l.length) ts).map Eg
structure di (ps:List Pt) (ts:List T3) (ss:List Z3) (ms:List Int) where
  l:List E4
  cut:cH ts ms l
  x:dM (eG ps (dP ps.length l)) (dO ps.length l ts) (cY ps.length ss (dP ps.length l) (dO ps.length l ts)) (cd (SQ ps.length l l.length) ts ts.length) 0
instance {ps:List Pt} {ts:List T3} {ss:List Z3} {ms:List Int}:C4 (di ps ts ss ms):=⟨λb=>C4.val b.x,λb=>C4.rows b.x,λb y hy=>C4.ro b.x y hy⟩
end
section
structure Yv (ps:List Pt) (ts:List T3) (ss:List Z3) where
  a:OX 99 10 (rowsL AZ ps) ps.length
  b:OX 105 3 (rowsL Ac ts) ts.length
  c:OX 110 3 (rowsL BP ss) ss.length
def aO {ps:List Pt} {ts:List T3} {ss:List Z3} (x:Yv ps ts ss):List Value:=[QK x.a,QK x.b,QK x.c]
@[reducible] def aP {ps:List Pt} {ts:List T3} {ss:List Z3} (x:Yv ps ts ss):List As:=[rowW x.c.p 110 3 ss.length x.c.c (rowsL BP ss),rowW x.b.p 105 3 ts.length x.b.c (rowsL Ac ts),rowW x.a.p 99 10 ps.length x.a.c (rowsL AZ ps)]
theorem D6.toCpN {S:Nat->Prop} {W w:World} {e:Ending} {ps:List Pt} {ts:List T3} {ss:List Z3} (h:D6 (λa:aV ps (ts.map Eg) ss=>aG (dS a)) dT S W e w):D6 (λa:Yv ps ts ss=>aG (aO a)) aP S W e w:=by
  obtain ⟨⟨aa,⟨bp,bc,bok⟩,ac⟩,h1,h2,h3⟩:=h
  have e1:(ts.map Eg).length=ts.length:=xK _
  refine ⟨⟨aa,⟨bp,bc,e1▸bok⟩,ac⟩,?_,h2,?_⟩
  · rw [h1]
    show Ending.returned (aG [QK aa,.slice bp (ts.map Eg).length (ts.map Eg).length,QK ac])=.returned (aG [QK aa,.slice bp ts.length ts.length,QK ac])
    rw [e1]
  · have h3:Wx S W w [rowW ac.p 110 3 ss.length ac.c (rowsL BP ss),rowW bp 105 3 (ts.map Eg).length bc (rowsL BP (ts.map Eg)),rowW aa.p 99 10 ps.length aa.c (rowsL AZ ps)]:=h3
    rw [<-F5,e1] at h3
    exact h3
structure dm (rs:List RP) (zt ss:List Z3) where
  a:OX 121 6 (rowsL aS rs) rs.length
  b:OX 105 3 (rowsL BP zt) zt.length
  c:OX 119 3 (rowsL BP ss) ss.length
@[reducible] def eR {rs:List RP} {zt ss:List Z3} (x:dm rs zt ss):List As:=[rowW x.c.p 119 3 ss.length x.c.c (rowsL BP ss),rowW x.b.p 105 3 zt.length x.b.c (rowsL BP zt),rowW x.a.p 121 6 rs.length x.a.c (rowsL aS rs)]
structure dl (rs:List RP) (ts:List T3) (ss:List Z3) where
  a:OX 121 6 (rowsL aS rs) rs.length
  b:OX 105 3 (rowsL Ac ts) ts.length
  c:OX 119 3 (rowsL BP ss) ss.length
@[reducible] def eQ {rs:List RP} {ts:List T3} {ss:List Z3} (x:dl rs ts ss):List As:=[rowW x.c.p 119 3 ss.length x.c.c (rowsL BP ss),rowW x.b.p 105 3 ts.length x.b.c (rowsL Ac ts),rowW x.a.p 121 6 rs.length x.a.c (rowsL aS rs)]
section
variable {S:Nat->Prop} {w W:World} {L:List As} {ps:List Pt} {ts:List T3} {zt ss:List Z3}
theorem VC {x:MN ps ts ss} (h1:Ro S w x.a) (h2:Ro S w x.b) (h3:Ro S w x.c):Ro S w x:=λy hy=>by
  have hy:y∈[x.a.row,x.b.row,x.c.row]:=hy
  simp only [xN,List.not_mem_nil,or_false] at hy
  rcases hy with rfl|rfl|rfl
  · exact h1 _ (xO.2 O)
  · exact h2 _ (xO.2 O)
  · exact h3 _ (xO.2 O)
theorem At.mn {w0:BC} {x:MN ps ts ss} (h1:At w0 S x.a) (h2:At w0 S x.b) (h3:At w0 S x.c):At w0 S x:=λy hy b e=>by
  have hy:y∈[x.a.row,x.b.row,x.c.row]:=hy
  simp only [xN,List.not_mem_nil,or_false] at hy
  rcases hy with rfl|rfl|rfl
  · exact h1 _ List.mem_cons_self b e
  · exact h2 _ List.mem_cons_self b e
  · exact h3 _ List.mem_cons_self b e
end
section
variable {ps:List Pt} {c:T3} {ts:List T3} {f:Nat->Nat} {k:Nat}
end
end
section
def inG:List E4->Int->Int->Nat->Int
  | [],_,_,_ => -1
  | e::r,x,y,i=>if (e.a:Int)=x/\(e.b:Int)=y then (i:Int) else inG r x y (i+1)
section
variable {es:List E4} {x y:Int} {j i N a b c:Nat} {ts:List T3}
theorem Up (hj:j<es.length) (h:¬(((es.getD j E0).a:Int)=x/\((es.getD j E0).b:Int)=y)):inG (es.drop j) x y j=inG (es.drop (j+1)) x y (j+1):=by
  rw [FW (d:=E0) hj];exact if_neg h
theorem Xm (hj:j<es.length) (h:((es.getD j E0).a:Int)=x/\((es.getD j E0).b:Int)=y):inG (es.drop j) x y j=(j:Int):=by
  rw [FW (d:=E0) hj];exact if_pos h
theorem Xl (hj:¬j<es.length):inG (es.drop j) x y j = -1:=by
  rw [List.drop_eq_nil_of_le Z];rfl
theorem K8:∀(es:List E4) (i:Nat),(inG es x y i = -1/\∀e∈es,¬((e.a:Int)=x/\(e.b:Int)=y))\/∃j,j<es.length/\inG es x y i=((i+j:Nat):Int)/\((es.getD j E0).a:Int)=x/\((es.getD j E0).b:Int)=y
  | [],i=>.inl ⟨rfl,λe h=>by cases h⟩
  | e::r,i=>by
    by_cases h:(e.a:Int)=x/\(e.b:Int)=y
    · exact .inr ⟨0,Nat.succ_pos _,if_pos h,h.1,h.2⟩
    · have e1:inG (e::r) x y i=inG r x y (i+1):=if_neg h
      rcases K8 r (i+1) with ⟨h1,h2⟩|⟨j,h1,h2,h3,h4⟩
      · exact .inl ⟨by rw [e1,h1],λd hd=>by rcases xN.1 hd with rfl|hd;exact h;exact h2 d hd⟩
      · exact .inr ⟨j+1,Nat.succ_lt_succ h1,by rw [e1,h2];congr 1;omega,h3,h4⟩
def Gp (ts:List T3) (x y:Int):Int:=inG (BR ts) (min x y) (max x y) 0
theorem MW (ts:List T3) (x y:Int):Gp ts x y = -1\/∃j,j<(BR ts).length/\Gp ts x y=(j:Int):=by
  rcases K8 (x:=min x y) (y:=max x y) (BR ts) 0 with ⟨h,_⟩|⟨j,h1,h2,_⟩
  · exact .inl h
  · exact .inr ⟨j,h1,by unfold Gp;rw [h2,Nat.zero_add]⟩
def IR (t:T3) (a b:Nat):Nat:=t.1+t.2.1+t.2.2-a-b
structure Yw (N:Nat) (t:T3) (a b c:Nat):Prop where
  w:(t.1=a/\t.2.1=b/\t.2.2=c)\/(t.2.1=a/\t.2.2=b/\t.1=c)\/(t.2.2=a/\t.1=b/\t.2.1=c)
  ab:a≠b
  bc:b≠c
  ca:c≠a
  a:a<N
  b:b<N
  c:c<N
theorem Yw.far {t:T3} (h:Yw N t a b c):IR t a b=c/\IR t b a=c/\a+b<=t.1+t.2.1+t.2.2:=by
  have:=h.w;unfold IR;omega
theorem V2 (hn:Be N ts=true) {z:Int} (h:KU ts (3*ts.length) a b z) (hz:0<=z):∃t,t<ts.length/\z=(t:Int)/\∃c,Yw N (ts.getD t (0,0,0)) a b c:=by
  rcases h with ⟨h1,_⟩|⟨u,h1,h2,h3,_⟩
  · omega
  · refine ⟨u/3,Z,h2,?_⟩
    have hk:=Cb hn (show u/3<ts.length by omega)
    unfold Bw at h3
    generalize ts.getD (u/3) (0,0,0)=T at h3 hk
    obtain ⟨p,q,r⟩:=T
    simp only [LT,yz,xX,xV,xU] at hk
    obtain ⟨⟨⟨⟨⟨g1,g2⟩,g3⟩,g4⟩,g5⟩,g6⟩:=hk
    have h4:u%3<3:=Nat.mod_lt _ jY
    generalize u%3=s at h3 h4
    injection h3 with e1 e2
    rcases (by omega:s=0\/s=1\/s=2) with rfl|rfl|rfl<;>simp [FV] at e1 e2<;>subst e1 e2
    · exact ⟨r,⟨.inl ⟨rfl,rfl,rfl⟩,g4,g5,g6,g1,g2,g3⟩⟩
    · exact ⟨p,⟨.inr (.inl ⟨rfl,rfl,rfl⟩),g5,g6,g4,g2,g3,g1⟩⟩
    · exact ⟨q,⟨.inr (.inr ⟨rfl,rfl,rfl⟩),g6,g4,g5,g3,g1,g2⟩⟩
end
structure PR where
  e:E4
  c:Nat
  d:Nat
def Jg (p:PR):List Value:=[vN p.e.a,vN p.e.b,.int .i64 p.e.l,.int .i64 p.e.r,vN p.c,vN p.d]
structure Rn (N:Nat) (ts:List T3) (e:E4) (p q c d:Nat):Prop where
  l:e.l=(p:Int)
  r:e.r=(q:Int)
  pl:p<ts.length
  ql:q<ts.length
  sc:Yw N (ts.getD p (0,0,0)) e.a e.b c
  sd:Yw N (ts.getD q (0,0,0)) e.b e.a d
theorem IA {N:Nat} {ts:List T3} (hn:Be N ts=true) (hN:N<=4611686018427387904) {e:E4} (he:e∈BR ts) (hl:0<=e.l) (hr:0<=e.r):∃p q c d,Rn N ts e p q c d:=by
  have h:=(IZ hn hN).1 he
  obtain ⟨p,h1,h2,c,h3⟩:=V2 hn h.l hl
  obtain ⟨q,h4,h5,d,h6⟩:=V2 hn h.r hr
  exact ⟨p,q,c,d,⟨h2,h5,h1,h4,h3,h6⟩⟩
theorem Rn.far {N:Nat} {ts:List T3} {e:E4} {p q c d:Nat} (h:Rn N ts e p q c d):c=IR (ts.getD e.l.toNat (0,0,0)) e.a e.b/\d=IR (ts.getD e.r.toNat (0,0,0)) e.a e.b:=by
  rw [h.l,h.r];exact ⟨h.sc.far.1.symm,h.sd.far.2.1.symm⟩
def Gt (a b c d:Pt):Int:=(CK (a-d) (a-d)*BI (b-d) (c-d)+CK (b-d) (b-d)*BI (c-d) (a-d)+CK (c-d) (c-d)*BI (a-d) (b-d)).num.sign*(AN a b c).num.sign
def FK (ps:List Pt) (ts:List T3) (e:E4):Bool:=if 0<=e.l/\0<=e.r then decide (Gt (cor ps e.a) (cor ps e.b) (cor ps (IR (ts.getD e.l.toNat (0,0,0)) e.a e.b)) (cor ps (IR (ts.getD e.r.toNat (0,0,0)) e.a e.b))≠1) else true
theorem IX {ps:List Pt} {ts:List T3} {e:E4} (h:¬(0<=e.l/\0<=e.r)):FK ps ts e=true:=if_neg h
theorem G1 {ps:List Pt} {ts:List T3} {e:E4} {p q c d:Nat} (h:Rn ps.length ts e p q c d):FK ps ts e=decide (Gt (cor ps e.a) (cor ps e.b) (cor ps c) (cor ps d)≠1):=by
  unfold FK
  rw [if_pos ⟨by rw [h.l];omega,by rw [h.r];omega⟩,<-h.far.1,<-h.far.2]
def Mn (ps:List Pt) (ts:List T3) (x y:Int):Bool:=if Gp ts x y<0 then false else FK ps ts ((BR ts).getD (Gp ts x y).toNat E0)
def Wl (ts:List T3) (x y:Int):Nat:=if Gp ts x y<0 then 1 else 0
theorem RB {ps:List Pt} {ts:List T3} {x y:Int} (h:Gp ts x y<0):Mn ps ts x y=false/\Wl ts x y=1:=⟨if_pos h,if_pos h⟩
theorem Xz {ps:List Pt} {ts:List T3} {x y:Int} {j:Nat} (h:Gp ts x y=(j:Int)):Mn ps ts x y=FK ps ts ((BR ts).getD j E0)/\Wl ts x y=0:=by
  unfold Mn Wl
  rw [h,if_neg Z,if_neg Z];exact ⟨rfl,rfl⟩
def GK (ps:List Pt) (a b c d:Nat):Bool:=decide ((AN (cor ps a) (cor ps d) (cor ps c)).num.sign=1)&&decide ((AN (cor ps d) (cor ps b) (cor ps c)).num.sign=1)
theorem Ua {ps:List Pt} {a b c d:Nat} (h:(AN (cor ps a) (cor ps d) (cor ps c)).num.sign≠1):GK ps a b c d=false:=by unfold GK;rw [xH h];rfl
theorem Ub {ps:List Pt} {a b c d:Nat} (h:(AN (cor ps d) (cor ps b) (cor ps c)).num.sign≠1):GK ps a b c d=false:=by unfold GK;rw [xH h,Bool.and_false]
theorem Uc {ps:List Pt} {a b c d:Nat} (h1:(AN (cor ps a) (cor ps d) (cor ps c)).num.sign=1) (h2:(AN (cor ps d) (cor ps b) (cor ps c)).num.sign=1):GK ps a b c d=true:=by unfold GK;rw [xI h1,xI h2];rfl
def I4 (ts:List T3) (a b p q c d:Nat):List T3:=(ts.set p (a,d,c)).set q (d,b,c)
def MA (ps:List Pt) (ts:List T3) (a b p q c d:Nat):List T3:=if GK ps a b c d=true then I4 ts a b p q c d else ts
theorem Ud {ps:List Pt} {ts:List T3} {a b p q c d:Nat}:(MA ps ts a b p q c d).length=ts.length:=by
  unfold MA I4;split
  · rw [List.length_set,List.length_set]
  · rfl
theorem KD {ps:List Pt} {ts:List T3} {a b p q c d:Nat} (h:GK ps a b c d=false):MA ps ts a b p q c d=ts:=if_neg (by rw [h];decide)
theorem Og {ps:List Pt} {ts:List T3} {a b p q c d:Nat} (h:GK ps a b c d=true):MA ps ts a b p q c d=I4 ts a b p q c d:=if_pos h
def Dl (ts:List T3) (x y:Int):E4:=if Gp ts x y<0 then E0 else (BR ts).getD (Gp ts x y).toNat E0
theorem Ko {ts:List T3} {x y:Int} {j:Nat} (h:Gp ts x y=(j:Int)):Dl ts x y=(BR ts).getD j E0/\decide (0<=Gp ts x y)=true:=by
  unfold Dl;rw [h,if_neg Z];exact ⟨rfl,xI Z⟩
theorem UL {ts:List T3} {x y:Int} (h:Gp ts x y = -1):Dl ts x y=E0/\decide (0<=Gp ts x y)=false:=by
  unfold Dl;rw [h,if_pos Z];exact ⟨rfl,rfl⟩
theorem HK {ts:List T3} {x y:Int} (h:0<=Gp ts x y):Dl ts x y∈BR ts:=by
  rcases MW ts x y with h1|⟨j,h1,h2⟩
  · omega
  · rw [(Ko h2).1,List.getD,xP h1];exact List.getElem_mem h1
def Ci (e:E4):Bool:=decide (0<=e.l)&&decide (0<=e.r)
theorem E2 {e:E4}:Ci e=true↔0<=e.l/\0<=e.r:=by unfold Ci;rw [yz,xV,xV]
def CF (ts:List T3) (e:E4):PR:=if 0<=e.l/\0<=e.r then ⟨e,IR (ts.getD e.l.toNat (0,0,0)) e.a e.b,IR (ts.getD e.r.toNat (0,0,0)) e.a e.b⟩ else ⟨e,0,0⟩
theorem Cz {N:Nat} {ts:List T3} {e:E4} {p q c d:Nat} (h:Rn N ts e p q c d):CF ts e=⟨e,c,d⟩/\Ci e=true:=by
  unfold CF
  rw [if_pos ⟨by rw [h.l];omega,by rw [h.r];omega⟩,<-h.far.1,<-h.far.2]
  exact ⟨rfl,E2.2 ⟨by rw [h.l];omega,by rw [h.r];omega⟩⟩
theorem Ou {ts:List T3} {e:E4} (h:¬(0<=e.l/\0<=e.r)):CF ts e=⟨e,0,0⟩/\Ci e=false:=by
  unfold CF
  rw [if_neg h]
  exact ⟨rfl,by rw [Bool.eq_false_iff];exact λh9=>h (E2.1 h9)⟩
theorem Nj {ps:List Pt} {ts:List T3} {x y:Int} (h:0<=Gp ts x y):Mn ps ts x y=FK ps ts (Dl ts x y)/\Wl ts x y=0:=by
  rcases MW ts x y with h1|⟨j,h1,h2⟩
  · omega
  · rw [(Ko h2).1];exact Xz h2
theorem Q_ (ps:List Pt) (ts:List T3) (e:E4):((!Ci e)||FK ps ts e)=FK ps ts e:=by
  cases h:Ci e with
  | true=>rfl
  | false=>rw [IX (ps:=ps) (ts:=ts) (λh9=>by rw [E2.2 h9] at h;cases h)];rfl
theorem Rn.mk4 {N:Nat} {ts:List T3} {e:E4} {p q c d:Nat} (h:Rn N ts e p q c d):e=⟨e.a,e.b,(p:Int),(q:Int)⟩:=by
  obtain ⟨a,b,l,r⟩:=e
  rw [<-h.l,<-h.r]
theorem K1 {ts:List T3} {a b p q c d:Nat}:(I4 ts a b p q c d).length=ts.length:=by unfold I4;rw [List.length_set,List.length_set]
structure TB (ps:List Pt) (ts:List T3) (ss:List Z3) (e:Nat) where
  x:MN ps ts ss
instance {ps:List Pt} {ts:List T3} {ss:List Z3} {e:Nat}:C4 (TB ps ts ss e):=⟨λr=>.tuple #[aG (CR r.x),vN e],λr=>[r.x.a.row,r.x.b.row,r.x.c.row],λr y hy=>VD hy⟩
theorem QN {S:Nat->Prop} {W w:World} {L:List As} (hw:BD ⟨W,none⟩ w L) (e:Nat) {v:Value} (hv:v=.tuple #[aG [.slice none 0 0,.slice none 0 0,.slice none 0 0],vN e]):Bf (TB [] [] [] e) S W (.returned v) w:=by
  refine ⟨⟨⟨⟨none,0,OwnOk.none.row⟩,⟨none,0,OwnOk.none.row⟩,⟨none,0,OwnOk.none.row⟩⟩⟩,by rw [hv];rfl,hw.out,λy hy=>?_⟩
  have hy:y∈[AF none (rowsL AZ []),AF none (rowsL Ac []),AF none (rowsL BP [])]:=hy
  simp only [xN,List.not_mem_nil,or_false] at hy
  rcases hy with rfl|rfl|rfl<;>exact ⟨(λb e=>by cases e),(λb e=>by cases e)⟩
def Q2 (ps:List Pt) (ts:List T3) (x y:Int):Bool:=decide (0<=Gp ts x y)&&(Ci (Dl ts x y)&&GK ps (Dl ts x y).a (Dl ts x y).b (CF ts (Dl ts x y)).c (CF ts (Dl ts x y)).d)
def Wh (ps:List Pt) (ts:List T3) (x y:Int):Nat:=if Gp ts x y<0 then 1 else if Q2 ps ts x y=true then 0 else 7
def cB (ts:List T3) (x y:Int):List T3:=I4 ts (Dl ts x y).a (Dl ts x y).b (Dl ts x y).l.toNat (Dl ts x y).r.toNat (CF ts (Dl ts x y)).c (CF ts (Dl ts x y)).d
def XX (ps:List Pt) (ts:List T3) (x y:Int):List Pt:=if Q2 ps ts x y=true then ps else []
def XZ (ps:List Pt) (ts:List T3) (x y:Int):List T3:=if Q2 ps ts x y=true then cB ts x y else []
def XY (ps:List Pt) (ts:List T3) (ss:List Z3) (x y:Int):List Z3:=if Q2 ps ts x y=true then ss else []
section
variable {ps:List Pt} {ts:List T3} {ss:List Z3} {x y:Int}
theorem IS (h:Q2 ps ts x y=false):XX ps ts x y=[]/\XZ ps ts x y=[]/\XY ps ts ss x y=[]:=by
  unfold XX XZ XY;rw [h];exact ⟨rfl,rfl,rfl⟩
theorem Po (h:Q2 ps ts x y=true):XX ps ts x y=ps/\XZ ps ts x y=cB ts x y/\XY ps ts ss x y=ss:=by
  unfold XX XZ XY;rw [h];exact ⟨rfl,rfl,rfl⟩
theorem UY (h:Gp ts x y<0):Q2 ps ts x y=false/\Wh ps ts x y=1:=by
  unfold Q2 Wh;rw [xH Z,if_pos h];exact ⟨rfl,rfl⟩
theorem XV (h:0<=Gp ts x y) (h2:Ci (Dl ts x y)=false):Q2 ps ts x y=false/\Wh ps ts x y=7:=by
  have h3:Q2 ps ts x y=false:=by unfold Q2;rw [h2,Bool.false_and,Bool.and_false]
  unfold Wh;rw [h3,if_neg Z];exact ⟨rfl,rfl⟩
theorem XW (h:0<=Gp ts x y) {p q c d:Nat} (h2:Rn ps.length ts (Dl ts x y) p q c d):Q2 ps ts x y=GK ps (Dl ts x y).a (Dl ts x y).b c d/\cB ts x y=I4 ts (Dl ts x y).a (Dl ts x y).b p q c d:=by
  unfold Q2 cB
  rw [(Cz h2).1,(Cz h2).2,xI h,Bool.true_and,Bool.true_and,h2.l,h2.r];exact ⟨rfl,rfl⟩
theorem UZ (h:0<=Gp ts x y):Wh ps ts x y=if Q2 ps ts x y=true then 0 else 7:=if_neg Z
end
def nexI (ps:List Pt) (ts:List T3):List E4->Nat->Int
  | [],_ => -1
  | e::r,i=>if FK ps ts e=true then nexI ps ts r (i+1) else (i:Int)
section
variable {ps:List Pt} {ts:List T3} {es:List E4} {j:Nat}
theorem SV (hj:j<es.length) (h:FK ps ts (es.getD j E0)=true):nexI ps ts (es.drop j) j=nexI ps ts (es.drop (j+1)) (j+1):=by
  rw [FW (d:=E0) hj];exact if_pos h
theorem VO (hj:j<es.length) (h:FK ps ts (es.getD j E0)=false):nexI ps ts (es.drop j) j=(j:Int):=by
  rw [FW (d:=E0) hj];exact if_neg (by rw [h];decide)
theorem VN (hj:¬j<es.length):nexI ps ts (es.drop j) j = -1:=by
  rw [List.drop_eq_nil_of_le Z];rfl
def SU (ps:List Pt) (ts:List T3):Int:=nexI ps ts (BR ts) 0
def Jr (ps:List Pt) (ts:List T3):E4:=(BR ts).getD (SU ps ts).toNat E0
def H1 (ps:List Pt) (ts:List T3):Bool:=if SU ps ts<0 then false else GK ps (Jr ps ts).a (Jr ps ts).b (CF ts (Jr ps ts)).c (CF ts (Jr ps ts)).d
def FR (ps:List Pt) (ts:List T3):List T3:=if SU ps ts<0 then ts else MA ps ts (Jr ps ts).a (Jr ps ts).b (Jr ps ts).l.toNat (Jr ps ts).r.toNat (CF ts (Jr ps ts)).c (CF ts (Jr ps ts)).d
theorem Y6 (h:SU ps ts = -1):H1 ps ts=false/\FR ps ts=ts:=by
  unfold H1 FR;rw [h];exact ⟨rfl,rfl⟩
theorem Y5 (h:SU ps ts=(j:Int)) {e:E4} (he:e=(BR ts).getD j E0) {p q c d:Nat} (h2:Rn ps.length ts e p q c d):H1 ps ts=GK ps e.a e.b c d/\FR ps ts=MA ps ts e.a e.b p q c d:=by
  have e1:Jr ps ts=e:=by unfold Jr;rw [h,he];rfl
  unfold H1 FR
  rw [e1,(Cz h2).1,if_neg Z,if_neg Z,h2.l,h2.r];exact ⟨rfl,rfl⟩
theorem Id:(FR ps ts).length=ts.length:=by
  unfold FR;split
  · rfl
  · exact Ud
end
theorem BD.thaw1 {w0:BC} {w:World} {A:List As} {p:Option Addr} {T z m cp:Nat} {cs:List Value} (h:BD w0 w (A++[JK p T z m cp cs])) (hnew:∀b,p.map (·.block)=some b->w0.w.heap.size<=b) (hap:∀y∈A,y.ro=false\/∀b,p.map (·.block)=some b->y.foot≠some b):BD w0 w (A++[rowW p T z m cp cs]):=by
  obtain ⟨h1,h2,h3⟩:=h
  obtain ⟨p1,p2,p3⟩:=List.pairwise_append.1 h3
  refine ⟨h1,λx hx b e=>?_,List.pairwise_append.2 ⟨p1,List.pairwise_singleton _ _,λx hx y hy=>?_⟩⟩
  · rcases List.mem_append.1 hx with hx|hx
    · exact h2 x (List.mem_append_left _ hx) b e
    · rw [xO] at hx
      subst hx
      obtain ⟨_,o,ho,hp⟩:=h2 (JK p T z m cp cs) (List.mem_append_right _ (xO.2 rfl)) b e
      exact ⟨.inr (.inl (hnew b e)),o,ho,hp⟩
  · rw [xO] at hy
    subst hy
    refine .inr λb e1 e2=>?_
    rcases hap x hx with h|h
    · rcases p3 x hx (JK p T z m cp cs) (xO.2 rfl) with k|k
      · rw [h] at k;cases k.1
      · exact k b e1 e2
    · exact h b e2 e1
theorem yu {P:Program} {c:Code} {Q:Exit->Act->World->Prop} {n:Nat} {F:List (Nat×Value)} {w0:BC} {L A B:List As} {p:Option Addr} {T z m cp:Nat} {cs:List Value} (hs:(A++JK p T z m cp cs::B).Sublist L) (hnew:∀b,p.map (·.block)=some b->w0.w.heap.size<=b)
    (hA:∀y∈A,y.ro=false\/∀b,p.map (·.block)=some b->y.foot≠some b) (hB:∀y∈B,y.ro=false\/∀b,p.map (·.block)=some b->y.foot≠some b) (next:OkC P c Q n F w0 (A++rowW p T z m cp cs::B)):OkC P c Q n F w0 L:=by
  have hp:∀X:As,(A++X::B).Perm (A++B++[X]):=λX=>by
    rw [List.append_assoc];exact List.Perm.append_left A (List.perm_append_comm (l₁:=[X]) (l₂:=B))
  exact λa w ha hW=>next a w ha ((((hW.weak hs).perm (hp _)).thaw1 hnew (λy hy=>(List.mem_append.1 hy).elim (hA y) (hB y))).perm (hp _).symm)
theorem BD.frz2 {w0:BC} {w:World} {L:List As} {p:Option Addr} {T z m c:Nat} {cs:List Value} (h:BD w0 w (rowW p T z m c cs::L)) (ho:OwnOk p m c) (hl:cs.length=m*z) (he:w0.ex=none) :
    BD w0 w (AF p cs::JK p T z m c cs::L)/\(∀b,p.map (·.block)=some b->w0.w.heap.size<=b)/\∀y∈L,∀b,p.map (·.block)=some b->y.foot≠some b:=by
  have h5:BD w0 w (JK p T z m c cs::L):=h.freeze (i:=0) rfl rfl (λo h=>h) (λe=>by cases e)
  obtain ⟨h1,h2,h3⟩:=h
  have h4:=(List.pairwise_cons.1 h3).1
  have hd:∀y∈L,∀b,p.map (·.block)=some b->y.foot≠some b:=λy hy b e=>by
    rcases h4 y hy with k|k
    · cases k.1
    · exact k b e
  refine ⟨⟨h1,λx hx b e=>?_,List.pairwise_cons.2 ⟨λy hy=>?_,h5.2.2⟩⟩,λb e=>?_,hd⟩
  · rcases xN.1 hx with rfl|hx
    · obtain ⟨_,o,h6,h7⟩:=h5.2.1 _ List.mem_cons_self b e
      exact ⟨.inl O,o,h6,Dd ho hl h7⟩
    · exact h5.2.1 x hx b e
  · rcases xN.1 hy with rfl|hy
    · exact .inl ⟨rfl,rfl⟩
    · exact .inr (hd y hy)
  · rcases (h2 _ List.mem_cons_self b e).1 with k|k|k
    · cases k
    · exact k
    · rw [he] at k;cases k
end
end Go.Proofs.YtpolhpjiahbidaaGreatDoor
