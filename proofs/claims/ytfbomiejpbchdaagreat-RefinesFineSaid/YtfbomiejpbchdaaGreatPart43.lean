import Derived.Test.YtfbomiejpbchdaaGreatPart34
import Derived.Test.YtfbomiejpbchdaaGreatPart38
import Derived.Test.YtfbomiejpbchdaaGreatPart39
import Derived.Test.YtfbomiejpbchdaaGreatPart41
import Derived.Test.YtfbomiejpbchdaaGreatPart42
namespace Go.Proofs.YtfbomiejpbchdaaGreat
open Go Go.RowKit
set_option linter.unusedVariables false
set_option linter.unusedSimpArgs false
section
def bz (l:Nat):Int×Int×Int:=if l=0 then (2,0,0) else if l=1 then (0,2,0) else if l=2 then (0,0,2) else if l=3 then (1,1,0) else if l=4 then (0,1,1) else (1,0,1)
def D3 (i j k:Nat):Int:=(bz i).1*((bz j).2.1*(bz k).2.2-(bz j).2.2*(bz k).2.1)-(bz i).2.1*((bz j).1*(bz k).2.2-(bz j).2.2*(bz k).1)+(bz i).2.2*((bz j).1*(bz k).2.1-(bz j).2.1*(bz k).1)
def Es (a b:Pt):Pt:=CS (a+b) (1/2)
def LP (a b c:Pt) (l:Nat):Pt:=if l=0 then a else if l=1 then b else if l=2 then c else if l=3 then Es a b else if l=4 then Es b c else Es c a
def HJ (fam:List T3) (l:Nat):Bool:=fam.any λL=>CW L l
def Wm (i j:Nat) (M:T3):Bool:=decide (D3 i j M.1<=0)&&decide (D3 i j M.2.1<=0)&&decide (D3 i j M.2.2<=0)
def Ra (L M:T3):Bool:=Wm L.1 L.2.1 M||Wm L.2.1 L.2.2 M||Wm L.2.2 L.1 M
def Vd (L:T3) (l:Nat):Bool:=decide (0<=D3 l L.2.1 L.2.2)&&decide (0<=D3 L.1 l L.2.2)&&decide (0<=D3 L.1 L.2.1 l)
structure P8 (fam:List T3):Prop where
  lt:∀L∈fam,L.1<6/\L.2.1<6/\L.2.2<6
  pos:∀L∈fam,0<D3 L.1 L.2.1 L.2.2
  sep:fam.Pairwise λL M=>(Ra L M||Ra M L)=true
  cls:∀L∈fam,∀l,l<6->HJ fam l=true->Vd L l=true->CW L l=true
  cor:∀l,l<3->HJ fam l=true
instance (fam:List T3):Decidable (∀l,l<6->HJ fam l=true->∀L∈fam,Vd L l=true->CW L l=true):=inferInstance
theorem TS {fam:List T3} (h:((fam.all λL=>decide (L.1<6)&&decide (L.2.1<6)&&decide (L.2.2<6)&&decide (0<D3 L.1 L.2.1 L.2.2)&&(List.range 6).all λl=>!HJ fam l||!Vd L l||CW L l)&&(List.range 3).all (HJ fam))=true) (hs:fam.Pairwise λL M=>(Ra L M||Ra M L)=true):P8 fam:=by
  rw [Bool.and_eq_true] at h
  have h1:=List.all_eq_true.1 h.1
  simp only [Bool.and_eq_true,decide_eq_true_eq] at h1
  refine ⟨λL hL=>?_,λL hL=>?_,hs,λL hL l hl hu hc=>?_,λl hl=>?_⟩
  · have:=h1 L hL;exact ⟨this.1.1.1.1,this.1.1.1.2,this.1.1.2⟩
  · exact (h1 L hL).1.2
  · have:=List.all_eq_true.1 (h1 L hL).2 l (List.mem_range.2 hl)
    rw [hu,hc] at this
    simpa using this
  · exact List.all_eq_true.1 h.2 l (List.mem_range.2 hl)
def LV:List T3:=[(0,3,5),(3,1,4),(5,4,2),(3,4,5)]
theorem P3:P8 LV:=TS (by decide) (by decide)
section
variable {a b c q:Pt} {l i j k:Nat}
theorem QS (hl:l<6):(LP a b c l).x*2=((bz l).1:Rat)*a.x+((bz l).2.1:Rat)*b.x+((bz l).2.2:Rat)*c.x/\(LP a b c l).y*2=((bz l).1:Rat)*a.y+((bz l).2.1:Rat)*b.y+((bz l).2.2:Rat)*c.y/\((bz l).1:Rat)+((bz l).2.1:Rat)+((bz l).2.2:Rat)=2:=by
  have e:l=0\/l=1\/l=2\/l=3\/l=4\/l=5:=by omega
  rcases e with rfl|rfl|rfl|rfl|rfl|rfl<;>simp [LP,bz,Es,NC,NW,QR,Ql]<;>refine ⟨?_,?_,?_⟩<;>grind
theorem Wn {P Q R:Pt} {p1 p2 p3 q1 q2 q3 r1 r2 r3:Rat} (hx:P.x*2=p1*a.x+p2*b.x+p3*c.x) (hy:P.y*2=p1*a.y+p2*b.y+p3*c.y) (hp:p1+p2+p3=2)
    (kx:Q.x*2=q1*a.x+q2*b.x+q3*c.x) (ky:Q.y*2=q1*a.y+q2*b.y+q3*c.y) (kq:q1+q2+q3=2) (mx:R.x*2=r1*a.x+r2*b.x+r3*c.x) (my:R.y*2=r1*a.y+r2*b.y+r3*c.y) (mr:r1+r2+r3=2) :
    AQ P Q R*8=(p1*(q2*r3-q3*r2)-p2*(q1*r3-q3*r1)+p3*(q1*r2-q2*r1))*AQ a b c:=by
  have e1:p3=2-p1-p2:=by grind
  have e2:q3=2-q1-q2:=by grind
  have e3:r3=2-r1-r2:=by grind
  subst e1;subst e2;subst e3
  have ux:(Q.x-P.x)*2=(q1-p1)*(a.x-c.x)+(q2-p2)*(b.x-c.x):=by grind
  have uy:(Q.y-P.y)*2=(q1-p1)*(a.y-c.y)+(q2-p2)*(b.y-c.y):=by grind
  have vx:(R.x-P.x)*2=(r1-p1)*(a.x-c.x)+(r2-p2)*(b.x-c.x):=by grind
  have vy:(R.y-P.y)*2=(r1-p1)*(a.y-c.y)+(r2-p2)*(b.y-c.y):=by grind
  have e:AQ P Q R*4=((Q.x-P.x)*2)*((R.y-P.y)*2)-((Q.y-P.y)*2)*((R.x-P.x)*2):=by simp only [Cb];grind
  have e':AQ P Q R*4=((q1-p1)*(r2-p2)-(q2-p2)*(r1-p1))*AQ a b c:=by
    rw [e,ux,uy,vx,vy]
    simp only [Cb]
    generalize q1-p1=s1
    generalize q2-p2=s2
    generalize r1-p1=s3
    generalize r2-p2=s4
    grind
  have e4:p1*(q2*(2-r1-r2)-(2-q1-q2)*r2)-p2*(q1*(2-r1-r2)-(2-q1-q2)*r1)+(2-p1-p2)*(q1*r2-q2*r1)=((q1-p1)*(r2-p2)-(q2-p2)*(r1-p1))*2:=by grind
  rw [e4]
  have:AQ P Q R*8=AQ P Q R*4*2:=by grind
  rw [this,e']
  grind
theorem FC (hi:i<6) (hj:j<6) (hk:k<6):AQ (LP a b c i) (LP a b c j) (LP a b c k)*8=((D3 i j k:Int):Rat)*AQ a b c:=by
  obtain ⟨x1,y1,s1⟩:=QS (a:=a) (b:=b) (c:=c) hi
  obtain ⟨x2,y2,s2⟩:=QS (a:=a) (b:=b) (c:=c) hj
  obtain ⟨x3,y3,s3⟩:=QS (a:=a) (b:=b) (c:=c) hk
  rw [Wn x1 y1 s1 x2 y2 s2 x3 y3 s3]
  congr 1
  unfold D3
  simp only [Rat.intCast_add,Rat.intCast_sub,Rat.intCast_mul]
theorem On (hT:0<AQ a b c) (hi:i<6) (hj:j<6) (hk:k<6) (h:0<=AQ (LP a b c i) (LP a b c j) (LP a b c k)):0<=D3 i j k:=by
  have e:=FC (a:=a) (b:=b) (c:=c) hi hj hk
  have h1:0<=AQ a b c*((D3 i j k:Int):Rat):=by rw [Rat.mul_comm,<-e];grind
  have h2:=HR hT h1
  exact_mod_cast h2
theorem HB (hT:0<AQ a b c) (hi:i<6) (hj:j<6) (hk:k<6) (h:0<=D3 i j k):0<=AQ (LP a b c i) (LP a b c j) (LP a b c k):=by
  have e:=FC (a:=a) (b:=b) (c:=c) hi hj hk
  have h1:(0:Rat)<=((D3 i j k:Int):Rat):=by exact_mod_cast h
  have h2:=Rat.mul_nonneg h1 (Rat.le_of_lt hT)
  grind
theorem F5 (hT:0<AQ a b c) (hi:i<6) (hj:j<6) (hk:k<6) (h:D3 i j k<=0):AQ (LP a b c i) (LP a b c j) (LP a b c k)<=0:=by
  have e:=FC (a:=a) (b:=b) (c:=c) hi hj hk
  have h1:(0:Rat) <= -((D3 i j k:Int):Rat):=by
    have:((D3 i j k:Int):Rat)<=0:=by exact_mod_cast h
    grind
  have h2:=Rat.mul_nonneg h1 (Rat.le_of_lt hT)
  grind
theorem Ve (hT:0<AQ a b c) (hi:i<6) (hj:j<6) (hk:k<6) (h:0<D3 i j k):0<AQ (LP a b c i) (LP a b c j) (LP a b c k):=by
  have e:=FC (a:=a) (b:=b) (c:=c) hi hj hk
  have h1:(0:Rat)<((D3 i j k:Int):Rat):=by exact_mod_cast h
  have h2:=Rat.mul_pos h1 hT
  grind
theorem QT (hT:0<AQ a b c) (hi:i<6) (hj:j<6) (h:LP a b c i=LP a b c j):i=j:=by
  have key:∀u v:Nat,u<6->v<6->D3 i u v=D3 j u v:=λu v hu hv=>by
    have e1:=FC (a:=a) (b:=b) (c:=c) hi hu hv
    have e2:=FC (a:=a) (b:=b) (c:=c) hj hu hv
    rw [h,e2] at e1
    have h1:(((D3 i u v:Int):Rat)-((D3 j u v:Int):Rat))*AQ a b c=0:=by grind
    rcases Rat.mul_eq_zero.1 h1 with h2|h2
    · have h3:((D3 i u v:Int):Rat)=((D3 j u v:Int):Rat):=by grind
      exact_mod_cast h3
    · rw [h2] at hT;exact absurd hT Rat.lt_irrefl
  have k1:=key 1 2 (by decide) (by decide)
  have k2:=key 2 0 (by decide) (by decide)
  have k3:=key 0 1 (by decide) (by decide)
  have ei:i=0\/i=1\/i=2\/i=3\/i=4\/i=5:=by omega
  have ej:j=0\/j=1\/j=2\/j=3\/j=4\/j=5:=by omega
  rcases ei with rfl|rfl|rfl|rfl|rfl|rfl<;>rcases ej with rfl|rfl|rfl|rfl|rfl|rfl<;>first|rfl|(revert k1 k2 k3;decide)
theorem Zc (P Q R q u v:Pt):AQ u v q*AQ P Q R=AQ q Q R*AQ u v P+AQ P q R*AQ u v Q+AQ P Q q*AQ u v R:=by simp only [Cb];grind
theorem VU {P Q R u v:Pt} (hT:0<AQ P Q R) (h1:0<=AQ q Q R) (h2:0<=AQ P q R) (h3:0<=AQ P Q q) (k1:0<=AQ u v P) (k2:0<=AQ u v Q) (k3:0<=AQ u v R):0<=AQ u v q:=by
  have e:=Zc P Q R q u v
  have m1:=Rat.mul_nonneg h1 k1
  have m2:=Rat.mul_nonneg h2 k2
  have m3:=Rat.mul_nonneg h3 k3
  exact Hh hT (by rw [e];grind)
end
theorem NU {u a b c:Pt} {k:Rat} {l:Nat} (hl:l<6) (h1:k<=dt u a) (h2:k<=dt u b) (h3:k<=dt u c):k<=dt u (LP a b c l):=by
  obtain ⟨x1,y1,s1⟩:=QS (a:=a) (b:=b) (c:=c) hl
  have e:dt u (LP a b c l)*2=((bz l).1:Rat)*dt u a+((bz l).2.1:Rat)*dt u b+((bz l).2.2:Rat)*dt u c:=by
    have e0:dt u (LP a b c l)*2=u.x*((LP a b c l).y*2)-u.y*((LP a b c l).x*2):=by unfold dt;grind
    rw [e0,x1,y1];unfold dt;grind
  have z:(0:Rat)<=((bz l).1:Rat)/\(0:Rat)<=((bz l).2.1:Rat)/\(0:Rat)<=((bz l).2.2:Rat):=by
    have e:l=0\/l=1\/l=2\/l=3\/l=4\/l=5:=by omega
    rcases e with rfl|rfl|rfl|rfl|rfl|rfl<;>exact ⟨by decide,by decide,by decide⟩
  have m1:=Rat.mul_nonneg z.1 (show 0<=dt u a-k by grind)
  have m2:=Rat.mul_nonneg z.2.1 (show 0<=dt u b-k by grind)
  have m3:=Rat.mul_nonneg z.2.2 (show 0<=dt u c-k by grind)
  have s2:((bz l).1:Rat)*k+((bz l).2.1:Rat)*k+((bz l).2.2:Rat)*k=2*k:=by rw [<-s1];grind
  generalize ((bz l).1:Rat)=p1 at *
  generalize ((bz l).2.1:Rat)=p2 at *
  generalize ((bz l).2.2:Rat)=p3 at *
  clear x1 y1 z s1
  grind
theorem M2 {u a b c:Pt} {k:Rat} {l:Nat} (hl:l<6) (h1:dt u a<=k) (h2:dt u b<=k) (h3:dt u c<=k):dt u (LP a b c l)<=k:=by
  have ng:∀a,dt ⟨-u.x,-u.y⟩ a = -dt u a:=λa=>by unfold dt;grind
  have h:=NU (u:=⟨-u.x,-u.y⟩) (k := -k) (a:=a) (b:=b) (c:=c) hl (by rw [ng];grind) (by rw [ng];grind) (by rw [ng];grind)
  rw [ng] at h
  grind
end
section
theorem Xt {q:Rat}:0<q.num.sign↔0<q:=by
  rcases G8 0 q with h|h
  · rw [M1 h];exact ⟨λ_=>h,λ_=>by decide⟩
  · by_cases e:q=0
    · rw [Nh e,e];decide
    · rw [Qj (q:=q) (by grind)];exact ⟨λk=>absurd k (by decide),λk=>by grind⟩
theorem Ic {q:Rat}:q.num.sign = -1↔q<0:=by
  rcases G8 0 q with h|h
  · rw [M1 h];exact ⟨λk=>absurd k (by decide),λk=>by grind⟩
  · by_cases e:q=0
    · rw [Nh e,e];decide
    · have:q<0:=by grind
      rw [Qj this];exact ⟨λ_=>this,λ_=>rfl⟩
theorem Pc {p q:Pt} {B:Q3} (h:AQ p q B.1<=0/\AQ p q B.2.1<=0/\AQ p q B.2.2<=0):GJ p q B=false:=by
  have k:∀r,AQ p q r<=0->M5 p q r=false:=λr hr=>decide_eq_false (by rw [Xt];grind)
  unfold GJ
  rw [k _ h.1,k _ h.2.1,k _ h.2.2];rfl
theorem XP {A B:Q3} (h:Of A.1 A.2.1 A.2.2 B.1 B.2.1 B.2.2):Ep A B=true:=by
  unfold Ep
  rcases h with h|h|h
  · rw [Pc h];rfl
  · rw [Pc (p:=A.2.1) (q:=A.2.2) h];simp
  · rw [Pc (p:=A.2.2) (q:=A.1) h];simp
theorem Lz {ps:List Pt} {t:T3} {q:Pt} (hT:0<AQ (cor ps t.1) (cor ps t.2.1) (cor ps t.2.2)):KT ps q t=0↔¬KS ps t q:=by
  have hd:∀z,0<=z/AQ (cor ps t.1) (cor ps t.2.1) (cor ps t.2.2)↔0<=z:=λz=>by
    have e:z/AQ (cor ps t.1) (cor ps t.2.1) (cor ps t.2.2)*AQ (cor ps t.1) (cor ps t.2.1) (cor ps t.2.2)=z:=Rat.div_mul_cancel (by grind)
    generalize z/AQ (cor ps t.1) (cor ps t.2.1) (cor ps t.2.2)=w at *
    exact ⟨λk=>by rw [<-e];exact Rat.mul_nonneg k (by grind),λk=>by rw [<-e] at k;exact Hh hT k⟩
  have h1:KT ps q t=F7 (AQ q (cor ps t.2.1) (cor ps t.2.2)/AQ (cor ps t.1) (cor ps t.2.1) (cor ps t.2.2)) (AQ (cor ps t.1) q (cor ps t.2.2)/AQ (cor ps t.1) (cor ps t.2.1) (cor ps t.2.2)) (AQ (cor ps t.1) (cor ps t.2.1) q/AQ (cor ps t.1) (cor ps t.2.1) (cor ps t.2.2)):=if_neg (λe=>by rw [e] at hT;exact absurd hT Rat.lt_irrefl)
  have h2:∀{x y z:Rat},F7 x y z=0↔¬(0<=x/\0<=y/\0<=z):=λ{x y z}=>by
    unfold F7
    split
    · rename_i h
      rw [Ic,Ic,Ic] at h
      exact ⟨λ_=>by grind,λ_=>rfl⟩
    · rename_i h
      rw [Ic,Ic,Ic] at h
      exact ⟨λh=>by omega,λh=>by exfalso;apply h;grind⟩
  rw [h1,h2,hd,hd,hd]
  exact Iff.rfl
def Fo (mv:Nat->Nat->Nat) (t:T3) (l:Nat):Nat:=if l=0 then t.1 else if l=1 then t.2.1 else if l=2 then t.2.2 else if l=3 then mv t.1 t.2.1 else if l=4 then mv t.2.1 t.2.2 else mv t.2.2 t.1
def DQ (mv:Nat->Nat->Nat) (t L:T3):T3:=(Fo mv t L.1,Fo mv t L.2.1,Fo mv t L.2.2)
def LO (t:T3) (l:Nat):P2:=if l=3 then Bh t.1 t.2.1 else if l=4 then Bh t.2.1 t.2.2 else Bh t.2.2 t.1
def I7 (ps:List Pt) (t:T3) (l:Nat):Pt:=LP (cor ps t.1) (cor ps t.2.1) (cor ps t.2.2) l
structure GG (ps:List Pt) (ts:List T3) (ps':List Pt) (ts':List T3) (mv:Nat->Nat->Nat) (fam:T3->List T3):Prop where
  g:ET ps ts
  cut:ts'=ts.flatMap λt=>(fam t).map (DQ mv t)
  fok:∀t∈ts,P8 (fam t)
  len:ps.length<=ps'.length
  old:∀p,p<ps.length->cor ps' p=cor ps p
  mid:∀t∈ts,∀l,3<=l->l<6->HJ (fam t) l=true->ps.length<=Fo mv t l/\Fo mv t l<ps'.length/\cor ps' (Fo mv t l)=I7 ps t l
  new:∀p,ps.length<=p->p<ps'.length->∃t∈ts,∃l,3<=l/\l<6/\HJ (fam t) l=true/\p=Fo mv t l
  cls:∀t∈ts,∀s∈ts,∀l k,3<=l->l<6->3<=k->k<6->HJ (fam s) k=true->LO t l=LO s k->HJ (fam t) l=true/\Fo mv t l=Fo mv s k
theorem PF {fam:List T3} {L:T3} {l:Nat} (hL:L∈fam) (h:CW L l=true):HJ fam l=true:=List.any_eq_true.2 ⟨L,hL,h⟩
theorem Zv (L:T3):CW L L.1=true/\CW L L.2.1=true/\CW L L.2.2=true:=by simp [CW]
theorem NK {mv:Nat->Nat->Nat} {t L:T3} {l:Nat} (h:CW L l=true):CW (DQ mv t L) (Fo mv t l)=true:=by
  simp only [CW,Bool.or_eq_true,beq_iff_eq] at h ⊢
  rcases h with (h|h)|h
  · left;left;show Fo mv t L.1=_;rw [h]
  · left;right;show Fo mv t L.2.1=_;rw [h]
  · right;show Fo mv t L.2.2=_;rw [h]
section
variable {ps ps':List Pt} {ts ts':List T3} {mv:Nat->Nat->Nat} {fam:T3->List T3} {t s c L:T3} {l k p:Nat}
theorem G7 (h:t∈ts):∃j,j<ts.length/\ts.getD j (0,0,0)=t:=by
  obtain ⟨j,hj,e⟩:=List.getElem_of_mem h
  exact ⟨j,hj,by rw [List.getD,List.getElem?_eq_getElem hj];exact e⟩
theorem G0 {j:Nat} (h:j<ts.length):ts.getD j (0,0,0)∈ts:=by rw [List.getD,List.getElem?_eq_getElem h];exact List.getElem_mem h
theorem GG.tri (S:GG ps ts ps' ts' mv fam) (ht:t∈ts):YZ ps t:=by
  obtain ⟨j,hj,rfl⟩:=G7 ht
  exact S.g.tri j hj
theorem GG.v_pos (S:GG ps ts ps' ts' mv fam) (ht:t∈ts):0<AQ (cor ps t.1) (cor ps t.2.1) (cor ps t.2.2):=(S.tri ht).pos
theorem GG.v_pt (S:GG ps ts ps' ts' mv fam) (ht:t∈ts) (hl:l<6) (hu:HJ (fam t) l=true):Fo mv t l<ps'.length/\cor ps' (Fo mv t l)=I7 ps t l:=by
  have h:=S.tri ht
  have hle:=S.len
  rcases Nat.lt_or_ge l 3 with h3|h3
  · have e:l=0\/l=1\/l=2:=by omega
    rcases e with rfl|rfl|rfl
    · exact ⟨Nat.lt_of_lt_of_le h.a hle,S.old _ h.a⟩
    · exact ⟨Nat.lt_of_lt_of_le h.b hle,S.old _ h.b⟩
    · exact ⟨Nat.lt_of_lt_of_le h.c hle,S.old _ h.c⟩
  · exact (S.mid t ht l h3 hl hu).2
theorem GG.v_child (S:GG ps ts ps' ts' mv fam) (hc:c∈ts'):∃t∈ts,∃L∈fam t,c=DQ mv t L:=by
  rw [S.cut] at hc
  obtain ⟨t,ht,hc⟩:=List.mem_flatMap.1 hc
  obtain ⟨L,hL,e⟩:=List.mem_map.1 hc
  exact ⟨t,ht,L,hL,e.symm⟩
theorem GG.v_c3 (S:GG ps ts ps' ts' mv fam) (ht:t∈ts) (hL:L∈fam t):cor ps' (DQ mv t L).1=I7 ps t L.1/\cor ps' (DQ mv t L).2.1=I7 ps t L.2.1/\cor ps' (DQ mv t L).2.2=I7 ps t L.2.2:=by
  obtain ⟨h1,h2,h3⟩:=(S.fok t ht).lt L hL
  obtain ⟨u1,u2,u3⟩:=Zv L
  exact ⟨(S.v_pt ht h1 (PF hL u1)).2,(S.v_pt ht h2 (PF hL u2)).2,(S.v_pt ht h3 (PF hL u3)).2⟩
theorem GG.v_turn (S:GG ps ts ps' ts' mv fam) (ht:t∈ts) (hL:L∈fam t):AQ (cor ps' (DQ mv t L).1) (cor ps' (DQ mv t L).2.1) (cor ps' (DQ mv t L).2.2)*8=((D3 L.1 L.2.1 L.2.2:Int):Rat)*AQ (cor ps t.1) (cor ps t.2.1) (cor ps t.2.2):=by
  obtain ⟨h1,h2,h3⟩:=(S.fok t ht).lt L hL
  obtain ⟨e1,e2,e3⟩:=S.v_c3 ht hL
  rw [e1,e2,e3]
  exact FC h1 h2 h3
theorem GG.v_cpos (S:GG ps ts ps' ts' mv fam) (ht:t∈ts) (hL:L∈fam t):0<AQ (cor ps' (DQ mv t L).1) (cor ps' (DQ mv t L).2.1) (cor ps' (DQ mv t L).2.2):=by
  obtain ⟨h1,h2,h3⟩:=(S.fok t ht).lt L hL
  obtain ⟨e1,e2,e3⟩:=S.v_c3 ht hL
  rw [e1,e2,e3]
  exact Ve (S.v_pos ht) h1 h2 h3 ((S.fok t ht).pos L hL)
def BB (ps:List Pt) (c d:T3):Prop:=Of (cor ps c.1) (cor ps c.2.1) (cor ps c.2.2) (cor ps d.1) (cor ps d.2.1) (cor ps d.2.2)\/Of (cor ps d.1) (cor ps d.2.1) (cor ps d.2.2) (cor ps c.1) (cor ps c.2.1) (cor ps c.2.2)
theorem QW {a b c:Pt} {M:T3} (hT:0<AQ a b c) (hL:L.1<6/\L.2.1<6/\L.2.2<6) (hM:M.1<6/\M.2.1<6/\M.2.2<6) (h:Ra L M=true):Of (LP a b c L.1) (LP a b c L.2.1) (LP a b c L.2.2) (LP a b c M.1) (LP a b c M.2.1) (LP a b c M.2.2):=by
  simp only [Ra,Wm,Bool.or_eq_true,Bool.and_eq_true,decide_eq_true_eq] at h
  rcases h with (⟨⟨h1,h2⟩,h3⟩|⟨⟨h1,h2⟩,h3⟩)|⟨⟨h1,h2⟩,h3⟩
  · exact .inl ⟨F5 hT hL.1 hL.2.1 hM.1 h1,F5 hT hL.1 hL.2.1 hM.2.1 h2,F5 hT hL.1 hL.2.1 hM.2.2 h3⟩
  · exact .inr (.inl ⟨F5 hT hL.2.1 hL.2.2 hM.1 h1,F5 hT hL.2.1 hL.2.2 hM.2.1 h2,F5 hT hL.2.1 hL.2.2 hM.2.2 h3⟩)
  · exact .inr (.inr ⟨F5 hT hL.2.2 hL.1 hM.1 h1,F5 hT hL.2.2 hL.1 hM.2.1 h2,F5 hT hL.2.2 hL.1 hM.2.2 h3⟩)
theorem GG.v_bb (S:GG ps ts ps' ts' mv fam):ts'.Pairwise (BB ps'):=by
  rw [S.cut]
  refine List.pairwise_flatMap.2 ⟨λt ht=>?_,?_⟩
  · refine List.pairwise_map.2 ((S.fok t ht).sep.imp_of_mem λ{L M} hL hM h=>?_)
    obtain ⟨e1,e2,e3⟩:=S.v_c3 ht hL
    obtain ⟨f1,f2,f3⟩:=S.v_c3 ht hM
    unfold BB
    rw [e1,e2,e3,f1,f2,f3]
    rw [Bool.or_eq_true] at h
    exact h.imp (QW (S.v_pos ht) ((S.fok t ht).lt L hL) ((S.fok t ht).lt M hM)) (QW (S.v_pos ht) ((S.fok t ht).lt M hM) ((S.fok t ht).lt L hL))
  · have base:ts.Pairwise (Ln ps):=List.pairwise_iff_getElem.2 λi j hi hj hij=>by
      have h:=Ua S.g hi hj (by omega)
      rwa [List.getD,List.getD,List.getElem?_eq_getElem hi,List.getElem?_eq_getElem hj] at h
    refine base.imp_of_mem λ{t s} ht hs ⟨u,k,hu,⟨h1,h2,h3⟩,h4,h5,h6⟩ x hx y hy=>?_
    obtain ⟨L,hL,rfl⟩:=List.mem_map.1 hx
    obtain ⟨M,hM,rfl⟩:=List.mem_map.1 hy
    obtain ⟨l1,l2,l3⟩:=(S.fok t ht).lt L hL
    obtain ⟨m1,m2,m3⟩:=(S.fok s hs).lt M hM
    obtain ⟨e1,e2,e3⟩:=S.v_c3 ht hL
    obtain ⟨f1,f2,f3⟩:=S.v_c3 hs hM
    have a:=S.v_cpos ht hL
    have b:=S.v_cpos hs hM
    refine aO a b hu (k:=k) ?_
    rw [e1,e2,e3,f1,f2,f3]
    exact ⟨⟨NU l1 h1 h2 h3,NU l2 h1 h2 h3,NU l3 h1 h2 h3⟩,M2 m1 h4 h5 h6,M2 m2 h4 h5 h6,M2 m3 h4 h5 h6⟩
theorem GG.v_up (S:GG ps ts ps' ts' mv fam) (ht:t∈ts) (hL:L∈fam t) {q:Pt} (h:KS ps' (DQ mv t L) q):KS ps t q:=by
  obtain ⟨l1,l2,l3⟩:=(S.fok t ht).lt L hL
  obtain ⟨e1,e2,e3⟩:=S.v_c3 ht hL
  have hc:=S.v_cpos ht hL
  obtain ⟨h1,h2,h3⟩:=h
  have hT:=S.v_pos ht
  have sd:∀i j:Nat,i<6->j<6->(∀l,l<6->0<=D3 i j l)->0<=AQ (I7 ps t i) (I7 ps t j) q:=λi j hi hj hd =>
    VU hc h1 h2 h3 (by rw [e1];exact HB hT hi hj l1 (hd _ l1)) (by rw [e2];exact HB hT hi hj l2 (hd _ l2)) (by rw [e3];exact HB hT hi hj l3 (hd _ l3))
  have d1:=sd 1 2 (by decide) (by decide) (by decide)
  have d2:=sd 2 0 (by decide) (by decide) (by decide)
  have d3:=sd 0 1 (by decide) (by decide) (by decide)
  have c1:AQ q (cor ps t.2.1) (cor ps t.2.2)=AQ (cor ps t.2.1) (cor ps t.2.2) q:=by simp only [Cb];grind
  have c2:AQ (cor ps t.1) q (cor ps t.2.2)=AQ (cor ps t.2.2) (cor ps t.1) q:=by simp only [Cb];grind
  exact ⟨by show 0<=AQ q (cor ps t.2.1) (cor ps t.2.2);rw [c1];exact d1,by show 0<=AQ (cor ps t.1) q (cor ps t.2.2);rw [c2];exact d2,d3⟩
theorem GG.v_lab (S:GG ps ts ps' ts' mv fam) (ht:t∈ts) (hL:L∈fam t) (hl:l<6) (hu:HJ (fam t) l=true) (h:KS ps' (DQ mv t L) (I7 ps t l)):CW L l=true:=by
  obtain ⟨l1,l2,l3⟩:=(S.fok t ht).lt L hL
  obtain ⟨e1,e2,e3⟩:=S.v_c3 ht hL
  obtain ⟨h1,h2,h3⟩:=h
  have h1:0<=AQ (I7 ps t l) (cor ps' (DQ mv t L).2.1) (cor ps' (DQ mv t L).2.2):=h1
  have h2:0<=AQ (cor ps' (DQ mv t L).1) (I7 ps t l) (cor ps' (DQ mv t L).2.2):=h2
  have h3:0<=AQ (cor ps' (DQ mv t L).1) (cor ps' (DQ mv t L).2.1) (I7 ps t l):=h3
  rw [e2,e3] at h1
  rw [e1,e3] at h2
  rw [e1,e2] at h3
  have hT:=S.v_pos ht
  refine (S.fok t ht).cls L hL l hl hu ?_
  simp only [Vd,Bool.and_eq_true,decide_eq_true_eq]
  exact ⟨⟨On hT hl l2 l3 h1,On hT l1 hl l3 h2⟩,On hT l1 l2 hl h3⟩
theorem Mj (h:CW t p=true):∃l,l<3/\p=Fo mv t l:=by
  simp only [CW,Bool.or_eq_true,beq_iff_eq] at h
  rcases h with (h|h)|h
  · exact ⟨0,by decide,h.symm⟩
  · exact ⟨1,by decide,h.symm⟩
  · exact ⟨2,by decide,h.symm⟩
theorem Us (hk:3<=k) (hk6:k<6):∃r,r<3/\LO s k=Bh (crn s r) (crn s ((r+1)%3))/\I7 ps s k=CS (cor ps (crn s r)+cor ps (crn s ((r+1)%3))) (1/2):=by
  have e:k=3\/k=4\/k=5:=by omega
  rcases e with rfl|rfl|rfl
  · exact ⟨0,by decide,rfl,rfl⟩
  · exact ⟨1,by decide,rfl,rfl⟩
  · exact ⟨2,by decide,rfl,rfl⟩
theorem Ui {x y:Nat} (hx:CW t x=true) (hy:CW t y=true) (hne:x≠y):∃l,3<=l/\l<6/\LO t l=Bh x y:=by
  simp only [CW,Bool.or_eq_true,beq_iff_eq] at hx hy
  have sy:∀a b,Bh a b=Bh b a:=λa b=>by unfold Bh;rw [Nat.min_comm,Nat.max_comm]
  rcases hx with (hx|hx)|hx<;>rcases hy with (hy|hy)|hy<;>subst hx<;>subst hy
  · exact absurd rfl hne
  · exact ⟨3,by decide,by decide,rfl⟩
  · exact ⟨5,by decide,by decide,sy _ _⟩
  · exact ⟨3,by decide,by decide,sy _ _⟩
  · exact absurd rfl hne
  · exact ⟨4,by decide,by decide,rfl⟩
  · exact ⟨5,by decide,by decide,rfl⟩
  · exact ⟨4,by decide,by decide,sy _ _⟩
  · exact absurd rfl hne
theorem GG.v_mid (S:GG ps ts ps' ts' mv fam) (ht:t∈ts) (hs:s∈ts) (hk:3<=k) (hk6:k<6) (hu:HJ (fam s) k=true) (h:KS ps t (I7 ps s k)):∃l,3<=l/\l<6/\HJ (fam t) l=true/\Fo mv t l=Fo mv s k:=by
  obtain ⟨r,hr,e1,e2⟩:=Us (ps:=ps) (s:=s) hk hk6
  obtain ⟨i,hi,rfl⟩:=G7 hs
  obtain ⟨j,hj,rfl⟩:=G7 ht
  rw [e2] at h
  obtain ⟨a,b⟩:=T7 S.g hi hj hr h
  have hne:crn (ts.getD i (0,0,0)) r≠crn (ts.getD i (0,0,0)) ((r+1)%3):=by
    have hT:=S.tri hs
    have er:r=0\/r=1\/r=2:=by omega
    rcases er with rfl|rfl|rfl
    · exact hT.ab
    · exact hT.bc
    · exact hT.ca
  obtain ⟨l,hl,hl6,e⟩:=Ui a b hne
  exact ⟨l,hl,hl6,S.cls _ ht _ hs l k hl hl6 hk hk6 hu (by rw [e,e1])⟩
theorem Pa (hT:0<AQ (cor ps t.1) (cor ps t.2.1) (cor ps t.2.2)) (hl:l<6):KS ps t (I7 ps t l):=by
  have e:l=0\/l=1\/l=2\/l=3\/l=4\/l=5:=by omega
  have k1:0<=D3 l 1 2:=by rcases e with rfl|rfl|rfl|rfl|rfl|rfl<;>decide
  have k2:0<=D3 0 l 2:=by rcases e with rfl|rfl|rfl|rfl|rfl|rfl<;>decide
  have k3:0<=D3 0 1 l:=by rcases e with rfl|rfl|rfl|rfl|rfl|rfl<;>decide
  have d1:0<=AQ (I7 ps t l) (I7 ps t 1) (I7 ps t 2):=HB hT hl (by decide) (by decide) k1
  have d2:0<=AQ (I7 ps t 0) (I7 ps t l) (I7 ps t 2):=HB hT (by decide) hl (by decide) k2
  have d3:0<=AQ (I7 ps t 0) (I7 ps t 1) (I7 ps t l):=HB hT (by decide) (by decide) hl k3
  exact ⟨d1,d2,d3⟩
theorem GG.v_crn (S:GG ps ts ps' ts' mv fam) (hc:c∈ts') (hp:p<ps'.length) (h:KS ps' c (cor ps' p)):CW c p=true:=by
  obtain ⟨t,ht,L,hL,rfl⟩:=S.v_child hc
  rcases Nat.lt_or_ge p ps.length with hlt|hge
  · have h1:=S.v_up ht hL h
    rw [S.old p hlt] at h1
    obtain ⟨j,hj,rfl⟩:=G7 ht
    obtain ⟨l,hl,e⟩:=Mj (mv:=mv) (JD S.g hlt hj h1)
    have hu:=(S.fok _ ht).cor l hl
    rw [e,(S.v_pt ht (show l<6 by omega) hu).2] at h
    rw [e]
    exact NK (S.v_lab ht hL (by omega) hu h)
  · obtain ⟨s,hs,k,hk,hk6,hu,e⟩:=S.new p hge hp
    have e2:=(S.mid s hs k hk hk6 hu).2.2
    rw [e,e2] at h
    obtain ⟨l,hl,hl6,hul,el⟩:=S.v_mid ht hs hk hk6 hu (S.v_up ht hL h)
    have e3:=(S.mid t ht l hl hl6 hul).2.2
    rw [<-e2,<-el,e3] at h
    rw [e,<-el]
    exact NK (S.v_lab ht hL hl6 hul h)
theorem GG.v_dst (S:GG ps ts ps' ts' mv fam) {p q:Nat} (hp:p<ps'.length) (hq:q<ps'.length) (h:cor ps' p=cor ps' q):p=q:=by
  have one:∀p q,p<ps.length->ps.length<=q->q<ps'.length->cor ps' p≠cor ps' q:=λp q hp hq hq' h=>by
    obtain ⟨s,hs,k,hk,hk6,hu,e⟩:=S.new q hq hq'
    have e2:=(S.mid s hs k hk hk6 hu).2.2
    rw [e,e2,S.old p hp] at h
    have h1:=Pa (S.v_pos hs) hk6
    rw [<-h] at h1
    obtain ⟨j,hj,rfl⟩:=G7 hs
    obtain ⟨l,hl,e4⟩:=Mj (mv:=mv) (JD S.g hp hj h1)
    have e5:=(S.v_pt hs (show l<6 by omega) ((S.fok _ hs).cor l hl)).2
    rw [<-e4,S.old p hp] at e5
    have:=QT (S.v_pos hs) (show l<6 by omega) hk6 (e5.symm.trans h)
    omega
  rcases Nat.lt_or_ge p ps.length with hpl|hpg<;>rcases Nat.lt_or_ge q ps.length with hql|hqg
  · rw [S.old p hpl,S.old q hql] at h
    exact Sg S.g hpl hql h
  · exact absurd h (one p q hpl hqg hq)
  · exact absurd h.symm (one q p hql hpg hp)
  · obtain ⟨s,hs,k,hk,hk6,hu,e⟩:=S.new p hpg hp
    obtain ⟨t,ht,l,hl,hl6,hul,e'⟩:=S.new q hqg hq
    have e2:=(S.mid s hs k hk hk6 hu).2.2
    have e3:=(S.mid t ht l hl hl6 hul).2.2
    rw [e,e2,e',e3] at h
    have h1:=Pa (S.v_pos ht) hl6
    rw [<-h] at h1
    obtain ⟨l0,h0,h06,hu0,e0⟩:=S.v_mid ht hs hk hk6 hu h1
    have e4:=(S.mid t ht l0 h0 h06 hu0).2.2
    rw [e0,e2,h] at e4
    have:=QT (S.v_pos ht) hl6 h06 e4
    rw [e,e',<-e0,this]
theorem GG.v_use (S:GG ps ts ps' ts' mv fam) (hp:p<ps'.length):∃c∈ts',CW c p=true:=by
  have fin:∀t∈ts,∀l,HJ (fam t) l=true->∃c∈ts',CW c (Fo mv t l)=true:=λt ht l hu=>by
    obtain ⟨L,hL,h⟩:=List.any_eq_true.1 hu
    exact ⟨DQ mv t L,by rw [S.cut];exact List.mem_flatMap.2 ⟨t,ht,List.mem_map_of_mem hL⟩,NK h⟩
  rcases Nat.lt_or_ge p ps.length with hlt|hge
  · obtain ⟨j,hj,h⟩:=Id S.g hlt
    obtain ⟨l,hl,e⟩:=Mj (mv:=mv) h
    rw [e]
    exact fin _ (G0 hj) l ((S.fok _ (G0 hj)).cor l hl)
  · obtain ⟨s,hs,k,hk,hk6,hu,e⟩:=S.new p hge hp
    rw [e]
    exact fin s hs k hu
theorem GG.chk {ss':List T3} (S:GG ps ts ps' ts' mv fam) (hpl:ps'.length<=4096) (htl:ts'.length<=8192) (hsl:ss'.length<=24576) (h0:0<ts'.length) (hz:∀k,Bo (cor ps' k)<=1000) (hn:B5 ps'.length ts'=true)
    (hs:∀s∈ss',s.1<ps'.length/\s.2.1<ps'.length/\s.2.2<=255) (hr:ss'.map (λs=>(s.1,s.2.1))=(Bt ts').map λs=>(s.1,s.2.1)):Kk ps' ts' ss' where
  pl:=hpl
  tl:=htl
  t0:=h0
  sl:=hsl
  sz:=hz
  num:=hn
  pos j hj:=by
    obtain ⟨t,ht,L,hL,e⟩:=S.v_child (G0 hj)
    rw [e]
    exact M1 (S.v_cpos ht hL)
  sid j hj:=hs _ (G0 hj)
  use p hp:=by
    obtain ⟨c,hc,h⟩:=S.v_use hp
    obtain ⟨j,hj,e⟩:=G7 hc
    exact ⟨j,hj,by rw [e];exact h⟩
  dst:=List.pairwise_iff_getElem.2 λi j hi hj hij e=>by
    have:=S.v_dst hi hj (by unfold cor;rw [List.getD,List.getD,List.getElem?_eq_getElem hi,List.getElem?_eq_getElem hj];exact e)
    omega
  apart i k hi hk:=by
    have h:=List.pairwise_iff_getElem.1 S.v_bb k i (by omega) hi hk
    rw [<-show ts'.getD k (0,0,0)=ts'[k] by rw [List.getD,List.getElem?_eq_getElem (by omega)];rfl,<-show ts'.getD i (0,0,0)=ts'[i] by rw [List.getD,List.getElem?_eq_getElem hi];rfl] at h
    rcases h with h|h
    · rw [XP (A:=Br ps' (ts'.getD k (0,0,0))) (B:=Br ps' (ts'.getD i (0,0,0))) h];simp
    · rw [XP (A:=Br ps' (ts'.getD i (0,0,0))) (B:=Br ps' (ts'.getD k (0,0,0))) h];simp
  crn i p hi hp hn:=by
    have hm:=G0 hi
    obtain ⟨t,ht,L,hL,e⟩:=S.v_child hm
    refine (Lz (by rw [e];exact S.v_cpos ht hL)).2 λh=>?_
    rw [S.v_crn hm hp h] at hn
    cases hn
  rl:=by have h:=congrArg List.length hr;simpa using h
  rim j hj:=by
    have hl:=congrArg List.length hr
    simp only [List.length_map] at hl
    have h:=congrArg (λl:List (Nat×Nat)=>l[j]?) hr
    simp only [List.getElem?_map,List.getElem?_eq_getElem hj,List.getElem?_eq_getElem (show j<(Bt ts').length by omega),Option.map_some,Option.some.injEq,Prod.mk.injEq] at h
    rw [List.getD,List.getD,List.getElem?_eq_getElem hj,List.getElem?_eq_getElem (show j<(Bt ts').length by omega)]
    exact h
end
end
section
def Z4 (u v p:Pt):Prop:=AQ u v p=0/\¬Pj p (aS u v)/\¬Pj (aF u v) p
instance (u v p:Pt):Decidable (Z4 u v p):=by unfold Z4;infer_instance
section
variable {u v p q:Pt}
end
section
variable {ps:List Pt} {ts:List T3}
end
end
section
abbrev Qt (ps:List Pt) (l:List E4):List (P2×Nat):=Ed ps.length l l.length
section
variable {ps:List Pt} {es:List E4} {N:Nat} {ss:List T3}
theorem Jo:∀i,i<=es.length->Ij ps es i=ps++(es.take i).map (Y0 ps)
  | 0,_=>by simp [Ij]
  | i+1,h=>by
    rw [Ij,Jo i (by omega),D0 (d:=E0) (show i<es.length by omega),List.map_append,List.append_assoc];rfl
theorem Xe {i:Nat} (h:i<ps.length):(FF ps es).getD i ⟨0,0⟩=ps.getD i ⟨0,0⟩:=by
  unfold FF
  rw [Jo _ (Nat.le_refl _),List.getD,List.getElem?_append_left h];rfl
theorem SW {j:Nat} (h:j<es.length):(FF ps es).getD (ps.length+j) ⟨0,0⟩=Y0 ps (es.getD j E0):=by
  unfold FF
  rw [Jo _ (Nat.le_refl _),List.take_length,List.getD,List.getElem?_append_right (by omega),show ps.length+j-ps.length=j by omega,List.getElem?_map,List.getD,List.getElem?_eq_getElem h];rfl
theorem Jv {k:P2} (hk:k.2<N):∀i,Ar (Dq N ss es i) k=Ar (FH N ss ss.length) k
  | 0=>rfl
  | i+1=>by
    have ne:∀a,k≠Bh a (N+i):=λa e=>by
      rw [e] at hk
      unfold Bh at hk
      simp only at hk
      omega
    show Ar (BZ (BZ _ _ _) _ _) k=_
    rw [B6,if_neg (ne _),B6,if_neg (ne _),Jv hk i]
theorem Nk {j x:Nat} (hj:(es.getD j E0).a<N/\(es.getD j E0).b<N) (hx:x=(es.getD j E0).a\/x=(es.getD j E0).b):∀i,j<i->Ar (Dq N ss es i) (x,N+j)=some ((Ar (FH N ss ss.length) (Bh (es.getD j E0).a (es.getD j E0).b)).getD 0)
  | 0,h=>absurd h (Nat.not_lt_zero _)
  | i+1,h=>by
    show Ar (BZ (BZ _ _ _) _ _) _=_
    rw [B6,B6]
    rcases Nat.lt_or_ge j i with h1|h1
    · have ne:∀a,((x,N+j):P2)≠Bh a (N+i):=λa e=>by
        have:=congrArg Prod.snd e
        unfold Bh at this
        simp only at this
        omega
      rw [if_neg (ne _),if_neg (ne _),Nk hj hx i h1]
    · have e:i=j:=by omega
      subst e
      have hv:=Jv (ss:=ss) (es:=es) (N:=N) (k:=Bh (es.getD i E0).a (es.getD i E0).b) (by unfold Bh;simp only;omega) i
      rw [hv,(GM hj.1 (Nat.le_add_right N i)).2,(GM hj.2 (Nat.le_add_right N i)).2]
      split
      · rfl
      · rename_i h2
        rw [if_pos]
        rcases hx with rfl|rfl
        · rfl
        · exact absurd rfl h2
end
section
variable {ps:List Pt} {ts ss:List T3} {l:List E4} {ms:List Int}
end
end
section
section
variable {f g:Nat->Nat} {K:Nat}
end
section
variable {ps pf:List Pt} {fs:List T3} {k:T3} {i:Nat}
end
section
variable {ps:List Pt} {ts ss:List T3} {l:List E4} {ms:List Int}
end
end
end Go.Proofs.YtfbomiejpbchdaaGreat
