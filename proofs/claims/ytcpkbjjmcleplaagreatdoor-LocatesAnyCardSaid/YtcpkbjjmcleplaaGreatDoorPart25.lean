import Derived.Lib.SliceRun
import Derived.Maps.RangeRun
import Derived.DeepKeys4
import Derived.Maps.Keyed
import Derived.LaidMore
import Derived.Test.YtcpkbjjmcleplaaGreatDoorPart22
import Derived.Test.YtcpkbjjmcleplaaGreatDoorPart24
namespace Go.Proofs.YtcpkbjjmcleplaaGreatDoor
open Go Go.RowKit Go.Proofs.Tryz
open Go.Value renaming slice→qz,bool→qa
set_option linter.unusedVariables false
set_option linter.unusedSimpArgs false
theorem X3 {w w':World} (h:E8 w.heap.size w w'):∃(q:Nat) (os:Array Obj),w'=Go.Sort.grow (w.drewN q) os:=by
  refine ⟨w'.drawn-w.drawn,w'.heap.extract w.heap.size w'.heap.size,?_⟩
  have h1:=h.os;have h2:=h.tape;have h3:=h.output;have h4:=h.size;have h5:=h.block;have h6:=h.drawn
  have hh:w'.heap=w.heap++w'.heap.extract w.heap.size w'.heap.size:=by
    apply Array.ext_getElem?
    intro i
    rw [Array.getElem?_append]
    split
    · rename_i hi;exact h5 i hi
    · rename_i hi
      rw [Array.getElem?_extract]
      split
      · congr 1;omega
      · rename_i hj;rw [Array.getElem?_eq_none Z]
  obtain ⟨hp,tp,dr,os,out⟩:=w'
  obtain ⟨hp0,tp0,dr0,os0,out0⟩:=w
  simp only at h1 h2 h3 h4 h6 hh
  subst h1;subst h2;subst h3
  show World.mk hp tp dr os out=World.mk (hp0++hp.extract hp0.size hp.size) tp (dr0+(dr-dr0)) os out
  rw [<-hh,show dr0+(dr-dr0)=dr by omega]
theorem C2 {α:Type} {enc:α->List Value} {z:Nat} (h:∀x,(enc x).length=z) (d:α) (xs:List α) (j r k:Nat) (hj:j<xs.length) (hr:r+k<=z) {vs:List Value} (hv:((enc (xs.getD j d)).drop r).take k=vs):((rowsL enc xs).drop (j*z+r)).take k=vs:=by
  have h1:=BG h d xs j hj
  rw [<-hv,<-h1,List.drop_take,List.take_take,List.drop_drop,Nat.min_eq_left Z]
section
def XB:List Pt:=[⟨0,0⟩,⟨1,0⟩,⟨1,1⟩,⟨0,1⟩]
def UZ:List (Tq3):=[(0,1,2),(0,2,3)]
theorem WK {b n:Nat}:BI (jk b) n n:=⟨(λe=>by cases e),(λa e=>by injection e with e;rw [<-e]),Nat.le_refl _⟩
theorem ax:BI none 0 0:=⟨λ_=>⟨rfl,rfl⟩,(λa e=>by cases e),Nat.le_refl _⟩
def HP (b b':Nat):MX XB UZ []:=⟨⟨some ⟨b,0,none⟩,4,WK⟩,⟨some ⟨b',0,none⟩,2,WK⟩,⟨none,0,ax⟩⟩
theorem JO {w0:Av} {S:Nat->Prop} {b b':Nat} (h:w0.w.heap.size<=b) (h':w0.w.heap.size<=b'):At w0 S (HP b b'):=λy hy c e=>by
  have hy:y∈[(HP b b').a.row,(HP b b').b.row,(HP b b').c.row]:=hy
  simp only [xL,List.not_mem_nil,or_false] at hy
  rcases hy with rfl|rfl|rfl
  · injection e with e;subst e;exact .inl h
  · injection e with e;subst e;exact .inl h'
  · cases e
theorem JW:∀i,BD (BJ XB i)<=4
  | 0=>by decide +kernel
  | 1=>by decide +kernel
  | 2=>by decide +kernel
  | 3=>by decide +kernel
  | i+4=>by show BD ⟨0,0⟩<=4;decide +kernel
theorem Ws:∀j,j<UZ.length->AF (BJ XB (UZ.getD j (0,0,0)).1) (BJ XB (UZ.getD j (0,0,0)).2.1) (BJ XB (UZ.getD j (0,0,0)).2.2)≠0
  | 0,_=>by decide +kernel
  | 1,_=>by decide +kernel
  | j+2,h=>absurd h (by simp [UZ])
section
variable {P:Program} {ops:Array Oper} {rest:List Oper} {Q:Exit->Act->World->Prop} {n:Nat} {F:List (Nat×Value)} {w0:Av} {L:List As}
theorem AO.mesh4 {b1 b b' T1 T T':Nat} {cs1 cs cs':List Value} (h1:cs1=DM (HP b b')) (h:cs=rowsL Ae XB) (h':cs'=rowsL Bk UZ) (hex:w0.ex=none)
    (next:w0.w.heap.size<=b->w0.w.heap.size<=b'->AO P ops rest Q n F w0 [AQ b1 T1 (DM (HP b b')),(HP b b').a.row,(HP b b').b.row,(HP b b').c.row]):AO P ops rest Q n F w0 [AQ b1 T1 cs1,AQ b' T' cs',AQ b T cs]:=by
  subst h1 h h'
  refine yg 1 O hex λhb'=>yg 2 O hex λhb=>λa w ha hw=>next hb hb' a w ha ?_
  have k:=hw.addRo (a:=(HP b b').c.row) (E8.refl _ _) rfl (λc e=>by cases e) (λc e=>by cases e)
  refine k.perm ?_
  show [(HP b b').c.row,AQ b1 T1 (DM (HP b b')),(HP b b').b.row,(HP b b').a.row].Perm _
  refine (List.perm_middle (l₁:=[AQ b1 T1 (DM (HP b b'))]) (a:=(HP b b').c.row) (l₂:=[(HP b b').b.row,(HP b b').a.row])).symm.trans ?_
  refine List.Perm.cons _ ?_
  exact (List.reverse_perm [(HP b b').a.row,(HP b b').b.row,(HP b b').c.row])
end
end

section
theorem Iz {q:Rat}:q.num.sign=1↔0<q:=by
  rw [N1,Tn]
  split
  · exact ⟨λh=>by simp at h,λh=>by grind⟩
  · split
    · exact ⟨λh=>by simp at h,λh=>by grind⟩
    · exact ⟨λ_=>by grind,λ_=>rfl⟩
theorem B1 {q:Rat}:q.num.sign = -1↔q<0:=by
  rw [N1,Tn]
  split
  · exact ⟨λ_=>by assumption,λ_=>rfl⟩
  · split
    · exact ⟨λh=>by simp at h,λh=>by grind⟩
    · exact ⟨λh=>by simp at h,λh=>by grind⟩
theorem N2 {q:Rat}:q.num.sign=0↔q=0:=by
  rw [N1,Tn]
  split
  · exact ⟨λh=>by simp at h,λh=>by grind⟩
  · split
    · exact ⟨λ_=>by assumption,λ_=>rfl⟩
    · exact ⟨λh=>by simp at h,λh=>by grind⟩
theorem Hj (x y:Rat):(x<y/\Hv x y=y)\/(y<=x/\Hv x y=x):=by
  unfold Hv
  by_cases h:x<y
  · rw [if_pos (GV.2 h)];exact .inl ⟨h,rfl⟩
  · rw [if_neg (λe=>h (GV.1 e))];exact .inr ⟨by grind,rfl⟩
theorem IW {u d:Rat} (h:d≠0):(-u/d)*d = -u:=Rat.div_mul_cancel h
theorem PL {u d s k:Rat} (hd:0<d) (hk:k*d = -u):(k<=s↔0<=u+d*s)/\(k<s↔0<u+d*s):=by
  have e:u+d*s=(s-k)*d:=by grind
  rw [e]
  refine ⟨⟨λh=>Rat.mul_nonneg (by grind) (by grind),λh=>?_⟩,⟨λh=>Rat.mul_pos (by grind) hd,λh=>?_⟩⟩
  · rcases DB s k with h1|h1
    · have:=Rat.mul_pos (show 0<k-s by grind) hd;grind
    · exact h1
  · rcases DB k s with h1|h1
    · exact h1
    · have:=Rat.mul_nonneg (show 0<=k-s by grind) (show 0<=d by grind);grind
theorem WJ {u d s k:Rat} (hd:d<0) (hk:k*d = -u):(s<=k↔0<=u+d*s)/\(s<k↔0<u+d*s):=by
  have h:=PL (u:=u) (d := -d) (s := -s) (k := -k) (by grind) (by grind)
  have e:u + -d * -s=u+d*s:=by grind
  rw [e] at h
  exact ⟨⟨λa=>h.1.1 (by grind),λa=>by have:=h.1.2 a;grind⟩,⟨λa=>h.2.1 (by grind),λa=>by have:=h.2.2 a;grind⟩⟩
theorem Zx {u v:Rat} (h:De u v=false) (h1:¬0<v-u) (h2:¬v-u<0):v-u=0/\0<=u:=by
  refine ⟨by grind,?_⟩
  unfold De at h
  rw [xz (λe=>h1 (Iz.1 e)),xz (λe=>h2 (B1.1 e))] at h
  have h3:¬u.num.sign<0:=by simpa using h
  have h4:¬u.num.sign = -1:=λe=>h3 (by rw [e];decide)
  rw [B1] at h4
  grind
theorem NP {u v s:Rat} (h:0<=u+(v-u)*s):De u v=false:=by
  cases hb:De u v with
  | false=>rfl
  | true =>
    unfold De at hb
    simp only [xZ,xV,xS,xT] at hb
    obtain ⟨⟨h1,h2⟩,h3⟩:=hb
    rw [Iz] at h1
    rw [B1] at h2
    have h4:u.num.sign = -1:=by rcases To u.num with e|e|e<;>omega
    rw [B1] at h4
    have e:v-u=0:=by grind
    rw [e] at h
    grind
theorem GF {u v f t:Rat} (hb:De u v=false) :
    (∀s,(CB u v (f,t)).1<=s->s<=(CB u v (f,t)).2->f<=s/\s<=t/\0<=u+(v-u)*s) /\
    (∀s,f<=s->s<=t->(f=s->s=0)->(t=s->s=1)->0<u+(v-u)*s->(CB u v (f,t)).1<=s/\s<=(CB u v (f,t)).2/\((CB u v (f,t)).1=s->s=0)/\((CB u v (f,t)).2=s->s=1)):=by
  unfold CB
  by_cases h1:0<v-u
  · rw [if_pos (Iz.2 h1)]
    have hk:=IW (u:=u) (d:=v-u) (by grind)
    generalize -u/(v-u)=k at *
    have r:=λs=>PL (u:=u) (s:=s) h1 hk
    dsimp only
    rcases Hj f k with ⟨g1,g2⟩|⟨g1,g2⟩<;>rw [g2]
    · exact ⟨λs a b=>⟨by grind,b,(r s).1.1 a⟩,λs a b c d e=>⟨by have:=(r s).2.2 e;grind,b,λe2=>by have:=(r s).2.2 e;grind,d⟩⟩
    · exact ⟨λs a b=>⟨a,b,(r s).1.1 (by grind)⟩,λs a b c d e=>⟨a,b,c,d⟩⟩
  · rw [if_neg (λe=>h1 (Iz.1 e))]
    by_cases h2:v-u<0
    · rw [if_pos (B1.2 h2)]
      have hk:=IW (u:=u) (d:=v-u) (by grind)
      generalize -u/(v-u)=k at *
      have r:=λs=>WJ (u:=u) (s:=s) h2 hk
      dsimp only
      rcases Hj (-t) (-k) with ⟨g1,g2⟩|⟨g1,g2⟩<;>rw [g2]
      · exact ⟨λs a b=>⟨a,by grind,(r s).1.1 (by grind)⟩,λs a b c d e=>⟨a,by have:=(r s).2.2 e;grind,c,λe2=>by have:=(r s).2.2 e;grind⟩⟩
      · exact ⟨λs a b=>⟨a,by grind,(r s).1.1 (by grind)⟩,λs a b c d e=>⟨a,by grind,c,λe2=>d (by grind)⟩⟩
    · rw [if_neg (λe=>h2 (B1.1 e))]
      obtain ⟨e0,e1⟩:=Zx hb h1 h2
      exact ⟨λs a b=>⟨a,b,by rw [e0];grind⟩,λs a b c d e=>⟨a,b,c,d⟩⟩
section
variable {u0 v0 u1 v1 u2 v2:Rat}
theorem Le (h:(Bo u0 v0 u1 v1 u2 v2).2.2=true):De u0 v0=false/\De u1 v1=false/\De u2 v2=false/\Bo u0 v0 u1 v1 u2 v2=((CB u2 v2 (CB u1 v1 (CB u0 v0 (0,1)))).1,(CB u2 v2 (CB u1 v1 (CB u0 v0 (0,1)))).2,true)/\(CB u2 v2 (CB u1 v1 (CB u0 v0 (0,1)))).1<(CB u2 v2 (CB u1 v1 (CB u0 v0 (0,1)))).2:=by
  unfold Bo at h ⊢
  cases h0:De u0 v0 with
  | true=>rw [h0] at h;cases h
  | false =>
    cases h1:De u1 v1 with
    | true=>rw [h0,h1] at h;cases h
    | false =>
      cases h2:De u2 v2 with
      | true=>rw [h0,h1,h2] at h;cases h
      | false =>
        rw [h0,h1,h2] at h
        have h3:decide (BK (CB u2 v2 (CB u1 v1 (CB u0 v0 (0,1)))).1 (CB u2 v2 (CB u1 v1 (CB u0 v0 (0,1)))).2<0)=true:=h
        refine ⟨rfl,rfl,rfl,?_,GV.1 (xR h3)⟩
        simp only [Bool.false_eq_true,if_false,h3]
theorem NC (h:(Bo u0 v0 u1 v1 u2 v2).2.2=true):0<=(Bo u0 v0 u1 v1 u2 v2).1/\(Bo u0 v0 u1 v1 u2 v2).1<(Bo u0 v0 u1 v1 u2 v2).2.1/\(Bo u0 v0 u1 v1 u2 v2).2.1<=1 /\
    ∀s,(Bo u0 v0 u1 v1 u2 v2).1<=s->s<=(Bo u0 v0 u1 v1 u2 v2).2.1->0<=u0+(v0-u0)*s/\0<=u1+(v1-u1)*s/\0<=u2+(v2-u2)*s:=by
  obtain ⟨b0,b1,b2,e,hlt⟩:=Le h
  rw [e]
  dsimp only
  have a2:=(GF (f:=(CB u1 v1 (CB u0 v0 (0,1))).1) (t:=(CB u1 v1 (CB u0 v0 (0,1))).2) b2).1
  have a1:=(GF (f:=(CB u0 v0 (0,1)).1) (t:=(CB u0 v0 (0,1)).2) b1).1
  have a0:=(GF (f:=0) (t:=1) b0).1
  have all:∀s,(CB u2 v2 (CB u1 v1 (CB u0 v0 (0,1)))).1<=s->s<=(CB u2 v2 (CB u1 v1 (CB u0 v0 (0,1)))).2->(0<=s/\s<=1)/\0<=u0+(v0-u0)*s/\0<=u1+(v1-u1)*s/\0<=u2+(v2-u2)*s:=λs h1 h2=>by
    obtain ⟨c1,c2,c3⟩:=a2 s h1 h2
    obtain ⟨d1,d2,d3⟩:=a1 s c1 c2
    obtain ⟨e1,e2,e3⟩:=a0 s d1 d2
    exact ⟨⟨e1,e2⟩,e3,d3,c3⟩
  exact ⟨(all _ (by grind) (by grind)).1.1,hlt,(all _ (by grind) (by grind)).1.2,λs h1 h2=>(all s h1 h2).2⟩
theorem KV {s:Rat} (h0:0<=s) (h1:s<=1) (l0:0<u0+(v0-u0)*s) (l1:0<u1+(v1-u1)*s) (l2:0<u2+(v2-u2)*s):(Bo u0 v0 u1 v1 u2 v2).2.2=true/\(Bo u0 v0 u1 v1 u2 v2).1<=s/\s<=(Bo u0 v0 u1 v1 u2 v2).2.1:=by
  have b0:=NP (u:=u0) (v:=v0) (s:=s) (by grind)
  have b1:=NP (u:=u1) (v:=v1) (s:=s) (by grind)
  have b2:=NP (u:=u2) (v:=v2) (s:=s) (by grind)
  obtain ⟨c1,c2,c3,c4⟩:=(GF (f:=0) (t:=1) b0).2 s h0 h1 (λe=>e.symm) (λe=>e.symm) l0
  obtain ⟨d1,d2,d3,d4⟩:=(GF (f:=(CB u0 v0 (0,1)).1) (t:=(CB u0 v0 (0,1)).2) b1).2 s c1 c2 c3 c4 l1
  obtain ⟨e1,e2,e3,e4⟩:=(GF (f:=(CB u1 v1 (CB u0 v0 (0,1))).1) (t:=(CB u1 v1 (CB u0 v0 (0,1))).2) b2).2 s d1 d2 d3 d4 l2
  have e:Bo u0 v0 u1 v1 u2 v2=((CB u2 v2 (CB u1 v1 (CB u0 v0 (0,1)))).1,(CB u2 v2 (CB u1 v1 (CB u0 v0 (0,1)))).2,decide (BK (CB u2 v2 (CB u1 v1 (CB u0 v0 (0,1)))).1 (CB u2 v2 (CB u1 v1 (CB u0 v0 (0,1)))).2<0)):=by
    rw [Bo,b0,b1,b2];rfl
  rw [e]
  refine ⟨xE (GV.2 ?_),e1,e2⟩
  rcases DB (CB u2 v2 (CB u1 v1 (CB u0 v0 (0,1)))).1 (CB u2 v2 (CB u1 v1 (CB u0 v0 (0,1)))).2 with h|h
  · exact h
  · have x1:=e3 (by grind)
    have x2:=e4 (by grind)
    grind
end
end
section
def Ez (a b:Pt) (s:Rat):Pt:=a+Bg (b-a) s
section
variable (a b A B C:Pt) (s:Rat)
theorem T0:AF (Ez a b s) B C=AF a B C+(AF b B C-AF a B C)*s:=by simp only [Ez,B2,Kf,Kg,Gp,Gq,G2,G3];grind
theorem T7:AF A (Ez a b s) C=AF A a C+(AF A b C-AF A a C)*s:=by simp only [Ez,B2,Kf,Kg,Gp,Gq,G2,G3];grind
theorem T8:AF A B (Ez a b s)=AF A B a+(AF A B b-AF A B a)*s:=by simp only [Ez,B2,Kf,Kg,Gp,Gq,G2,G3];grind
end
theorem YK (a b:Pt) (f t:Rat):F9 a b f t=Ez a b ((f+t)*(1/2)):=by
  unfold F9 Ez
  rw [show (((1:Int):Rat)/((2:Int):Rat))*(f+t)=(f+t)*(1/2) by rw [show ((1:Int):Rat)=1 from rfl,show ((2:Int):Rat)=2 from rfl];grind]
section
variable {ps:List Pt} {T:Tq3} {a b q:Pt}
theorem Zs.c (h:Zs ps T q):bY ps T q:=by
  obtain ⟨h1,h2,h3⟩:=h
  exact ⟨by grind,by grind,by grind⟩
theorem Pi {x y z:Rat}:Em x y z=0↔¬(0<=x/\0<=y/\0<=z):=by
  unfold Em
  split
  · rename_i h
    rw [B1,B1,B1] at h
    exact ⟨λ_=>by grind,λ_=>rfl⟩
  · rename_i h
    rw [B1,B1,B1] at h
    exact ⟨λh=>by omega,λh=>by exfalso;apply h;grind⟩
theorem RI {x:Rat} (h:0<=x):zq x=0↔0<x:=by
  by_cases e:x=0
  · rw [OF (N2.2 e)];grind
  · rw [KW (λk=>e (N2.1 k))];grind
theorem Q_ {x y z:Rat}:Em x y z=1↔0<x/\0<y/\0<z:=by
  unfold Em
  split
  · rename_i h
    rw [B1,B1,B1] at h
    exact ⟨λh=>by omega,λh=>by grind⟩
  · rename_i h
    rw [B1,B1,B1] at h
    have hx:=RI (x:=x) (by grind)
    have hy:=RI (x:=y) (by grind)
    have hz:=RI (x:=z) (by grind)
    rw [<-hx,<-hy,<-hz]
    omega
end
section
variable {ps:List Pt} {ts:List (Tq3)} {a b:Pt}
end
section
variable {ps:List Pt} {ts:List (Tq3)} {a b:Pt}
end
theorem F3 {x y:Pc}:G5 x y<0↔x.lo<y.lo\/(x.lo=y.lo/\x.tri<y.tri):=by
  unfold G5
  by_cases h:BK x.lo y.lo=0
  · rw [if_neg (by simpa using h)]
    have e:=IU.1 h
    unfold GU
    constructor
    · intro k;refine .inr ⟨e,?_⟩;by_cases h1:x.tri<y.tri
      · exact h1
      · rw [if_neg h1] at k;split at k<;>omega
    · rintro (k|⟨_,k⟩)
      · rw [e] at k;exact absurd k (by grind)
      · rw [if_pos k];decide
  · rw [if_pos h,GV]
    exact ⟨λk=>.inl k,λk=>k.elim id λk=>absurd (IU.2 k.1) h⟩
def S8 (x:Pc):List Pc->List Pc
  | []=>[x]
  | y::r=>if G5 x y<0 then x::y::r else y::S8 x r
def J_:List Pc->List Pc
  | []=>[]
  | x::r=>S8 x (J_ r)
def Md (x y:Pc):Prop:=¬G5 y x<0
theorem JI (x:Pc):∀l,(S8 x l).Perm (x::l)
  | []=>List.Perm.refl _
  | y::r=>by
    unfold S8
    split
    · exact List.Perm.refl _
    · exact (List.Perm.cons y (JI x r)).trans (List.Perm.swap x y r)
theorem GE:∀l,(J_ l).Perm l
  | []=>List.Perm.refl _
  | x::r=>(JI x (J_ r)).trans (List.Perm.cons x (GE r))
theorem Hm {x y:Pc}:Md x y↔x.lo<y.lo\/(x.lo=y.lo/\x.tri<=y.tri):=by
  unfold Md
  rw [F3]
  constructor
  · intro h
    rcases DB x.lo y.lo with k|k
    · exact .inl k
    · refine .inr ?_
      have h1:¬y.lo<x.lo:=λe=>h (.inl e)
      have e:x.lo=y.lo:=by grind
      exact ⟨e,by
        rcases Nat.lt_or_ge y.tri x.tri with k2|k2
        · exact absurd (.inr ⟨e.symm,k2⟩) h
        · exact k2⟩
  · rintro h (k|⟨k1,k2⟩)
    · rcases h with h|⟨h,_⟩<;>grind
    · rcases h with h|⟨_,h⟩
      · grind
      · omega
theorem Md.trans {x y z:Pc} (h:Md x y) (k:Md y z):Md x z:=by
  rw [Hm] at *
  rcases h with h|⟨h1,h2⟩<;>rcases k with k|⟨k1,k2⟩
  · exact .inl (by grind)
  · exact .inl (by grind)
  · exact .inl (by grind)
  · exact .inr ⟨by grind,Z⟩
theorem Ju (x:Pc):∀l,l.Pairwise Md->(S8 x l).Pairwise Md
  | [],_=>List.pairwise_singleton _ _
  | y::r,h=>by
    obtain ⟨h1,h2⟩:=List.pairwise_cons.1 h
    unfold S8
    split
    · rename_i k
      have hxy:Md x y:=by
        rw [Hm]
        rcases F3.1 k with k|⟨k1,k2⟩
        · exact .inl k
        · exact .inr ⟨k1,Z⟩
      refine List.pairwise_cons.2 ⟨λz hz=>?_,h⟩
      rcases xL.1 hz with rfl|hz
      · exact hxy
      · exact hxy.trans (h1 z hz)
    · rename_i k
      refine List.pairwise_cons.2 ⟨λz hz=>?_,Ju x r h2⟩
      rcases xL.1 ((JI x r).mem_iff.1 hz) with rfl|hz
      · exact k
      · exact h1 z hz
theorem J0:∀l,(J_ l).Pairwise Md
  | []=>List.Pairwise.nil
  | x::r=>Ju x _ (J0 r)
theorem PZ:∀{l:List Pc},l.Pairwise (λx y=>x.tri≠y.tri)->∀x∈l,∀y∈l,x.tri=y.tri->x=y
  | z::r,h,x,hx,y,hy,e=>by
    obtain ⟨h1,h2⟩:=List.pairwise_cons.1 h
    rcases xL.1 hx with ex|hx'<;>rcases xL.1 hy with ey|hy'
    · rw [ex,ey]
    · rw [ex] at e;exact absurd e (h1 y hy')
    · rw [ey] at e;exact absurd e.symm (h1 x hx')
    · exact PZ h2 x hx' y hy' e
theorem ND {l l':List Pc} (hp:l'.Perm l) (hs:l'.Pairwise Md) (hn:l.Pairwise (λx y=>x.tri≠y.tri)):l'=J_ l:=by
  refine List.Perm.eq_of_pairwise (le:=Md) (λx y hx hy h1 h2=>?_) hs (J0 l) (hp.trans (GE l).symm)
  refine PZ hn x (hp.mem_iff.1 hx) y ((GE l).mem_iff.1 hy) ?_
  rw [Hm] at h1 h2
  rcases h1 with h1|⟨e1,h1⟩<;>rcases h2 with h2|⟨e2,h2⟩<;>first|omega|(exfalso;grind)
section
variable {ps:List Pt} {ts:List (Tq3)} {a b:Pt} {n:Nat}
def WG (ps:List Pt) (ts:List (Tq3)) (a b:Pt) (n:Nat):List Pc:=J_ (BW ps ts a b n)
end
section
variable {ps:List Pt} {ts:List (Tq3)} {a b q:Pt}
end
end
section
def ZR (p:Pc):Prop:=Sz p.lo<=400/\Sz p.hi<=400
abbrev bN:={p:Pc // ZR p}
instance:Inhabited bN:=⟨⟨⟨0,0,0⟩,by show Sz (0:Rat)<=400;decide +kernel,by show Sz (0:Rat)<=400;decide +kernel⟩⟩
theorem fX:∀xs:List Pc,(∀x∈xs,ZR x)->∃ds:List bN,ds.map (·.1)=xs
  | [],_=>⟨[],rfl⟩
  | x::r,h=>by
    obtain ⟨ds,e⟩:=fX r λy hy=>h y (List.mem_cons_of_mem _ hy)
    exact ⟨⟨x,h x List.mem_cons_self⟩::ds,by rw [List.map_cons,e]⟩
def MK (x:bN):List Value:=CI x.1
def bf (x y:bN):Int:=G5 x.1 y.1
theorem fG:Go.Sort.SWO (ltOf bf) where
  irrefl x:=xz (by
    unfold bf
    rw [F3]
    rintro (h|⟨_,h⟩)
    · grind
    · omega)
  trans x y z h1 h2:=by
    have h1:=F3.1 (xR h1)
    have h2:=F3.1 (xR h2)
    refine xE (F3.2 ?_)
    rcases h1 with h1|⟨e1,h1⟩<;>rcases h2 with h2|⟨e2,h2⟩
    · exact .inl (by grind)
    · exact .inl (by grind)
    · exact .inl (by grind)
    · exact .inr ⟨by grind,Z⟩
  ntrans x y z h1 h2:=by
    have h1:Md y.1 x.1:=xQ h1
    have h2:Md z.1 y.1:=xQ h2
    exact xz (h2.trans h1)
theorem bh (AQ off size:Nat) (w:World):CmpLays prog 41 #[] MK 11 bf AQ off size w:=λm os dk _ x y=>by
  have hs:Sz x.1.lo+Sz y.1.lo<=1000000:=by have h1:=x.2.1;have h2:=y.2.1;omega
  rw [Array.append_empty]
  exact (SA x.1 y.1 hs _).mono λe w' h=>⟨h.1,X3 h.2⟩
theorem Ox {d:Array bN} {t:Nat} (h:t<d.size*11):(rowsL CI (d.toList.map (·.1)))[t]?=some (Go.Sort.flatK MK 11 d)[t]!:=by
  rw [Go.Sort.get_flatK _ _ _ _ h]
  have h1:t/11<d.size:=by omega
  have h2:=EU C5 (⟨0,0,0⟩:Pc) (d.toList.map (·.1)) (t/11) (t%11) (by simpa using h1) (Nat.mod_lt _ jY) (v:=(MK d[t/11]!)[t%11]!) (by
    rw [List.getD,List.getElem?_map,show d.toList[t/11]?=some d[t/11] from by simp [h1],getElem!_pos d (t/11) h1]
    show (CI (d[t/11]).1)[t%11]?=some (CI (d[t/11]).1)[t%11]!
    have hl:t%11<(CI (d[t/11]).1).length:=by rw [C5];exact Nat.mod_lt _ jY
    rw [xN hl,getElem!_pos (CI (d[t/11]).1) (t%11) hl])
  rw [show t/11*11+t%11=t by omega] at h2
  exact h2
theorem YV (x:bN):∀v∈MK x,v.oneCell'=true:=λv hv=>by
  unfold MK CI AB at hv
  simp only [xL,List.mem_append,List.not_mem_nil,or_false] at hv
  rcases hv with rfl|(rfl|rfl|rfl|rfl|rfl)|(rfl|rfl|rfl|rfl|rfl)<;>rfl
theorem WX (xs:List Pc) (p:Option Addr) (n c:Nat) (T:TypeId) (ho:OwnOk p n c) (hn:n=xs.length) (hN:n<4611686018427387904) (hb:∀x∈xs,ZR x) (ht:xs.Pairwise (λx y=>x.tri≠y.tri)) (w:World) (hrow:∀b,p.map (·.block)=some b->∃o,w.heap[b]?=some o/\(rowW p T 11 n c (rowsL CI xs)).P o) :
    Calls prog 40 #[.slice p n c,.func (.func 41) #[] #[]] w λe w'=>e=.returned (.tuple #[])/\Ka w w' (p.map (·.block))/\∀b,p.map (·.block)=some b->∃o,w'.heap[b]?=some o/\(rowW p T 11 n c (rowsL CI (J_ xs))).P o:=by
  cases hp:p with
  | none =>
    subst hp
    obtain ⟨rfl,rfl⟩:=ho.nil rfl
    exact (PQ w).mono λe w' h=>⟨h.1,Dh h.2 _,λb e=>by cases e⟩
  | some a =>
    subst hp
    obtain ⟨o,hob,cur,rfl,hsz,hcur⟩:=hrow a.block rfl
    have hat:=ho.at0 a rfl
    have hle:=ho.le
    have hmax:=ho.max
    obtain ⟨ds,hds⟩:=fX xs hb
    have hdl:ds.length=n:=by rw [hn,<-hds,xI]
    obtain ⟨d,hd⟩:∃d,d=ds.toArray:=⟨_,rfl⟩
    have hdz:d.size=n:=by rw [hd];simpa using hdl
    have hdx:d.toList.map (·.1)=xs:=by rw [hd];exact hds
    have hH:Go.Sort.HoldsK MK 11 w a.block 0 d:=λj hj=>by
      have hj':j<d.size*11:=by simpa using hj
      refine ⟨?_,by simp [World.frozen?,hob]⟩
      have h1:(cur.toList.take (n*11))[j]?=(rowsL CI xs)[j]?:=by rw [hcur]
      rw [List.getElem?_take_of_lt Z,Array.getElem?_toList,<-hdx,Ox hj'] at h1
      show w.cell? ⟨a.block,0+j,none⟩=some (id (Go.Sort.flatK MK 11 d)[j]!)
      unfold World.cell?
      simp only [hob,Nat.zero_add]
      exact h1
    have hlt:a.block<w.heap.size:=by
      rcases Nat.lt_or_ge a.block w.heap.size with h|h
      · exact h
      · rw [Array.getElem?_eq_none h] at hob;cases hob
    have h:=Tryz.slices_SortFunc_Piece 11 isAgg75 sizeOf75 MK (λx=>C5 x.1) YV bf fG 41 #[] a.block 0 c d w call41 (bh a.block 0 d.size w) hH hlt Z
    rw [hdz] at h
    rw [hat]
    refine h.mono ?_
    rintro e w' ⟨rfl,d',m,os,⟨hz',_,hperm⟩,hsort,rfl⟩
    have hz2:d'.size=n:=by rw [hz',hdz]
    have hperm':d'.toList.Perm d.toList:=by
      have e1:d'.extract 0 n=d':=by rw [<-hz2];exact Array.extract_size
      have e2:d.extract 0 n=d:=by rw [<-hdz];exact Array.extract_size
      rw [e1,e2] at hperm
      exact hperm
    have hres:d'.toList.map (·.1)=J_ xs:=by
      refine ND (by rw [<-hdx];exact hperm'.map _) ?_ ht
      rw [List.pairwise_map]
      refine List.pairwise_iff_getElem.2 λi j hi hj hij=>?_
      have hi':i<d'.size:=by simpa using hi
      have hj':j<d'.size:=by simpa using hj
      have h9:=xQ (hsort i j (xH _) hij Z)
      rw [getElem!_pos d' j hj',getElem!_pos d' i hi'] at h9
      simpa [Md,bf] using h9
    have hF:(Go.Sort.flatK MK 11 d').size=n*11:=by rw [Go.Sort.size_flatK,hz2]
    refine ⟨rfl,⟨⟨rfl,rfl,rfl,by simp [sortWorldK,Go.Sort.grow,Go.Sort.putRowK,Go.Sort.putRow,Go.Sort.mapBlock,Go.Sort.ahead],λj hj hne=>?_⟩,by show w.drawn<=w.drawn+m;omega⟩,λb e=>?_⟩
    · have hne':a.block≠j:=λe=>hne (by rw [e];rfl)
      unfold sortWorldK
      rw [Go.Sort.heap_grow_old _ _ (by simpa [Go.Sort.putRowK,Go.Sort.putRow,Go.Sort.mapBlock,Go.Sort.ahead] using hj)]
      simp [Go.Sort.putRowK,Go.Sort.putRow,Go.Sort.mapBlock,Go.Sort.ahead,Array.getElem?_modify,hne']
    · injection e with e
      subst e
      refine ⟨.cells (Go.Sort.putCells id 0 (Go.Sort.flatK MK 11 d') cur) T (0,0),?_,_,rfl,by simp [Go.Sort.putCells,hsz],?_⟩
      · unfold sortWorldK
        rw [Go.Sort.heap_grow_old _ _ (by simpa [Go.Sort.putRowK,Go.Sort.putRow,Go.Sort.mapBlock,Go.Sort.ahead] using hlt)]
        simp [Go.Sort.putRowK,Go.Sort.putRow,Go.Sort.mapBlock,Go.Sort.ahead,Array.getElem?_modify,hob,Go.Sort.onCells]
      · apply List.ext_getElem?
        intro j
        have hlen:(rowsL CI (J_ xs)).length=n*11:=by rw [<-hres,AV C5,xI,Array.length_toList,hz2]
        by_cases hj:j<n*11
        · have hcs:n*11<=c*11:=Nat.mul_le_mul_right _ hle
          rw [List.getElem?_take_of_lt hj,Array.getElem?_toList,<-hres,Ox (by rw [hz2];exact hj)]
          unfold Go.Sort.putCells
          rw [Array.getElem?_mapIdx,Array.getElem?_eq_getElem Z,Option.map_some,if_pos ⟨xH _,Z⟩]
          rfl
        · rw [List.getElem?_take_eq_none Z,List.getElem?_eq_none Z]
section
variable {ps:List Pt} {ts:List (Tq3)} {a b:Pt}
theorem PA {t:Nat} {T:Tq3} {x:Pc} (h:x∈Gf ps a b t T):x.tri=t:=by
  unfold Gf at h
  split at h
  · split at h
    · rcases xM.1 h with rfl;rfl
    · cases h
  · cases h
theorem SB:∀n,∀x∈BW ps ts a b n,x.tri<n
  | 0,x,h=>by cases h
  | n+1,x,h=>by
    rcases List.mem_append.1 h with h|h
    · have:=SB n x h;omega
    · have:=PA h;omega
theorem PG:∀n,(BW ps ts a b n).Pairwise (λx y=>x.tri≠y.tri)
  | 0=>List.Pairwise.nil
  | n+1=>List.pairwise_append.2 ⟨PG n,by
      have h:=O_ (ps:=ps) (a:=a) (b:=b) (t:=n) (ts.getD n (0,0,0))
      match Gf ps a b n (ts.getD n (0,0,0)),h with
      | [],_=>exact List.Pairwise.nil
      | [x],_=>exact List.pairwise_singleton _ _,λx hx y hy e=>by
      have h1:=SB n x hx
      have h2:=PA hy
      omega⟩
theorem Lf (l:List Pc):(J_ l).length=l.length:=(GE l).length_eq
end
end
def bw (l:List Nat):List Value:=l.map λ(d:Nat)=>vN d
section
set_option maxRecDepth 100000
end
section
def eA (S:Nat->Prop) (W w:World) (G:List As):Prop :=
  (∀x∈G,∀b,x.foot=some b->(W.heap.size<=b\/(x.ro=true/\S b))/\∃o,w.heap[b]?=some o/\x.P o)/\G.Pairwise λx y=>(x.ro=true/\y.ro=true)\/∀b,x.foot=some b->y.foot≠some b
def Pu {α:Type} (V:α->Value) (LW:α->List As) (S:Nat->Prop) (W:World) (e:Ending) (w:World):Prop:=∃a:α,e=.returned (V a)/\E8 W.heap.size W w/\eA S W w (LW a)
def dy (w0:Av) (S:Nat->Prop) (G:List As):Prop:=∀y∈G,y.ro=true->∀b,y.foot=some b->Nw w0 S b
section
variable {w0:Av} {S:Nat->Prop} {w w' W:World} {L G:List As}
theorem dy.row {α:Type} [CT α] {a:α} {x:As} (ha:At w0 S a) (hx:CT.rows a=[x]) (h:dy w0 S G):dy w0 S (x::G):=λy hy hr b e=>by
  rcases xL.1 hy with rfl|hy
  · exact ha y (by rw [hx];exact List.mem_cons_self) b e
  · exact h y hy hr b e
end
section
variable {P:Program} {ops:Array Oper} {rest:List Oper} {Q:Exit->Act->World->Prop} {n d:Nat} {F:List (Nat×Value)} {w0:Av} {S:Nat->Prop} {L:List As} {t:TypeId} {p:String} {af:Array Edge} {y:Operand} {f:FuncId} {xs:List Operand} {args:List Value} {ts:Array TypeId} {α:Type} {V:α->Value} {LW:α->List As}
end
structure OX (T z:Nat) (cs:List Value) (n:Nat) where
  p:Option Addr
  c:Nat
  ok:OwnOk p n c
@[reducible] def gY {T z:Nat} {cs:List Value} {n:Nat} (a:OX T z cs n):Value:=.slice a.p n a.c
@[reducible] def gX {T z:Nat} {cs:List Value} {n:Nat} (a:OX T z cs n):List As:=[rowW a.p T z n a.c cs]
@[reducible] def gW {T z:Nat} {cs:List Value} {n:Nat} (a:OX T z cs n):Value:=.slice a.p n n
theorem Co {α:Type} {enc:α->List Value} (h:∀x,((enc x).all λu=>u.oneCell')=true):∀xs:List α,((rowsL enc xs).all λu=>u.oneCell')=true
  | []=>rfl
  | x::r=>by
    have e:rowsL enc (x::r)=enc x++rowsL enc r:=rfl
    rw [e,List.all_append,h x,Co h r];rfl
section
variable {P:Program} {ops:Array Oper} {rest:List Oper} {Q:Exit->Act->World->Prop} {n d:Nat} {F:List (Nat×Value)} {w0:Av} {S:Nat->Prop} {L L':List As} {t ty T:TypeId} {p:String} {af:Array Edge} {x y:Operand} {dd:Option Tmp} {g:Option (Nat×Bool)} {q:Option Addr} {z m c:Nat} {cs vs:List Value} {v:Value}
theorem yJ {s:Operand} {bytes c2:Nat} {q2:Option Addr} {news:List Value} (ht:ElemT P t T z bytes) (hs:evF F s=some (.slice q 0 c)) (ho:OwnOk q 0 c)
    (hx:evF F x=some (.slice q2 m c2)) (hsrc:XT w0 (rowW q T z 0 c []::L) q2 m news) (hnl:news.length=m*z) (h1:(news.all λu=>u.oneCell')=true) (h63:m<=maxLen) (hbytes:m*bytes<=140737488355328) (hd:Nat.ble (d+1) n=true)
    (next:∀p' c',OwnOk p' m c'->AO P ops rest Q n ((d,.slice p' m c')::F) w0 (rowW p' T z m c' news::L)) :
    AO P ops (⟨some d,.call { callee:=.builtin .append,args:=#[s,x],argTypes:=#[t,t] },ty,p,af,none⟩::rest) Q n F w0 (rowW q T z 0 c []::L):=by
  refine yo (cs2:=news) ht hs ho jX hx hsrc hnl h1 (by rw [Nat.zero_add];exact h63) (by rw [Nat.zero_add];exact hbytes) O hd λp' c' h=>?_
  rw [Nat.zero_add] at h ⊢
  exact next p' c' h
theorem At.new {n:Nat} {cs:List Value} {a:RX cs n} (h:∀b,a.p.map (·.block)=some b->w0.w.heap.size<=b):At w0 S a:=λy hy b e=>by
  rcases xM.1 hy with rfl
  exact .inl (h b e)
end
structure fj (ps:List Pt) (ts ss:List (Tq3)) where
  a:OX 62 10 (rowsL Ae ps) ps.length
  b:OX 64 3 (rowsL Bk ts) ts.length
  c:OX 96 3 (rowsL Bk ss) ss.length
@[reducible] def gU {ps:List Pt} {ts ss:List (Tq3)} (x:fj ps ts ss):List As:=[rowW x.c.p 96 3 ss.length x.c.c (rowsL Bk ss),rowW x.b.p 64 3 ts.length x.b.c (rowsL Bk ts),rowW x.a.p 62 10 ps.length x.a.c (rowsL Ae ps)]
structure eC (ps:List Pt) (ts ss:List (Tq3)) (l:List Nat) (e:Nat) where
  m:MX ps ts ss
  q:RX (bw l) l.length
theorem co {ps:List Pt} {ts ss:List (Tq3)} {l:List Nat} {e:Nat} {x:eC ps ts ss l e} {y:As} (hy:y∈[x.m.a.row,x.m.b.row,x.m.c.row,x.q.row]):y.ro=true:=by
  simp only [xL,List.not_mem_nil,or_false] at hy
  rcases hy with rfl|rfl|rfl|rfl<;>rfl
instance {ps:List Pt} {ts ss:List (Tq3)} {l:List Nat} {e:Nat}:CT (eC ps ts ss l e):=⟨λx=>.tuple #[aG (DM x.m),x.q.val,vN e],λx=>[x.m.a.row,x.m.b.row,x.m.c.row,x.q.row],λx y hy=>co hy⟩
section
variable {P:Program} {ops:Array Oper} {rest:List Oper} {Q:Exit->Act->World->Prop} {n d:Nat} {F:List (Nat×Value)} {w0:Av} {S:Nat->Prop} {L:List As} {t:TypeId} {p:String} {af:Array Edge} {y:Operand} {f:FuncId} {xs:List Operand} {args:List Value} {tys:Array TypeId} {ps:List Pt} {ts ss:List (Tq3)} {l:List Nat} {e:Nat}
end
end
section
section
variable {α β:Type} {enc:α->Value} {eV:β->Value} {ok:α->Prop} {P:Program} {kt:TypeId} {n:Nat} {F:List (Nat×Value)} {w0:Av} {L:List As} {d:Option Tmp} {mp kp vp:Operand} {t:TypeId} {pp:String} {af:Array Edge} {g:Option (Nat×Bool)} {tx et:TypeId} {b:Nat} {ops:Array Oper} {rest:List Oper} {Q:Exit->Act->World->Prop}
def Ri {α β:Type} (enc:α->Value) (eV:β->Value):List (α×β)->Nat->List MapEntry
  | [],_=>[]
  | (k,v)::r,i=>⟨enc k,eV v,i⟩::Ri enc eV r (i+1)
def eW {α β:Type} (b:Nat) (enc:α->Value) (eV:β->Value) (kvs:List (α×β)):As:=⟨some b,λo=>o=.map (Ri enc eV kvs 0).toArray kvs.length,false⟩
def f7 (r b n:Nat) (seen:List Nat):As:=⟨some r,λo=>o=.mapIter (some b) n seen.toArray n,false⟩
structure Zr {α β:Type} (ok:α->Prop) (kvs:List (α×β)):Prop where
  ok:∀p∈kvs,ok p.1
  once:kvs.Pairwise (λp q=>p.1≠q.1)
theorem QO {w:World} {es:Array MapEntry} {c:Nat} (h:w.heap[b]?=some (.map es c)):(getObj b).run P w=.ok (.map es c) w:=by simp [getObj,Sem.run,h]
theorem AO.range (i:Nat) {kvs:List (α×β)} {dd:Nat} (hw:Wt ops n F ⟨some dd,.range tx mp,t,pp,af,g⟩) (hx:evF F mp=some (.map (some b))) (ht:P.underlying tx=some (.map kt et)) (hi:L[i]?=some (eW b enc eV kvs)) (hd:Nat.ble (dd+1) n=true)
    (next:∀r,AO P ops rest Q n ((dd,.pointer (jk r))::F) w0 (f7 r b kvs.length []::L)):AO P ops (⟨some dd,.range tx mp,t,pp,af,g⟩::rest) Q n F w0 L:=λa w ha hW=>by
  obtain ⟨_,o,ho,hp⟩:=hW.2.1 _ (List.mem_of_getElem? hi) b rfl
  have ho:w.heap[b]?=some (.map (Ri enc eV kvs 0).toArray kvs.length):=by rw [ho,hp]
  have hrun:(execOp a.eval ⟨some dd,.range tx mp,t,pp,af,g⟩).run P w=.ok (.value (.pointer (some ⟨w.heap.size,0,none⟩))) (w.alloc (.mapIter (some b) kvs.length #[] kvs.length)):=by
    simp only [execOp,ha.ev hx,Instr.range,Sem.run_bind,run_underlying ht,Result.andThen_ok,QO ho,Sem.run_pure]
    rfl
  unfold wpList
  rw [if_pos (hw a ha)]
  left
  unfold Oper.wp
  rw [hrun,Oper.upon_value]
  exact next _ _ _ (ha.put (B6 hd)) (hW.alloc _ O O)
variable [DecidableEq α]
def EE:List (α×β)->α->Option β
  | [],_=>none
  | (k,v)::r,x=>if x=k then some v else EE r x
def Gi:List (α×β)->α->β->List (α×β)
  | [],x,y=>[(x,y)]
  | (k,v)::r,x,y=>if x=k then (k,y)::r else (k,v)::Gi r x y
theorem Rj:∀{kvs:List (α×β)} {j:Nat} {x:α} {v:β},kvs.Pairwise (λp q=>p.1≠q.1)->kvs[j]?=some (x,v)->EE kvs x=some v
  | (k,u)::r,0,x,v,_,h=>by
    simp only [List.getElem?_cons_zero,Option.some.injEq,Prod.mk.injEq] at h
    rw [EE,if_pos h.1.symm,h.2]
  | (k,u)::r,j+1,x,v,hp,h=>by
    obtain ⟨h1,h2⟩:=List.pairwise_cons.1 hp
    rw [List.getElem?_cons_succ] at h
    rw [EE,if_neg (λe=>h1 (x,v) (List.mem_of_getElem? h) e.symm)]
    exact Rj h2 h
theorem LQ {x:α} {y:β}:∀{kvs:List (α×β)} {p:α×β},p∈Gi kvs x y->p.1=x\/p∈kvs
  | [],p,h=>by rcases xM.1 h with rfl;exact .inl rfl
  | (k,v)::r,p,h=>by
    unfold Gi at h
    split at h
    · rename_i e
      rcases xL.1 h with rfl|h
      · exact .inl e.symm
      · exact .inr (List.mem_cons_of_mem _ h)
    · rcases xL.1 h with rfl|h
      · exact .inr List.mem_cons_self
      · rcases LQ h with h|h
        · exact .inl h
        · exact .inr (List.mem_cons_of_mem _ h)
theorem M6 {x:α} {y:β}:∀{kvs:List (α×β)},kvs.Pairwise (λp q=>p.1≠q.1)->(Gi kvs x y).Pairwise (λp q=>p.1≠q.1)
  | [],_=>List.pairwise_singleton _ _
  | (k,v)::r,h=>by
    obtain ⟨h1,h2⟩:=List.pairwise_cons.1 h
    unfold Gi
    split
    · exact List.pairwise_cons.2 ⟨λq hq=>h1 q hq,h2⟩
    · rename_i hne
      refine List.pairwise_cons.2 ⟨λq hq=>?_,M6 h2⟩
      rcases LQ hq with e|hq
      · rw [e];exact λe2=>hne e2.symm
      · exact h1 q hq
theorem Zr.put {kvs:List (α×β)} (h:Zr ok kvs) {x:α} {y:β} (hx:ok x):Zr ok (Gi kvs x y):=⟨λp hp=>by
  rcases LQ hp with e|hp
  · rw [e];exact hx
  · exact h.ok p hp,M6 h.once⟩
end
end
section
structure E4 where
  a:Nat
  b:Nat
  l:Int
  r:Int
deriving DecidableEq
def f4 (e:E4):List Value:=[vN e.a,vN e.b,.int .i64 e.l,.int .i64 e.r]
def eH (x y:E4):Int:=Vu (GU x.a y.a) (GU x.b y.b)
abbrev fb (k:P2):Value:=aG (ej k)
def bQ (k:P2):Prop:=k.1<4611686018427387904/\k.2<4611686018427387904
def IL (t:Tq3) (r:Nat):Nat:=if r=0 then t.1 else if r=1 then t.2.1 else t.2.2
def fM (e:E4) (t a b:Nat):E4:=if a<b/\e.l = -1 then { e with l:=t } else if b<a/\e.r = -1 then { e with r:=t } else e
def ei (k:P2):E4:=⟨k.1,k.2,-1,-1⟩
def O3 (a b:Nat):P2:=(min a b,max a b)
def fF (kvs:List (P2×E4)) (t a b:Nat):List (P2×E4):=Gi kvs (O3 a b) (fM ((EE kvs (O3 a b)).getD (ei (O3 a b))) t a b)
def fW (ts:List (Tq3)):Nat->List (P2×E4)
  | 0=>[]
  | s+1=>fF (fW ts s) (s/3) (IL (ts.getD (s/3) (0,0,0)) (s%3)) (IL (ts.getD (s/3) (0,0,0)) ((s%3+1)%3))
section
variable {ts:List (Tq3)} {t i N:Nat}
theorem Z1 {t:Tq3} (h:OJ N t=true) (r:Nat):IL t r<N:=by
  obtain ⟨h1,h2,h3⟩:=LK h
  unfold IL
  split
  · exact h1
  · split<;>assumption
end
section
variable {α β:Type} {enc:α->Value} {eV:β->Value} {P:Program} {n d:Nat} {F:List (Nat×Value)} {w0:Av} {L:List As} {dd:Option Tmp} {x y:Operand} {t:TypeId} {p:String} {af:Array Edge} {g:Option (Nat×Bool)} {tx kt et:TypeId} {b:Nat} {ops:Array Oper} {rest:List Oper} {Q:Exit->Act->World->Prop}
variable {T:TypeId} {z c bytes:Nat}
end
abbrev jA:E4:=⟨0,0,0,0⟩
end
section
set_option maxRecDepth 100000
end
section
instance:Inhabited E4:=⟨⟨0,0,0,0⟩⟩
def cC (x:E4):List E4->List E4
  | []=>[x]
  | y::r=>if eH x y<0 then x::y::r else y::cC x r
def dL:List E4->List E4
  | []=>[]
  | x::r=>cC x (dL r)
def bn (ts:List (Tq3)):List E4:=dL ((fW ts (3*ts.length)).map (·.2))
section
variable {P:Program} {ops:Array Oper} {rest:List Oper} {Q:Exit->Act->World->Prop} {n:Nat} {F:List (Nat×Value)} {w0:Av} {L:List As}
end
end
section
section
variable {α β:Type} [DecidableEq α]
theorem F7 {kvs:List (α×β)} {x z:α} {y:β}:EE (Gi kvs x y) z=if z=x then some y else EE kvs z:=by
  induction kvs with
  | nil=>rfl
  | cons p r ih =>
    obtain ⟨k,v⟩:=p
    unfold Gi
    split
    · rename_i e
      subst e
      unfold EE
      split<;>rfl
    · rename_i e
      rw [EE,ih]
      by_cases h:z=k
      · rw [if_pos h,if_neg (λe2=>e (e2.symm.trans h)),EE,if_pos h]
      · rw [if_neg h]
        split
        · rfl
        · rw [EE,if_neg h]
end
section
variable {ts:List (Tq3)}
def GY (ts:List (Tq3)) (u:Nat):P2:=(IL (ts.getD (u/3) (0,0,0)) (u%3),IL (ts.getD (u/3) (0,0,0)) ((u%3+1)%3))
def Zo (ts:List (Tq3)) (s a b:Nat) (z:Int):Prop:=(z = -1/\∀u,u<s->GY ts u≠(a,b))\/∃u,u<s/\z=((u/3:Nat):Int)/\GY ts u=(a,b)/\∀v,v<u->GY ts v≠(a,b)
theorem Zo.take {s a b:Nat} (h:Zo ts s a b (-1)) (hn:GY ts s=(a,b)):Zo ts (s+1) a b ((s/3:Nat):Int):=by
  rcases h with ⟨h1,h2⟩|⟨u,h1,h2,h3,h4⟩
  · exact .inr ⟨s,Z,rfl,hn,h2⟩
  · omega
end
end
end Go.Proofs.YtcpkbjjmcleplaaGreatDoor
