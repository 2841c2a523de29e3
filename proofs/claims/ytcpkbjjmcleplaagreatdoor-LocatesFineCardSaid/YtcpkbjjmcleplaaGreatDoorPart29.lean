import Derived.Lib.SliceRun
import Derived.Maps.RangeRun
import Derived.DeepKeys4
import Derived.Maps.Keyed
import Derived.LaidMore
import Derived.WideKeyEntry
import Derived.Test.YtcpkbjjmcleplaaGreatDoorPart26
import Derived.Test.YtcpkbjjmcleplaaGreatDoorPart28
namespace Go.Proofs.YtcpkbjjmcleplaaGreatDoor
open Go Go.RowKit Go.Proofs.Tryz
open Go.Value renaming slice→qz,bool→qa
set_option linter.unusedVariables false
set_option linter.unusedSimpArgs false
theorem ZQ {w w':World} (h:GB w.heap.size w w'):∃(q:Nat) (os:Array Obj),w'=Go.Sort.grow (w.drewN q) os:=by
  refine ⟨w'.drawn-w.drawn,w'.heap.extract w.heap.size w'.heap.size,?_⟩
  have h1:=h.os;have h2:=h.tape;have h3:=h.output;have h4:=h.size;have h5:=h.block;have h6:=h.drawn
  have hh:w'.heap=w.heap++w'.heap.extract w.heap.size w'.heap.size:=by
    apply Array.ext_getElem?
    intro i
    rw [Array.getElem?_append]
    split
    · rename_i hi;exact h5 i hi
    · rename_i hi
      rw [Array.getElem?_extract]
      split
      · congr 1;omega
      · rename_i hj;rw [Array.getElem?_eq_none Z]
  obtain ⟨hp,tp,dr,os,out⟩:=w'
  obtain ⟨hp0,tp0,dr0,os0,out0⟩:=w
  simp only at h1 h2 h3 h4 h6 hh
  subst h1;subst h2;subst h3
  show World.mk hp tp dr os out=World.mk (hp0++hp.extract hp0.size hp.size) tp (dr0+(dr-dr0)) os out
  rw [<-hh,show dr0+(dr-dr0)=dr by omega]
theorem D_ {α:Type} {enc:α->List Value} {z:Nat} (h:∀x,(enc x).length=z) (d:α) (xs:List α) (j r k:Nat) (hj:j<xs.length) (hr:r+k<=z) {vs:List Value} (hv:((enc (xs.getD j d)).drop r).take k=vs):((rowsL enc xs).drop (j*z+r)).take k=vs:=by
  have h1:=BE h d xs j hj
  rw [<-hv,<-h1,List.drop_take,List.take_take,List.drop_drop,Nat.min_eq_left Z]
section
def YU:List Pt:=[⟨0,0⟩,⟨1,0⟩,⟨1,1⟩,⟨0,1⟩]
def Vm:List (Tq3):=[(0,1,2),(0,2,3)]
theorem Xd {b n:Nat}:BG (jk b) n n:=⟨(λe=>by cases e),(λa e=>by injection e with e;rw [<-e]),Nat.le_refl _⟩
theorem dO:BG none 0 0:=⟨λ_=>⟨rfl,rfl⟩,(λa e=>by cases e),Nat.le_refl _⟩
def Hq (b b':Nat):MX YU Vm []:=⟨⟨some ⟨b,0,none⟩,4,Xd⟩,⟨some ⟨b',0,none⟩,2,Xd⟩,⟨none,0,dO⟩⟩
theorem Jw {w0:Ay} {S:Nat->Prop} {b b':Nat} (h:w0.w.heap.size<=b) (h':w0.w.heap.size<=b'):At w0 S (Hq b b'):=λy hy c e=>by
  have hy:y∈[(Hq b b').a.row,(Hq b b').b.row,(Hq b b').c.row]:=hy
  simp only [xL,List.not_mem_nil,or_false] at hy
  rcases hy with rfl|rfl|rfl
  · injection e with e;subst e;exact .inl h
  · injection e with e;subst e;exact .inl h'
  · cases e
theorem J4:∀i,BO (BU YU i)<=4
  | 0=>by decide +kernel
  | 1=>by decide +kernel
  | 2=>by decide +kernel
  | 3=>by decide +kernel
  | i+4=>by show BO ⟨0,0⟩<=4;decide +kernel
theorem YC:∀j,j<Vm.length->AF (BU YU (Vm.getD j (0,0,0)).1) (BU YU (Vm.getD j (0,0,0)).2.1) (BU YU (Vm.getD j (0,0,0)).2.2)≠0
  | 0,_=>by decide +kernel
  | 1,_=>by decide +kernel
  | j+2,h=>absurd h (by simp [Vm])
section
variable {P:Program} {ops:Array Oper} {rest:List Oper} {Q:Exit->Act->World->Prop} {n:Nat} {F:List (Nat×Value)} {w0:Ay} {L:List As}
theorem AP.mesh4 {b1 b b' T1 T T':Nat} {cs1 cs cs':List Value} (h1:cs1=DY (Hq b b')) (h:cs=rowsL Ah YU) (h':cs'=rowsL BC Vm) (hex:w0.ex=none)
    (next:w0.w.heap.size<=b->w0.w.heap.size<=b'->AP P ops rest Q n F w0 [AO b1 T1 (DY (Hq b b')),(Hq b b').a.row,(Hq b b').b.row,(Hq b b').c.row]):AP P ops rest Q n F w0 [AO b1 T1 cs1,AO b' T' cs',AO b T cs]:=by
  subst h1 h h'
  refine yj 1 O hex λhb'=>yj 2 O hex λhb=>λa w ha hw=>next hb hb' a w ha ?_
  have k:=hw.addRo (a:=(Hq b b').c.row) (GB.refl _ _) rfl (λc e=>by cases e) (λc e=>by cases e)
  refine k.perm ?_
  show [(Hq b b').c.row,AO b1 T1 (DY (Hq b b')),(Hq b b').b.row,(Hq b b').a.row].Perm _
  refine (List.perm_middle (l₁:=[AO b1 T1 (DY (Hq b b'))]) (a:=(Hq b b').c.row) (l₂:=[(Hq b b').b.row,(Hq b b').a.row])).symm.trans ?_
  refine List.Perm.cons _ ?_
  exact (List.reverse_perm [(Hq b b').a.row,(Hq b b').b.row,(Hq b b').c.row])
end
end

section
theorem JV {q:Rat}:q.num.sign=1↔0<q:=by
  rw [O0,U6]
  split
  · exact ⟨λh=>by simp at h,λh=>by grind⟩
  · split
    · exact ⟨λh=>by simp at h,λh=>by grind⟩
    · exact ⟨λ_=>by grind,λ_=>rfl⟩
theorem CE {q:Rat}:q.num.sign = -1↔q<0:=by
  rw [O0,U6]
  split
  · exact ⟨λ_=>by assumption,λ_=>rfl⟩
  · split
    · exact ⟨λh=>by simp at h,λh=>by grind⟩
    · exact ⟨λh=>by simp at h,λh=>by grind⟩
theorem O1 {q:Rat}:q.num.sign=0↔q=0:=by
  rw [O0,U6]
  split
  · exact ⟨λh=>by simp at h,λh=>by grind⟩
  · split
    · exact ⟨λ_=>by assumption,λ_=>rfl⟩
    · exact ⟨λh=>by simp at h,λh=>by grind⟩
theorem H_ (x y:Rat):(x<y/\IN x y=y)\/(y<=x/\IN x y=x):=by
  unfold IN
  by_cases h:x<y
  · rw [if_pos (G1.2 h)];exact .inl ⟨h,rfl⟩
  · rw [if_neg (λe=>h (G1.1 e))];exact .inr ⟨by grind,rfl⟩
theorem I2 {u d:Rat} (h:d≠0):(-u/d)*d = -u:=Rat.div_mul_cancel h
theorem QU {u d s k:Rat} (hd:0<d) (hk:k*d = -u):(k<=s↔0<=u+d*s)/\(k<s↔0<u+d*s):=by
  have e:u+d*s=(s-k)*d:=by grind
  rw [e]
  refine ⟨⟨λh=>Rat.mul_nonneg (by grind) (by grind),λh=>?_⟩,⟨λh=>Rat.mul_pos (by grind) hd,λh=>?_⟩⟩
  · rcases C5 s k with h1|h1
    · have:=Rat.mul_pos (show 0<k-s by grind) hd;grind
    · exact h1
  · rcases C5 k s with h1|h1
    · exact h1
    · have:=Rat.mul_nonneg (show 0<=k-s by grind) (show 0<=d by grind);grind
theorem Xc {u d s k:Rat} (hd:d<0) (hk:k*d = -u):(s<=k↔0<=u+d*s)/\(s<k↔0<u+d*s):=by
  have h:=QU (u:=u) (d := -d) (s := -s) (k := -k) (by grind) (by grind)
  have e:u + -d * -s=u+d*s:=by grind
  rw [e] at h
  exact ⟨⟨λa=>h.1.1 (by grind),λa=>by have:=h.1.2 a;grind⟩,⟨λa=>h.2.1 (by grind),λa=>by have:=h.2.2 a;grind⟩⟩
theorem br {u v:Rat} (h:D0 u v=false) (h1:¬0<v-u) (h2:¬v-u<0):v-u=0/\0<=u:=by
  refine ⟨by grind,?_⟩
  unfold D0 at h
  rw [xD (λe=>h1 (JV.1 e)),xD (λe=>h2 (CE.1 e))] at h
  have h3:¬u.num.sign<0:=by simpa using h
  have h4:¬u.num.sign = -1:=λe=>h3 (by rw [e];decide)
  rw [CE] at h4
  grind
theorem OF {u v s:Rat} (h:0<=u+(v-u)*s):D0 u v=false:=by
  cases hb:D0 u v with
  | false=>rfl
  | true =>
    unfold D0 at hb
    simp only [xZ,xV,xS,xT] at hb
    obtain ⟨⟨h1,h2⟩,h3⟩:=hb
    rw [JV] at h1
    rw [CE] at h2
    have h4:u.num.sign = -1:=by rcases U7 u.num with e|e|e<;>omega
    rw [CE] at h4
    have e:v-u=0:=by grind
    rw [e] at h
    grind
theorem Gi {u v f t:Rat} (hb:D0 u v=false) :
    (∀s,(CS u v (f,t)).1<=s->s<=(CS u v (f,t)).2->f<=s/\s<=t/\0<=u+(v-u)*s) /\
    (∀s,f<=s->s<=t->(f=s->s=0)->(t=s->s=1)->0<u+(v-u)*s->(CS u v (f,t)).1<=s/\s<=(CS u v (f,t)).2/\((CS u v (f,t)).1=s->s=0)/\((CS u v (f,t)).2=s->s=1)):=by
  unfold CS
  by_cases h1:0<v-u
  · rw [if_pos (JV.2 h1)]
    have hk:=I2 (u:=u) (d:=v-u) (by grind)
    generalize -u/(v-u)=k at *
    have r:=λs=>QU (u:=u) (s:=s) h1 hk
    dsimp only
    rcases H_ f k with ⟨g1,g2⟩|⟨g1,g2⟩<;>rw [g2]
    · exact ⟨λs a b=>⟨by grind,b,(r s).1.1 a⟩,λs a b c d e=>⟨by have:=(r s).2.2 e;grind,b,λe2=>by have:=(r s).2.2 e;grind,d⟩⟩
    · exact ⟨λs a b=>⟨a,b,(r s).1.1 (by grind)⟩,λs a b c d e=>⟨a,b,c,d⟩⟩
  · rw [if_neg (λe=>h1 (JV.1 e))]
    by_cases h2:v-u<0
    · rw [if_pos (CE.2 h2)]
      have hk:=I2 (u:=u) (d:=v-u) (by grind)
      generalize -u/(v-u)=k at *
      have r:=λs=>Xc (u:=u) (s:=s) h2 hk
      dsimp only
      rcases H_ (-t) (-k) with ⟨g1,g2⟩|⟨g1,g2⟩<;>rw [g2]
      · exact ⟨λs a b=>⟨a,by grind,(r s).1.1 (by grind)⟩,λs a b c d e=>⟨a,by have:=(r s).2.2 e;grind,c,λe2=>by have:=(r s).2.2 e;grind⟩⟩
      · exact ⟨λs a b=>⟨a,by grind,(r s).1.1 (by grind)⟩,λs a b c d e=>⟨a,by grind,c,λe2=>d (by grind)⟩⟩
    · rw [if_neg (λe=>h2 (CE.1 e))]
      obtain ⟨e0,e1⟩:=br hb h1 h2
      exact ⟨λs a b=>⟨a,b,by rw [e0];grind⟩,λs a b c d e=>⟨a,b,c,d⟩⟩
section
variable {u0 v0 u1 v1 u2 v2:Rat}
theorem Md (h:(Bu u0 v0 u1 v1 u2 v2).2.2=true):D0 u0 v0=false/\D0 u1 v1=false/\D0 u2 v2=false/\Bu u0 v0 u1 v1 u2 v2=((CS u2 v2 (CS u1 v1 (CS u0 v0 (0,1)))).1,(CS u2 v2 (CS u1 v1 (CS u0 v0 (0,1)))).2,true)/\(CS u2 v2 (CS u1 v1 (CS u0 v0 (0,1)))).1<(CS u2 v2 (CS u1 v1 (CS u0 v0 (0,1)))).2:=by
  unfold Bu at h ⊢
  cases h0:D0 u0 v0 with
  | true=>rw [h0] at h;cases h
  | false =>
    cases h1:D0 u1 v1 with
    | true=>rw [h0,h1] at h;cases h
    | false =>
      cases h2:D0 u2 v2 with
      | true=>rw [h0,h1,h2] at h;cases h
      | false =>
        rw [h0,h1,h2] at h
        have h3:decide (BR (CS u2 v2 (CS u1 v1 (CS u0 v0 (0,1)))).1 (CS u2 v2 (CS u1 v1 (CS u0 v0 (0,1)))).2<0)=true:=h
        refine ⟨rfl,rfl,rfl,?_,G1.1 (xR h3)⟩
        simp only [Bool.false_eq_true,if_false,h3]
theorem N4 (h:(Bu u0 v0 u1 v1 u2 v2).2.2=true):0<=(Bu u0 v0 u1 v1 u2 v2).1/\(Bu u0 v0 u1 v1 u2 v2).1<(Bu u0 v0 u1 v1 u2 v2).2.1/\(Bu u0 v0 u1 v1 u2 v2).2.1<=1 /\
    ∀s,(Bu u0 v0 u1 v1 u2 v2).1<=s->s<=(Bu u0 v0 u1 v1 u2 v2).2.1->0<=u0+(v0-u0)*s/\0<=u1+(v1-u1)*s/\0<=u2+(v2-u2)*s:=by
  obtain ⟨b0,b1,b2,e,hlt⟩:=Md h
  rw [e]
  dsimp only
  have a2:=(Gi (f:=(CS u1 v1 (CS u0 v0 (0,1))).1) (t:=(CS u1 v1 (CS u0 v0 (0,1))).2) b2).1
  have a1:=(Gi (f:=(CS u0 v0 (0,1)).1) (t:=(CS u0 v0 (0,1)).2) b1).1
  have a0:=(Gi (f:=0) (t:=1) b0).1
  have all:∀s,(CS u2 v2 (CS u1 v1 (CS u0 v0 (0,1)))).1<=s->s<=(CS u2 v2 (CS u1 v1 (CS u0 v0 (0,1)))).2->(0<=s/\s<=1)/\0<=u0+(v0-u0)*s/\0<=u1+(v1-u1)*s/\0<=u2+(v2-u2)*s:=λs h1 h2=>by
    obtain ⟨c1,c2,c3⟩:=a2 s h1 h2
    obtain ⟨d1,d2,d3⟩:=a1 s c1 c2
    obtain ⟨e1,e2,e3⟩:=a0 s d1 d2
    exact ⟨⟨e1,e2⟩,e3,d3,c3⟩
  exact ⟨(all _ (by grind) (by grind)).1.1,hlt,(all _ (by grind) (by grind)).1.2,λs h1 h2=>(all s h1 h2).2⟩
theorem LD {s:Rat} (h0:0<=s) (h1:s<=1) (l0:0<u0+(v0-u0)*s) (l1:0<u1+(v1-u1)*s) (l2:0<u2+(v2-u2)*s):(Bu u0 v0 u1 v1 u2 v2).2.2=true/\(Bu u0 v0 u1 v1 u2 v2).1<=s/\s<=(Bu u0 v0 u1 v1 u2 v2).2.1:=by
  have b0:=OF (u:=u0) (v:=v0) (s:=s) (by grind)
  have b1:=OF (u:=u1) (v:=v1) (s:=s) (by grind)
  have b2:=OF (u:=u2) (v:=v2) (s:=s) (by grind)
  obtain ⟨c1,c2,c3,c4⟩:=(Gi (f:=0) (t:=1) b0).2 s h0 h1 (λe=>e.symm) (λe=>e.symm) l0
  obtain ⟨d1,d2,d3,d4⟩:=(Gi (f:=(CS u0 v0 (0,1)).1) (t:=(CS u0 v0 (0,1)).2) b1).2 s c1 c2 c3 c4 l1
  obtain ⟨e1,e2,e3,e4⟩:=(Gi (f:=(CS u1 v1 (CS u0 v0 (0,1))).1) (t:=(CS u1 v1 (CS u0 v0 (0,1))).2) b2).2 s d1 d2 d3 d4 l2
  have e:Bu u0 v0 u1 v1 u2 v2=((CS u2 v2 (CS u1 v1 (CS u0 v0 (0,1)))).1,(CS u2 v2 (CS u1 v1 (CS u0 v0 (0,1)))).2,decide (BR (CS u2 v2 (CS u1 v1 (CS u0 v0 (0,1)))).1 (CS u2 v2 (CS u1 v1 (CS u0 v0 (0,1)))).2<0)):=by
    rw [Bu,b0,b1,b2];rfl
  rw [e]
  refine ⟨xE (G1.2 ?_),e1,e2⟩
  rcases C5 (CS u2 v2 (CS u1 v1 (CS u0 v0 (0,1)))).1 (CS u2 v2 (CS u1 v1 (CS u0 v0 (0,1)))).2 with h|h
  · exact h
  · have x1:=e3 (by grind)
    have x2:=e4 (by grind)
    grind
end
end
section
def Fb (a b:Pt) (s:Rat):Pt:=a+Bm (b-a) s
section
variable (a b A B C:Pt) (s:Rat)
theorem VH:AF (Fb a b s) B C=AF a B C+(AF b B C-AF a B C)*s:=by simp only [Fb,B0,LR,LS,HJ,HK,HT,HU];grind
theorem VI:AF A (Fb a b s) C=AF A a C+(AF A b C-AF A a C)*s:=by simp only [Fb,B0,LR,LS,HJ,HK,HT,HU];grind
theorem VJ:AF A B (Fb a b s)=AF A B a+(AF A B b-AF A B a)*s:=by simp only [Fb,B0,LR,LS,HJ,HK,HT,HU];grind
end
theorem Zp (a b:Pt) (f t:Rat):Gc a b f t=Fb a b ((f+t)*(1/2)):=by
  unfold Gc Fb
  rw [show (((1:Int):Rat)/((2:Int):Rat))*(f+t)=(f+t)*(1/2) by rw [show ((1:Int):Rat)=1 from rfl,show ((2:Int):Rat)=2 from rfl];grind]
section
variable {ps:List Pt} {T:Tq3} {a b q:Pt}
theorem bj.c (h:bj ps T q):d9 ps T q:=by
  obtain ⟨h1,h2,h3⟩:=h
  exact ⟨by grind,by grind,by grind⟩
theorem Qn {x y z:Rat}:FH x y z=0↔¬(0<=x/\0<=y/\0<=z):=by
  unfold FH
  split
  · rename_i h
    rw [CE,CE,CE] at h
    exact ⟨λ_=>by grind,λ_=>rfl⟩
  · rename_i h
    rw [CE,CE,CE] at h
    exact ⟨λh=>by omega,λh=>by exfalso;apply h;grind⟩
theorem SU {x:Rat} (h:0<=x):zq x=0↔0<x:=by
  by_cases e:x=0
  · rw [PH (O1.2 e)];grind
  · rw [LF (λk=>e (O1.1 k))];grind
theorem SK {x y z:Rat}:FH x y z=1↔0<x/\0<y/\0<z:=by
  unfold FH
  split
  · rename_i h
    rw [CE,CE,CE] at h
    exact ⟨λh=>by omega,λh=>by grind⟩
  · rename_i h
    rw [CE,CE,CE] at h
    have hx:=SU (x:=x) (by grind)
    have hy:=SU (x:=y) (by grind)
    have hz:=SU (x:=z) (by grind)
    rw [<-hx,<-hy,<-hz]
    omega
end
section
variable {ps:List Pt} {ts:List (Tq3)} {a b:Pt}
end
section
variable {ps:List Pt} {ts:List (Tq3)} {a b:Pt}
end
theorem GX {x y:Pc}:Ha x y<0↔x.lo<y.lo\/(x.lo=y.lo/\x.tri<y.tri):=by
  unfold Ha
  by_cases h:BR x.lo y.lo=0
  · rw [if_neg (by simpa using h)]
    have e:=I0.1 h
    unfold G0
    constructor
    · intro k;refine .inr ⟨e,?_⟩;by_cases h1:x.tri<y.tri
      · exact h1
      · rw [if_neg h1] at k;split at k<;>omega
    · rintro (k|⟨_,k⟩)
      · rw [e] at k;exact absurd k (by grind)
      · rw [if_pos k];decide
  · rw [if_pos h,G1]
    exact ⟨λk=>.inl k,λk=>k.elim id λk=>absurd (I0.2 k.1) h⟩
def UL (x:Pc):List Pc->List Pc
  | []=>[x]
  | y::r=>if Ha x y<0 then x::y::r else y::UL x r
def Kk:List Pc->List Pc
  | []=>[]
  | x::r=>UL x (Kk r)
def NR (x y:Pc):Prop:=¬Ha y x<0
theorem Jq (x:Pc):∀l,(UL x l).Perm (x::l)
  | []=>List.Perm.refl _
  | y::r=>by
    unfold UL
    split
    · exact List.Perm.refl _
    · exact (List.Perm.cons y (Jq x r)).trans (List.Perm.swap x y r)
theorem Gh:∀l,(Kk l).Perm l
  | []=>List.Perm.refl _
  | x::r=>(Jq x (Kk r)).trans (List.Perm.cons x (Gh r))
theorem IC {x y:Pc}:NR x y↔x.lo<y.lo\/(x.lo=y.lo/\x.tri<=y.tri):=by
  unfold NR
  rw [GX]
  constructor
  · intro h
    rcases C5 x.lo y.lo with k|k
    · exact .inl k
    · refine .inr ?_
      have h1:¬y.lo<x.lo:=λe=>h (.inl e)
      have e:x.lo=y.lo:=by grind
      exact ⟨e,by
        rcases Nat.lt_or_ge y.tri x.tri with k2|k2
        · exact absurd (.inr ⟨e.symm,k2⟩) h
        · exact k2⟩
  · rintro h (k|⟨k1,k2⟩)
    · rcases h with h|⟨h,_⟩<;>grind
    · rcases h with h|⟨_,h⟩
      · grind
      · omega
theorem NR.trans {x y z:Pc} (h:NR x y) (k:NR y z):NR x z:=by
  rw [IC] at *
  rcases h with h|⟨h1,h2⟩<;>rcases k with k|⟨k1,k2⟩
  · exact .inl (by grind)
  · exact .inl (by grind)
  · exact .inl (by grind)
  · exact .inr ⟨by grind,Z⟩
theorem KS (x:Pc):∀l,l.Pairwise NR->(UL x l).Pairwise NR
  | [],_=>List.pairwise_singleton _ _
  | y::r,h=>by
    obtain ⟨h1,h2⟩:=List.pairwise_cons.1 h
    unfold UL
    split
    · rename_i k
      have hxy:NR x y:=by
        rw [IC]
        rcases GX.1 k with k|⟨k1,k2⟩
        · exact .inl k
        · exact .inr ⟨k1,Z⟩
      refine List.pairwise_cons.2 ⟨λz hz=>?_,h⟩
      rcases xL.1 hz with rfl|hz
      · exact hxy
      · exact hxy.trans (h1 z hz)
    · rename_i k
      refine List.pairwise_cons.2 ⟨λz hz=>?_,KS x r h2⟩
      rcases xL.1 ((Jq x r).mem_iff.1 hz) with rfl|hz
      · exact k
      · exact h1 z hz
theorem KY:∀l,(Kk l).Pairwise NR
  | []=>List.Pairwise.nil
  | x::r=>KS x _ (KY r)
theorem Qg:∀{l:List Pc},l.Pairwise (λx y=>x.tri≠y.tri)->∀x∈l,∀y∈l,x.tri=y.tri->x=y
  | z::r,h,x,hx,y,hy,e=>by
    obtain ⟨h1,h2⟩:=List.pairwise_cons.1 h
    rcases xL.1 hx with ex|hx'<;>rcases xL.1 hy with ey|hy'
    · rw [ex,ey]
    · rw [ex] at e;exact absurd e (h1 y hy')
    · rw [ey] at e;exact absurd e.symm (h1 x hx')
    · exact Qg h2 x hx' y hy' e
theorem N5 {l l':List Pc} (hp:l'.Perm l) (hs:l'.Pairwise NR) (hn:l.Pairwise (λx y=>x.tri≠y.tri)):l'=Kk l:=by
  refine List.Perm.eq_of_pairwise (le:=NR) (λx y hx hy h1 h2=>?_) hs (KY l) (hp.trans (Gh l).symm)
  refine Qg hn x (hp.mem_iff.1 hx) y ((Gh l).mem_iff.1 hy) ?_
  rw [IC] at h1 h2
  rcases h1 with h1|⟨e1,h1⟩<;>rcases h2 with h2|⟨e2,h2⟩<;>first|omega|(exfalso;grind)
section
variable {ps:List Pt} {ts:List (Tq3)} {a b:Pt} {n:Nat}
def XY (ps:List Pt) (ts:List (Tq3)) (a b:Pt) (n:Nat):List Pc:=Kk (Bc ps ts a b n)
end
section
variable {ps:List Pt} {ts:List (Tq3)} {a b q:Pt}
end
end
section
def bK (p:Pc):Prop:=Sz p.lo<=400/\Sz p.hi<=400
abbrev dv:={p:Pc // bK p}
instance:Inhabited dv:=⟨⟨⟨0,0,0⟩,by show Sz (0:Rat)<=400;decide +kernel,by show Sz (0:Rat)<=400;decide +kernel⟩⟩
theorem iS:∀xs:List Pc,(∀x∈xs,bK x)->∃ds:List dv,ds.map (·.1)=xs
  | [],_=>⟨[],rfl⟩
  | x::r,h=>by
    obtain ⟨ds,e⟩:=iS r λy hy=>h y (List.mem_cons_of_mem _ hy)
    exact ⟨⟨x,h x List.mem_cons_self⟩::ds,by rw [List.map_cons,e]⟩
def NC (x:dv):List Value:=Ca x.1
def eB (x y:dv):Int:=Ha x.1 y.1
theorem iE:Go.Sort.SWO (ltOf eB) where
  irrefl x:=xD (by
    unfold eB
    rw [GX]
    rintro (h|⟨_,h⟩)
    · grind
    · omega)
  trans x y z h1 h2:=by
    have h1:=GX.1 (xR h1)
    have h2:=GX.1 (xR h2)
    refine xE (GX.2 ?_)
    rcases h1 with h1|⟨e1,h1⟩<;>rcases h2 with h2|⟨e2,h2⟩
    · exact .inl (by grind)
    · exact .inl (by grind)
    · exact .inl (by grind)
    · exact .inr ⟨by grind,Z⟩
  ntrans x y z h1 h2:=by
    have h1:NR y.1 x.1:=xQ h1
    have h2:NR z.1 y.1:=xQ h2
    exact xD (h2.trans h1)
theorem eD (AO off size:Nat) (w:World):CmpLays prog 41 #[] NC 11 eB AO off size w:=λm os dk _ x y=>by
  have hs:Sz x.1.lo+Sz y.1.lo<=1000000:=by have h1:=x.2.1;have h2:=y.2.1;omega
  rw [Array.append_empty]
  exact (TK x.1 y.1 hs _).mono λe w' h=>⟨h.1,ZQ h.2⟩
theorem P6 {d:Array dv} {t:Nat} (h:t<d.size*11):(rowsL Ca (d.toList.map (·.1)))[t]?=some (Go.Sort.flatK NC 11 d)[t]!:=by
  rw [Go.Sort.get_flatK _ _ _ _ h]
  have h1:t/11<d.size:=by omega
  have h2:=Cj DM (⟨0,0,0⟩:Pc) (d.toList.map (·.1)) (t/11) (t%11) (by simpa using h1) (Nat.mod_lt _ jY) (v:=(NC d[t/11]!)[t%11]!) (by
    rw [List.getD,List.getElem?_map,show d.toList[t/11]?=some d[t/11] from by simp [h1],getElem!_pos d (t/11) h1]
    show (Ca (d[t/11]).1)[t%11]?=some (Ca (d[t/11]).1)[t%11]!
    have hl:t%11<(Ca (d[t/11]).1).length:=by rw [DM];exact Nat.mod_lt _ jY
    rw [xN hl,getElem!_pos (Ca (d[t/11]).1) (t%11) hl])
  rw [show t/11*11+t%11=t by omega] at h2
  exact h2
theorem Z1 (x:dv):∀v∈NC x,v.oneCell'=true:=λv hv=>by
  unfold NC Ca AC at hv
  simp only [xL,List.mem_append,List.not_mem_nil,or_false] at hv
  rcases hv with rfl|(rfl|rfl|rfl|rfl|rfl)|(rfl|rfl|rfl|rfl|rfl)<;>rfl
theorem Xr (xs:List Pc) (p:Option Addr) (n c:Nat) (T:TypeId) (ho:OwnOk p n c) (hn:n=xs.length) (hN:n<4611686018427387904) (hb:∀x∈xs,bK x) (ht:xs.Pairwise (λx y=>x.tri≠y.tri)) (w:World) (hrow:∀b,p.map (·.block)=some b->∃o,w.heap[b]?=some o/\(rowW p T 11 n c (rowsL Ca xs)).P o) :
    Calls prog 40 #[.slice p n c,.func (.func 41) #[] #[]] w λe w'=>e=.returned (.tuple #[])/\LK w w' (p.map (·.block))/\∀b,p.map (·.block)=some b->∃o,w'.heap[b]?=some o/\(rowW p T 11 n c (rowsL Ca (Kk xs))).P o:=by
  cases hp:p with
  | none =>
    subst hp
    obtain ⟨rfl,rfl⟩:=ho.nil rfl
    exact (QY w).mono λe w' h=>⟨h.1,D6 h.2 _,λb e=>by cases e⟩
  | some a =>
    subst hp
    obtain ⟨o,hob,cur,rfl,hsz,hcur⟩:=hrow a.block rfl
    have hat:=ho.at0 a rfl
    have hle:=ho.le
    have hmax:=ho.max
    obtain ⟨ds,hds⟩:=iS xs hb
    have hdl:ds.length=n:=by rw [hn,<-hds,xI]
    obtain ⟨d,hd⟩:∃d,d=ds.toArray:=⟨_,rfl⟩
    have hdz:d.size=n:=by rw [hd];simpa using hdl
    have hdx:d.toList.map (·.1)=xs:=by rw [hd];exact hds
    have hH:Go.Sort.HoldsK NC 11 w a.block 0 d:=λj hj=>by
      have hj':j<d.size*11:=by simpa using hj
      refine ⟨?_,by simp [World.frozen?,hob]⟩
      have h1:(cur.toList.take (n*11))[j]?=(rowsL Ca xs)[j]?:=by rw [hcur]
      rw [List.getElem?_take_of_lt Z,Array.getElem?_toList,<-hdx,P6 hj'] at h1
      show w.cell? ⟨a.block,0+j,none⟩=some (id (Go.Sort.flatK NC 11 d)[j]!)
      unfold World.cell?
      simp only [hob,Nat.zero_add]
      exact h1
    have hlt:a.block<w.heap.size:=by
      rcases Nat.lt_or_ge a.block w.heap.size with h|h
      · exact h
      · rw [Array.getElem?_eq_none h] at hob;cases hob
    have h:=Tryz.slices_SortFunc_Piece 11 isAgg75 sizeOf75 NC (λx=>DM x.1) Z1 eB iE 41 #[] a.block 0 c d w call41 (eD a.block 0 d.size w) hH hlt Z
    rw [hdz] at h
    rw [hat]
    refine h.mono ?_
    rintro e w' ⟨rfl,d',m,os,⟨hz',_,hperm⟩,hsort,rfl⟩
    have hz2:d'.size=n:=by rw [hz',hdz]
    have hperm':d'.toList.Perm d.toList:=by
      have e1:d'.extract 0 n=d':=by rw [<-hz2];exact Array.extract_size
      have e2:d.extract 0 n=d:=by rw [<-hdz];exact Array.extract_size
      rw [e1,e2] at hperm
      exact hperm
    have hres:d'.toList.map (·.1)=Kk xs:=by
      refine N5 (by rw [<-hdx];exact hperm'.map _) ?_ ht
      rw [List.pairwise_map]
      refine List.pairwise_iff_getElem.2 λi j hi hj hij=>?_
      have hi':i<d'.size:=by simpa using hi
      have hj':j<d'.size:=by simpa using hj
      have h9:=xQ (hsort i j (xH _) hij Z)
      rw [getElem!_pos d' j hj',getElem!_pos d' i hi'] at h9
      simpa [NR,eB] using h9
    have hF:(Go.Sort.flatK NC 11 d').size=n*11:=by rw [Go.Sort.size_flatK,hz2]
    refine ⟨rfl,⟨⟨rfl,rfl,rfl,by simp [sortWorldK,Go.Sort.grow,Go.Sort.putRowK,Go.Sort.putRow,Go.Sort.mapBlock,Go.Sort.ahead],λj hj hne=>?_⟩,by show w.drawn<=w.drawn+m;omega⟩,λb e=>?_⟩
    · have hne':a.block≠j:=λe=>hne (by rw [e];rfl)
      unfold sortWorldK
      rw [Go.Sort.heap_grow_old _ _ (by simpa [Go.Sort.putRowK,Go.Sort.putRow,Go.Sort.mapBlock,Go.Sort.ahead] using hj)]
      simp [Go.Sort.putRowK,Go.Sort.putRow,Go.Sort.mapBlock,Go.Sort.ahead,Array.getElem?_modify,hne']
    · injection e with e
      subst e
      refine ⟨.cells (Go.Sort.putCells id 0 (Go.Sort.flatK NC 11 d') cur) T (0,0),?_,_,rfl,by simp [Go.Sort.putCells,hsz],?_⟩
      · unfold sortWorldK
        rw [Go.Sort.heap_grow_old _ _ (by simpa [Go.Sort.putRowK,Go.Sort.putRow,Go.Sort.mapBlock,Go.Sort.ahead] using hlt)]
        simp [Go.Sort.putRowK,Go.Sort.putRow,Go.Sort.mapBlock,Go.Sort.ahead,Array.getElem?_modify,hob,Go.Sort.onCells]
      · apply List.ext_getElem?
        intro j
        have hlen:(rowsL Ca (Kk xs)).length=n*11:=by rw [<-hres,AT DM,xI,Array.length_toList,hz2]
        by_cases hj:j<n*11
        · have hcs:n*11<=c*11:=Nat.mul_le_mul_right _ hle
          rw [List.getElem?_take_of_lt hj,Array.getElem?_toList,<-hres,P6 (by rw [hz2];exact hj)]
          unfold Go.Sort.putCells
          rw [Array.getElem?_mapIdx,Array.getElem?_eq_getElem Z,Option.map_some,if_pos ⟨xH _,Z⟩]
          rfl
        · rw [List.getElem?_take_eq_none Z,List.getElem?_eq_none Z]
section
variable {ps:List Pt} {ts:List (Tq3)} {a b:Pt}
theorem QL {t:Nat} {T:Tq3} {x:Pc} (h:x∈G_ ps a b t T):x.tri=t:=by
  unfold G_ at h
  split at h
  · split at h
    · rcases xM.1 h with rfl;rfl
    · cases h
  · cases h
theorem TL:∀n,∀x∈Bc ps ts a b n,x.tri<n
  | 0,x,h=>by cases h
  | n+1,x,h=>by
    rcases List.mem_append.1 h with h|h
    · have:=TL n x h;omega
    · have:=QL h;omega
theorem QQ:∀n,(Bc ps ts a b n).Pairwise (λx y=>x.tri≠y.tri)
  | 0=>List.Pairwise.nil
  | n+1=>List.pairwise_append.2 ⟨QQ n,by
      have h:=QK (ps:=ps) (a:=a) (b:=b) (t:=n) (ts.getD n (0,0,0))
      match G_ ps a b n (ts.getD n (0,0,0)),h with
      | [],_=>exact List.Pairwise.nil
      | [x],_=>exact List.pairwise_singleton _ _,λx hx y hy e=>by
      have h1:=TL n x hx
      have h2:=QL hy
      omega⟩
theorem Me (l:List Pc):(Kk l).length=l.length:=(Gh l).length_eq
end
end
def eK (l:List Nat):List Value:=l.map λ(d:Nat)=>vN d
section
set_option maxRecDepth 100000
end
section
def gK (S:Nat->Prop) (W w:World) (G:List As):Prop :=
  (∀x∈G,∀b,x.foot=some b->(W.heap.size<=b\/(x.ro=true/\S b))/\∃o,w.heap[b]?=some o/\x.P o)/\G.Pairwise λx y=>(x.ro=true/\y.ro=true)\/∀b,x.foot=some b->y.foot≠some b
def Q0 {α:Type} (V:α->Value) (LW:α->List As) (S:Nat->Prop) (W:World) (e:Ending) (w:World):Prop:=∃a:α,e=.returned (V a)/\GB W.heap.size W w/\gK S W w (LW a)
def gF (w0:Ay) (S:Nat->Prop) (G:List As):Prop:=∀y∈G,y.ro=true->∀b,y.foot=some b->Nw w0 S b
section
variable {w0:Ay} {S:Nat->Prop} {w w' W:World} {L G:List As}
theorem gF.row {α:Type} [Cl α] {a:α} {x:As} (ha:At w0 S a) (hx:Cl.rows a=[x]) (h:gF w0 S G):gF w0 S (x::G):=λy hy hr b e=>by
  rcases xL.1 hy with rfl|hy
  · exact ha y (by rw [hx];exact List.mem_cons_self) b e
  · exact h y hy hr b e
end
section
variable {P:Program} {ops:Array Oper} {rest:List Oper} {Q:Exit->Act->World->Prop} {n d:Nat} {F:List (Nat×Value)} {w0:Ay} {S:Nat->Prop} {L:List As} {t:TypeId} {p:String} {af:Array Edge} {y:Operand} {f:FuncId} {xs:List Operand} {args:List Value} {ts:Array TypeId} {α:Type} {V:α->Value} {LW:α->List As}
end
structure OX (T z:Nat) (cs:List Value) (n:Nat) where
  p:Option Addr
  c:Nat
  ok:OwnOk p n c
@[reducible] def jH {T z:Nat} {cs:List Value} {n:Nat} (a:OX T z cs n):Value:=.slice a.p n a.c
@[reducible] def jG {T z:Nat} {cs:List Value} {n:Nat} (a:OX T z cs n):List As:=[rowW a.p T z n a.c cs]
@[reducible] def jF {T z:Nat} {cs:List Value} {n:Nat} (a:OX T z cs n):Value:=.slice a.p n n
theorem EJ {α:Type} {enc:α->List Value} (h:∀x,((enc x).all λu=>u.oneCell')=true):∀xs:List α,((rowsL enc xs).all λu=>u.oneCell')=true
  | []=>rfl
  | x::r=>by
    have e:rowsL enc (x::r)=enc x++rowsL enc r:=rfl
    rw [e,List.all_append,h x,EJ h r];rfl
section
variable {P:Program} {ops:Array Oper} {rest:List Oper} {Q:Exit->Act->World->Prop} {n d:Nat} {F:List (Nat×Value)} {w0:Ay} {S:Nat->Prop} {L L':List As} {t ty T:TypeId} {p:String} {af:Array Edge} {x y:Operand} {dd:Option Tmp} {g:Option (Nat×Bool)} {q:Option Addr} {z m c:Nat} {cs vs:List Value} {v:Value}
theorem yd {s:Operand} {bytes c2:Nat} {q2:Option Addr} {news:List Value} (ht:ElemT P t T z bytes) (hs:evF F s=some (.slice q 0 c)) (ho:OwnOk q 0 c)
    (hx:evF F x=some (.slice q2 m c2)) (hsrc:Yn w0 (rowW q T z 0 c []::L) q2 m news) (hnl:news.length=m*z) (h1:(news.all λu=>u.oneCell')=true) (h63:m<=maxLen) (hbytes:m*bytes<=140737488355328) (hd:Nat.ble (d+1) n=true)
    (next:∀p' c',OwnOk p' m c'->AP P ops rest Q n ((d,.slice p' m c')::F) w0 (rowW p' T z m c' news::L)) :
    AP P ops (⟨some d,.call { callee:=.builtin .append,args:=#[s,x],argTypes:=#[t,t] },ty,p,af,none⟩::rest) Q n F w0 (rowW q T z 0 c []::L):=by
  refine yp (cs2:=news) ht hs ho jX hx hsrc hnl h1 (by rw [Nat.zero_add];exact h63) (by rw [Nat.zero_add];exact hbytes) O hd λp' c' h=>?_
  rw [Nat.zero_add] at h ⊢
  exact next p' c' h
end
structure ib (ps:List Pt) (ts ss:List (Tq3)) where
  a:OX 62 10 (rowsL Ah ps) ps.length
  b:OX 64 3 (rowsL BC ts) ts.length
  c:OX 96 3 (rowsL BC ss) ss.length
@[reducible] def jD {ps:List Pt} {ts ss:List (Tq3)} (x:ib ps ts ss):List As:=[rowW x.c.p 96 3 ss.length x.c.c (rowsL BC ss),rowW x.b.p 64 3 ts.length x.b.c (rowsL BC ts),rowW x.a.p 62 10 ps.length x.a.c (rowsL Ah ps)]
structure gM (ps:List Pt) (ts ss:List (Tq3)) (l:List Nat) (e:Nat) where
  m:MX ps ts ss
  q:RX (eK l) l.length
theorem fB {ps:List Pt} {ts ss:List (Tq3)} {l:List Nat} {e:Nat} {x:gM ps ts ss l e} {y:As} (hy:y∈[x.m.a.row,x.m.b.row,x.m.c.row,x.q.row]):y.ro=true:=by
  simp only [xL,List.not_mem_nil,or_false] at hy
  rcases hy with rfl|rfl|rfl|rfl<;>rfl
instance {ps:List Pt} {ts ss:List (Tq3)} {l:List Nat} {e:Nat}:Cl (gM ps ts ss l e):=⟨λx=>.tuple #[aG (DY x.m),x.q.val,vN e],λx=>[x.m.a.row,x.m.b.row,x.m.c.row,x.q.row],λx y hy=>fB hy⟩
section
variable {P:Program} {ops:Array Oper} {rest:List Oper} {Q:Exit->Act->World->Prop} {n d:Nat} {F:List (Nat×Value)} {w0:Ay} {S:Nat->Prop} {L:List As} {t:TypeId} {p:String} {af:Array Edge} {y:Operand} {f:FuncId} {xs:List Operand} {args:List Value} {tys:Array TypeId} {ps:List Pt} {ts ss:List (Tq3)} {l:List Nat} {e:Nat}
end
end
section
section
variable {α β:Type} {enc:α->Value} {eV:β->Value} {ok:α->Prop} {P:Program} {kt:TypeId} {n:Nat} {F:List (Nat×Value)} {w0:Ay} {L:List As} {d:Option Tmp} {mp kp vp:Operand} {t:TypeId} {pp:String} {af:Array Edge} {g:Option (Nat×Bool)} {tx et:TypeId} {b:Nat} {ops:Array Oper} {rest:List Oper} {Q:Exit->Act->World->Prop}
def bS {α β:Type} (enc:α->Value) (eV:β->Value):List (α×β)->Nat->List MapEntry
  | [],_=>[]
  | (k,v)::r,i=>⟨enc k,eV v,i⟩::bS enc eV r (i+1)
structure iP {α β:Type} (ok:α->Prop) (kvs:List (α×β)):Prop where
  ok:∀p∈kvs,ok p.1
  once:kvs.Pairwise (λp q=>p.1≠q.1)
variable [DecidableEq α]
def Lo:List (α×β)->α->Option β
  | [],_=>none
  | (k,v)::r,x=>if x=k then some v else Lo r x
def QN:List (α×β)->α->β->List (α×β)
  | [],x,y=>[(x,y)]
  | (k,v)::r,x,y=>if x=k then (k,y)::r else (k,v)::QN r x y
end
end
section
structure E4 where
  a:Nat
  b:Nat
  l:Int
  r:Int
deriving DecidableEq
def im (e:E4):List Value:=[vN e.a,vN e.b,.int .i64 e.l,.int .i64 e.r]
def gR (x y:E4):Int:=XB (G0 x.a y.a) (G0 x.b y.b)
abbrev iV (k:P2):Value:=aG (BD k)
def iX (k:P2):Prop:=k.1<4611686018427387904/\k.2<4611686018427387904
def It (t:Tq3) (r:Nat):Nat:=if r=0 then t.1 else if r=1 then t.2.1 else t.2.2
def iK (e:E4) (t a b:Nat):E4:=if a<b/\e.l = -1 then { e with l:=t } else if b<a/\e.r = -1 then { e with r:=t } else e
def gn (k:P2):E4:=⟨k.1,k.2,-1,-1⟩
def QC (a b:Nat):P2:=(min a b,max a b)
def iD (kvs:List (P2×E4)) (t a b:Nat):List (P2×E4):=QN kvs (QC a b) (iK ((Lo kvs (QC a b)).getD (gn (QC a b))) t a b)
def iR (ts:List (Tq3)):Nat->List (P2×E4)
  | 0=>[]
  | s+1=>iD (iR ts s) (s/3) (It (ts.getD (s/3) (0,0,0)) (s%3)) (It (ts.getD (s/3) (0,0,0)) ((s%3+1)%3))
section
variable {ts:List (Tq3)} {t i N:Nat}
theorem bw {t:Tq3} (h:PP N t=true) (r:Nat):It t r<N:=by
  obtain ⟨h1,h2,h3⟩:=ME h
  unfold It
  split
  · exact h1
  · split<;>assumption
end
section
variable {α β:Type} {enc:α->Value} {eV:β->Value} {P:Program} {n d:Nat} {F:List (Nat×Value)} {w0:Ay} {L:List As} {dd:Option Tmp} {x y:Operand} {t:TypeId} {p:String} {af:Array Edge} {g:Option (Nat×Bool)} {tx kt et:TypeId} {b:Nat} {ops:Array Oper} {rest:List Oper} {Q:Exit->Act->World->Prop}
variable {T:TypeId} {z c bytes:Nat}
end
abbrev jI:E4:=⟨0,0,0,0⟩
end
section
set_option maxRecDepth 100000
end
section
instance:Inhabited E4:=⟨⟨0,0,0,0⟩⟩
def eP (x:E4):List E4->List E4
  | []=>[x]
  | y::r=>if gR x y<0 then x::y::r else y::eP x r
def fT:List E4->List E4
  | []=>[]
  | x::r=>eP x (fT r)
def eF (ts:List (Tq3)):List E4:=fT ((iR ts (3*ts.length)).map (·.2))
section
variable {P:Program} {ops:Array Oper} {rest:List Oper} {Q:Exit->Act->World->Prop} {n:Nat} {F:List (Nat×Value)} {w0:Ay} {L:List As}
end
end
section
section
variable {α β:Type} [DecidableEq α]
end
section
variable {ts:List (Tq3)}
def RO (ts:List (Tq3)) (u:Nat):P2:=(It (ts.getD (u/3) (0,0,0)) (u%3),It (ts.getD (u/3) (0,0,0)) ((u%3+1)%3))
def gG (ts:List (Tq3)) (s a b:Nat) (z:Int):Prop:=(z = -1/\∀u,u<s->RO ts u≠(a,b))\/∃u,u<s/\z=((u/3:Nat):Int)/\RO ts u=(a,b)/\∀v,v<u->RO ts v≠(a,b)
theorem gG.take {s a b:Nat} (h:gG ts s a b (-1)) (hn:RO ts s=(a,b)):gG ts (s+1) a b ((s/3:Nat):Int):=by
  rcases h with ⟨h1,h2⟩|⟨u,h1,h2,h3,h4⟩
  · exact .inr ⟨s,Z,rfl,hn,h2⟩
  · omega
end
end
section
section
variable {α β:Type} {enc:α->Value} {eV:β->Value} {ok:α->Prop} {P:Program} {kt:TypeId} {n:Nat} {F:List (Nat×Value)} {w0:Ay} {L:List As} {d:Nat} {mp kp vp sp:Operand} {t:TypeId} {pp:String} {af:Array Edge} {g:Option (Nat×Bool)} {tx et:TypeId} {b:Nat} {ops:Array Oper} {rest:List Oper} {Q:Exit->Act->World->Prop}
variable [DecidableEq α]
end
end
section
abbrev T3:=Tq3
section
variable {ts ts':List T3} {N:Nat}
def eR (ts:List T3) (u:Nat):P2:=QC (RO ts u).1 (RO ts u).2
def cd (ts:List T3):Nat->List (P2×Nat)
  | 0=>[]
  | s+1=>QN (cd ts s) (eR ts s) ((Lo (cd ts s) (eR ts s)).getD 0+1)
def gT (ts:List T3) (k:P2):Nat:=(Lo (cd ts (3*ts.length)) k).getD 0
def gu (ts:List T3) (i:Nat):List T3:=(((eF ts).take i).filter λe=>decide (gT ts (e.a,e.b)=1)).map λe=>(e.a,e.b,0)
def gt (ts:List T3):List T3:=gu ts (eF ts).length
end
end
section
abbrev E0:E4:=⟨0,0,0,0⟩
def Zq (N:Nat) (es:List E4):Nat->List (P2×Nat)
  | 0=>[]
  | i+1=>QN (Zq N es i) (QC (es.getD i E0).a (es.getD i E0).b) (N+i)
def dS (N:Nat) (ss:List T3):Nat->List (P2×Nat)
  | 0=>[]
  | k+1=>if (ss.getD (ss.length-1-k) (0,0,0)).1<N/\(ss.getD (ss.length-1-k) (0,0,0)).2.1<N then QN (dS N ss k) (QC (ss.getD (ss.length-1-k) (0,0,0)).1 (ss.getD (ss.length-1-k) (0,0,0)).2.1) (ss.getD (ss.length-1-k) (0,0,0)).2.2 else dS N ss k
def ZR (N:Nat) (ss:List T3) (es:List E4):Nat->List (P2×Nat)
  | 0=>dS N ss ss.length
  | i+1=>QN (QN (ZR N ss es i) (QC (es.getD i E0).a (N+i)) ((Lo (ZR N ss es i) (QC (es.getD i E0).a (es.getD i E0).b)).getD 0)) (QC (es.getD i E0).b (N+i)) ((Lo (ZR N ss es i) (QC (es.getD i E0).a (es.getD i E0).b)).getD 0)
def gj (N:Nat) (ss:List T3) (es:List E4) (a b:Nat):Nat:=(Lo (ZR N ss es es.length) (QC a b)).getD 0
def iu (ps:List Pt) (e:E4):Pt:=Bm (BU ps e.a+BU ps e.b) (1/2)
def eJ (ps:List Pt) (es:List E4):Nat->List Pt
  | 0=>ps
  | i+1=>eJ ps es i++[iu ps (es.getD i E0)]
def gV (ps:List Pt) (es:List E4):List Pt:=eJ ps es es.length
def gW (N:Nat) (ss:List T3) (es:List E4) (ts:List T3):List T3:=(gt ts).map λs=>(s.1,s.2.1,gj N ss es s.1 s.2.1)
section
variable {N M i:Nat} {es:List E4} {ts:List T3} {t:T3} {ss rs:List T3} {ps:List Pt}
theorem F9 {α:Type} {l:List α} {d:α} {i:Nat} (h:i<l.length):l.take (i+1)=l.take i++[l.getD i d]:=by
  rw [List.take_add_one,xN h,List.getD,xN h];rfl
end
end
section
set_option maxRecDepth 100000
end
end Go.Proofs.YtcpkbjjmcleplaaGreatDoor
