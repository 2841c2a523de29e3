import Derived.Scope
import Derived.Test.YtpolhpjiahbidaaGreatDoorPart05
namespace Go.Proofs.YtpolhpjiahbidaaGreatDoor
open Go Go.RowKit Go.Proofs.Tryz
open Go.Value renaming slice→qw,bool→qa
set_option linter.unusedVariables false
set_option linter.unusedSimpArgs false
section
def C6:Nat->Nat->List Nat
  | 0,_=>[]
  | N+1,v=>v%4294967296::C6 N (v/4294967296)
theorem Bk:∀(N v:Nat),(C6 N v).length=N
  | 0,_=>rfl
  | N+1,v=>by simp [C6,Bk N]
theorem Ef:∀(N v:Nat),W32 (C6 N v)
  | 0,_=>W32.nil
  | N+1,v=>W32.cons Z (Ef N _)
theorem Ff:∀(N v:Nat),v<4294967296^N->val (C6 N v)=v
  | 0,v,h=>by simp at h;simp [C6,val,h]
  | N+1,v,h=>by
    rw [Nat.pow_succ] at h
    rw [C6,val,Ff N _ (by rw [Nat.div_lt_iff_lt_mul Z];exact h)]
    omega
theorem QH:∀{xs:List Nat},W32 xs->C6 xs.length (val xs)=xs
  | [],_=>rfl
  | x::xs,h=>by
    have hx:=h x jX
    rw [List.length_cons,val,C6,show (x+4294967296*val xs)%4294967296=x by omega,show (x+4294967296*val xs)/4294967296=val xs by omega,QH (λy hy=>h y (by simp [hy]))]
theorem IF {xs:List Nat} {N v:Nat} (h:W32 xs) (hl:xs.length=N) (hv:val xs=v):xs=C6 N v:=by subst hl;subst hv;exact (QH h).symm
theorem TT {v k:Nat}:v/4294967296^(k+1)*4294967296+v/4294967296^k%4294967296=v/4294967296^k:=by
  rw [Nat.pow_succ,<-Nat.div_div_eq_div_mul];omega
theorem IC:∀(v k:Nat),(AP v).getD k 0=v/4294967296^k%4294967296:=by
  intro v
  induction v using Nat.strongRecOn with
  | _ v ih =>
    intro k
    by_cases h:v=0
    · subst h;simp [RZ]
    · rw [F8 h]
      cases k with
      | zero=>simp
      | succ k=>rw [List.getD_cons_succ,ih _ Z,Nat.pow_succ,Nat.div_div_eq_div_mul,Nat.mul_comm]
theorem G1:∀(xs:List Nat) (k:Nat),W32 xs->xs.getD k 0=val xs/4294967296^k%4294967296
  | [],k,_=>by simp [val]
  | x::xs,0,h=>by have:=h x jX;simp [val];omega
  | x::xs,k+1,h=>by
    have hx:=h x jX
    rw [List.getD_cons_succ,G1 xs k (λy hy=>h y (by simp [hy])),val,Nat.pow_succ,Nat.mul_comm (4294967296^k),<-Nat.div_div_eq_div_mul,show (x+4294967296*val xs)/4294967296=val xs by omega]
theorem Q1 {qs:List Nat} {a y k r n:Nat} (hl:qs.length=n) (hk:k<n) (hq:∀j,j<=k->qs.getD j 0=0) (hr:r<y) (hv:val qs*y+r*4294967296^(k+1)=a/4294967296^(k+1)*4294967296^(k+1)) :
    val (qs.set k ((r*4294967296+a/4294967296^k%4294967296)/y))*y+(r*4294967296+a/4294967296^k%4294967296)%y*4294967296^k=a/4294967296^k*4294967296^k:=by
  have e:=Is (c:=(r*4294967296+a/4294967296^k%4294967296)/y) hl hk (hq k (Nat.le_refl _))
  have d:=TT (v:=a) (k:=k)
  have m:=Nat.div_add_mod (r*4294967296+a/4294967296^k%4294967296) y
  rw [e]
  rw [Nat.pow_succ] at hv
  rw [Nat.pow_succ] at d
  generalize (r*4294967296+a/4294967296^k%4294967296)/y=q at *
  generalize hrr:(r*4294967296+a/4294967296^k%4294967296)%y=r' at *
  generalize a/4294967296^k%4294967296=w at *
  generalize a/(4294967296^k*4294967296)=h at *
  generalize a/4294967296^k=g at *
  generalize 4294967296^k=p at *
  subst d
  have m2:(y*q+r')*p=(r*4294967296+w)*p:=by rw [m]
  grind
theorem Qn {a y v r:Nat} (hr:r<y) (hv:v*y+r*4294967296^0=a/4294967296^0*4294967296^0):v=a/y/\r=a%y:=by
  simp at hv
  have e:a=r+y*v:=by rw [<-hv,Nat.mul_comm];omega
  subst e
  constructor
  · rw [Nat.add_mul_div_left _ _ Z,Nat.div_eq_of_lt hr];omega
  · rw [Nat.add_mul_mod_self_left,Nat.mod_eq_of_lt hr]
theorem Zx {w c s:Nat} (hw:w<4294967296) (hc:c<2^s) (hs:s<32):w*2^s%4294967296 ||| c=w*2^s%4294967296+c:=by
  have e:w*2^s%4294967296=w%2^(32-s)*2^s:=by
    have:(4294967296:Nat)=2^(32-s)*2^s:=by rw [<-Nat.pow_add,show 32-s+s=32 by omega]
    rw [this,Nat.mul_mod_mul_right]
  rw [e,Nat.or_comm,IS hc];omega
theorem aY {w s:Nat} (hw:w<4294967296) (hs:s<32):w*2^s<18446744073709551616/\w*2^s/4294967296<2^s:=by
  have h1:w*2^s<4294967296*2^s:=Nat.mul_lt_mul_of_pos_right hw (Nat.pow_pos Z)
  have h2:(2:Nat)^s<=2^31:=Nat.pow_le_pow_right Z Z
  constructor
  · omega
  · rw [Nat.div_lt_iff_lt_mul Z];omega
theorem Rq {w c s:Nat} (hc:c<2^s) (hs:s<32):w*2^s%4294967296+c<4294967296:=by
  have e:w*2^s%4294967296=w%2^(32-s)*2^s:=by
    have:(4294967296:Nat)=2^(32-s)*2^s:=by rw [<-Nat.pow_add,show 32-s+s=32 by omega]
    rw [this,Nat.mul_mod_mul_right]
  have h1:w%2^(32-s)+1<=2^(32-s):=Nat.mod_lt _ (Nat.pow_pos Z)
  have h2:(w%2^(32-s)+1)*2^s<=2^(32-s)*2^s:=Nat.mul_le_mul_right _ h1
  rw [<-Nat.pow_add,show 32-s+s=32 by omega,Nat.add_mul] at h2
  rw [e];omega
theorem Qw {os xs:List Nat} {i n c s:Nat} (hl:os.length=n) (hi:i<n) (h0:∀j,i<=j->os.getD j 0=0) (hv:val os+c*4294967296^i=val (xs.take i)*2^s) :
    val (os.set i (xs.getD i 0*2^s%4294967296+c))+xs.getD i 0*2^s/4294967296*4294967296^(i+1)=val (xs.take (i+1))*2^s:=by
  rw [Is hl hi (h0 i (Nat.le_refl _)),Bf,Nat.pow_succ]
  have m:=Nat.div_add_mod (xs.getD i 0*2^s) 4294967296
  generalize xs.getD i 0*2^s%4294967296=r at *
  generalize xs.getD i 0*2^s/4294967296=q at *
  generalize xs.getD i 0=w at *
  generalize 2^s=z at *
  generalize 4294967296^i=p at *
  have m2:(4294967296*q+r)*p=w*z*p:=by rw [m]
  grind
theorem TB {os us:List Nat} {i n:Nat} (hl:us.length=n) (hlo:os.length=n) (hi:i<n) (hu:W32 us) (hd:os.drop i=us.drop i) (hv:2*val (os.take i)+us.getD 0 0%2=val (us.take i)+us.getD i 0%2*4294967296^i) {x:Nat} (hx:x=us.getD i 0/2+us.getD (i+1) 0%2*2147483648) :
    (os.set i x).drop (i+1)=us.drop (i+1)/\2*val ((os.set i x).take (i+1))+us.getD 0 0%2=val (us.take (i+1))+us.getD (i+1) 0%2*4294967296^(i+1):=by
  constructor
  · rw [List.drop_set_of_lt Z]
    have h1:=congrArg (List.drop 1) hd
    rwa [List.drop_drop,List.drop_drop] at h1
  · rw [Bf,Bf,List.take_set_of_le (Nat.le_refl _),Nat.pow_succ]
    have e:(os.set i x).getD i 0=x:=by simp [List.getD_eq_getElem?_getD,hlo,hi]
    rw [e,hx]
    have m:us.getD i 0=2*(us.getD i 0/2)+us.getD i 0%2:=by omega
    generalize us.getD i 0/2=h at *
    generalize us.getD i 0%2=b at *
    generalize us.getD (i+1) 0%2=b' at *
    rw [m]
    generalize 4294967296^i=p at *
    grind
theorem UI {os us:List Nat} {n:Nat} (hl:us.length=n) (hlo:os.length=n) (hv:2*val (os.take n)+us.getD 0 0%2=val (us.take n)+us.getD n 0%2*4294967296^n) (hu:W32 us):val os=val us/2:=by
  rw [List.take_of_length_le Z,List.take_of_length_le Z] at hv
  have e:us.getD n 0=0:=by simp [List.getD_eq_getElem?_getD,hl]
  rw [e] at hv
  simp at hv
  have:=Nat.mod_lt (us.getD 0 0) (show 2>0 by omega)
  simp only [List.getD_eq_getElem?_getD] at this
  omega
theorem UQ {os us vs:List Nat} {k i n N c l D:Nat} (hl:os.length=N) (hi:k+i<N) (hw:W32 os) (hll:l<=1)
    (hv:val os+D*val (vs.take i)*4294967296^k=val us+(c+l)*4294967296^(k+i)) {s c':Nat} (hs:s=(c+D*vs.getD i 0)%4294967296) (hc':c'=(c+D*vs.getD i 0)/4294967296) :
    val (os.set (k+i) ((os.getD (k+i) 0+(4294967296-s)+(4294967296-l))%4294967296))+D*val (vs.take (i+1))*4294967296^k=val us+(c'+Jl (os.getD (k+i) 0) (s+l))*4294967296^(k+(i+1)):=by
  have e:=Fw (xs:=os) (i:=k+i) Z ((os.getD (k+i) 0+(4294967296-s)+(4294967296-l))%4294967296)
  have t:=Bf vs i
  have ho:=hw.getD (k+i)
  have hs2:s<4294967296:=by omega
  have m:c+D*vs.getD i 0=4294967296*c'+s:=by omega
  have b:(os.getD (k+i) 0+(4294967296-s)+(4294967296-l))%4294967296+s+l=os.getD (k+i) 0+Jl (os.getD (k+i) 0) (s+l)*4294967296:=by unfold Jl;split<;>omega
  rw [t,show k+(i+1)=k+i+1 by omega,Nat.pow_succ]
  rw [Nat.pow_add] at *
  generalize (os.getD (k+i) 0+(4294967296-s)+(4294967296-l))%4294967296=r at *
  generalize Jl (os.getD (k+i) 0) (s+l)=q at *
  generalize os.getD (k+i) 0=o at *
  generalize vs.getD i 0=v at *
  generalize 4294967296^i=p at *
  generalize 4294967296^k=p' at *
  generalize val (vs.take i)=vv at *
  clear hs hc'
  have b2:(r+s+l)*(p'*p)=(o+q*4294967296)*(p'*p):=by rw [b]
  have m2:(c+D*v)*(p'*p)=(4294967296*c'+s)*(p'*p):=by rw [m]
  grind
theorem UM {os us vs:List Nat} {k n N c l D:Nat} (hl:os.length=N) (hw:W32 os) (hk:k+n+1<=N) (hu:val us<4294967296^(k+n+1)) (hv:val os+D*val (vs.take n)*4294967296^k=val us+l*4294967296^(k+n+1)) (hl1:l<=1) (hz:∀j,k+n+1<=j->os.getD j 0=0) :
    decide (0<l)=decide (val us<D*val (vs.take n)*4294967296^k)/\os=C6 N (val us+(if val us<D*val (vs.take n)*4294967296^k then 4294967296^(k+n+1) else 0)-D*val (vs.take n)*4294967296^k):=by
  have ho:val os<4294967296^(k+n+1):=by
    have h1:=FN os (k+n+1) Z
    have h2:val (os.drop (k+n+1))=0:=by
      have:os.drop (k+n+1)=List.replicate (N-(k+n+1)) 0:=by
        apply List.ext_getElem (by simp [hl])
        intro j h1 h2
        have:=hz (k+n+1+j) Z
        simp [List.getD_eq_getElem?_getD] at this h1
        simp
        have h3:k+n+1+j<os.length:=by omega
        simpa [h3] using this
      rw [this,Ep]
    rw [h2] at h1
    have h3:=G7 (hw.take (k+n+1))
    rw [List.length_take,Nat.min_eq_left Z] at h3
    omega
  generalize D*val (vs.take n)*4294967296^k=X at *
  generalize 4294967296^(k+n+1)=p at *
  have hl2:l=0\/l=1:=by omega
  rcases hl2 with rfl|rfl
  · have h1:¬val us<X:=by omega
    refine ⟨by simp [h1],IF hw hl ?_⟩
    rw [if_neg h1];omega
  · have h1:val us<X:=by omega
    refine ⟨by simp [h1],IF hw hl ?_⟩
    rw [if_pos h1];omega
theorem J1 {os:List Nat} {p:Nat} (h:val os<4294967296^p):∀j,p<=j->os.getD j 0=0:=λj hj=>Gm h hj
theorem Tl {os:List Nat} {p N c l X U:Nat} (hl:os.length=N) (hp:p<N) (hw:W32 os) (hll:l<=1) (hc:c<4294967296) (hv:val os+X=U+(c+l)*4294967296^p) :
    val (os.set p ((os.getD p 0+(4294967296-c)+(4294967296-l))%4294967296))+X=U+Jl (os.getD p 0) (c+l)*4294967296^(p+1):=by
  have e:=Fw (xs:=os) (i:=p) Z ((os.getD p 0+(4294967296-c)+(4294967296-l))%4294967296)
  have ho:=hw.getD p
  have b:(os.getD p 0+(4294967296-c)+(4294967296-l))%4294967296+c+l=os.getD p 0+Jl (os.getD p 0) (c+l)*4294967296:=by unfold Jl;split<;>omega
  rw [Nat.pow_succ]
  generalize (os.getD p 0+(4294967296-c)+(4294967296-l))%4294967296=r at *
  generalize Jl (os.getD p 0) (c+l)=q at *
  generalize os.getD p 0=o at *
  generalize 4294967296^p=z at *
  have b2:(r+c+l)*z=(o+q*4294967296)*z:=by rw [b]
  grind
theorem Mt {os us:List Nat} {i j:Nat} (h:os.drop i=us.drop i) (hj:i<=j):os.getD j 0=us.getD j 0:=by
  have h1:=congrArg (λl:List Nat=>l.getD (j-i) 0) h
  simp only [List.getD_eq_getElem?_getD,List.getElem?_drop] at h1 ⊢
  rwa [show i+(j-i)=j by omega] at h1
theorem YA {h y:Nat} (hh:h<2147483648):h ||| y*2^31%4294967296=h+y%2*2147483648:=by
  have e:y*2^31%4294967296=y%2*2^31:=by rw [show (4294967296:Nat)=2*2^31 from rfl,Nat.mul_mod_mul_right]
  rw [e,IS (s:=31) Z]
theorem Mh {os:List Nat} {i v:Nat} (h:i<os.length):(os.set i v).getD i 0=v:=by simp [List.getD_eq_getElem?_getD,h]
theorem Js {os:List Nat} {i j v:Nat} (h:i≠j):(os.set i v).getD j 0=os.getD j 0:=by
  rw [List.getD_eq_getElem?_getD,List.getElem?_set_ne h,<-List.getD_eq_getElem?_getD]
structure Il (V W v1 top d r:Nat):Prop where
  low:W/V<=d
  eq:d*v1+r=top
theorem Ri {V W v1 v2 u2 top m p:Nat} (hp:0<p) (hV:V=(v1*4294967296+v2)*p+m) (hv2:v2<4294967296) (hm:m<p) (hW:W<(top+1)*(4294967296*p)) (h1:0<v1):Il V W v1 top (top/v1) (top%v1):=by
  refine ⟨?_,by rw [Nat.mul_comm];exact Nat.div_add_mod top v1⟩
  have hVp:0<V:=by
    have:0<v1*4294967296+v2:=by omega
    have:=Nat.mul_pos this hp
    omega
  rw [<-Nat.lt_succ_iff,Nat.div_lt_iff_lt_mul hVp]
  have h2:top<v1*(top/v1+1):=Nat.lt_mul_div_succ top h1
  have h3:(top+1)*(4294967296*p)<=v1*(top/v1+1)*(4294967296*p):=Nat.mul_le_mul_right _ h2
  have h4:v1*(4294967296*p)<=V:=by
    rw [hV];have:v1*(4294967296*p)=v1*4294967296*p:=by rw [Nat.mul_assoc]
    rw [this,Nat.add_mul];omega
  have h5:(top/v1+1)*(v1*(4294967296*p))<=(top/v1+1)*V:=Nat.mul_le_mul_left _ h4
  have h6:v1*(top/v1+1)*(4294967296*p)=(top/v1+1)*(v1*(4294967296*p)):=by rw [Nat.mul_comm v1,Nat.mul_assoc]
  show W<(top/v1+1)*V
  omega
theorem Rg {V W v1 v2 u2 top d r m p:Nat} (h:Il V W v1 top d r) (hp:0<p) (hV:V=(v1*4294967296+v2)*p+m) (h1:0<v1) (hW:W<(top*4294967296+u2+1)*p) (hq:W/V<4294967296)
    (ht:¬(d<=4294967295/\d*v2<=r*4294967296+u2)):Il V W v1 top (d-1) (r+v1)/\0<d:=by
  have hVp:0<V:=by
    have:0<v1*4294967296+v2:=by omega
    have:=Nat.mul_pos this hp
    omega
  have hdiv:∀x,W/V<x↔W<x*V:=λx=>Nat.div_lt_iff_lt_mul hVp
  obtain ⟨hlow,heq⟩:=h
  suffices hlt:W/V<d by
    have h0:0<d:=Nat.lt_of_le_of_lt (xH _) hlt
    have e:d*v1=(d-1)*v1+v1:=by
      obtain ⟨e,rfl⟩:∃e,d=e+1:=⟨d-1,(Nat.succ_pred_eq_of_pos h0).symm⟩
      rw [Nat.add_mul];simp
    refine ⟨⟨Nat.le_sub_one_of_lt hlt,?_⟩,h0⟩
    clear hdiv hlow hq ht hW hV hlt
    omega
  have hlt:W/V<d:=by
    by_cases hd:d<=4294967295
    · have h2:r*4294967296+u2+1<=d*v2:=by
        rcases Nat.lt_or_ge (r*4294967296+u2) (d*v2) with h3|h3
        · exact h3
        · exact absurd ⟨hd,h3⟩ ht
      refine (hdiv d).2 ?_
      have ex:d*(v1*4294967296+v2)=d*v1*4294967296+d*v2:=by rw [Nat.mul_add,Nat.mul_assoc]
      have h3:(top*4294967296+u2+1)*p<=(d*(v1*4294967296+v2))*p:=by
        refine Nat.mul_le_mul_right _ ?_
        rw [ex,<-heq,Nat.add_mul,Nat.add_assoc,Nat.add_assoc]
        exact Nat.add_le_add_left (by rw [<-Nat.add_assoc];exact h2) _
      have h4:d*V=d*(v1*4294967296+v2)*p+d*m:=by rw [hV,Nat.mul_add,Nat.mul_assoc]
      omega
    · exact Nat.lt_of_lt_of_le hq Z
  exact hlt
theorem Qo {V W v1 v2 u2 top d r m p:Nat} (h:Il V W v1 top d r) (hp:0<p) (hV:V=(v1*4294967296+v2)*p+m) (hm:m<p) (h1:0<v1) (hv2:v2<4294967296) (hW2:(top*4294967296+u2)*p<=W) (hWV:W<V*4294967296) (hv1:v1<4294967296)
    (hend:4294967295<r\/(d<=4294967295/\d*v2<=r*4294967296+u2)):d<=4294967295/\(d=W/V\/d=W/V+1):=by
  have hVp:0<V:=by
    have:0<v1*4294967296+v2:=by omega
    have:=Nat.mul_pos this hp
    omega
  have hd:d<=4294967295:=by
    rcases hend with hr|hr
    · -- top<(v1+1)*2^32
      have hV2:V<(v1+1)*4294967296*p:=by
        have:(v1*4294967296+v2)*p+p<=(v1+1)*4294967296*p:=by
          have:(v1*4294967296+v2+1)*p<=((v1+1)*4294967296)*p:=Nat.mul_le_mul_right _ Z
          rw [Nat.add_mul,Nat.one_mul] at this;exact this
        omega
      have h3:(top*4294967296)*p<(v1+1)*4294967296*p*4294967296:=by
        have:(top*4294967296)*p<=(top*4294967296+u2)*p:=Nat.mul_le_mul_right _ Z
        have:V*4294967296<=(v1+1)*4294967296*p*4294967296:=Nat.mul_le_mul_right _ (Nat.le_of_lt hV2)
        omega
      have h4:top*4294967296<(v1+1)*4294967296*4294967296:=by
        rw [Nat.mul_right_comm _ p] at h3
        exact Nat.lt_of_mul_lt_mul_right h3
      have h5:d*v1<4294967296*v1:=by have:=h.eq;omega
      have:=Nat.lt_of_mul_lt_mul_right h5
      omega
    · exact hr.1
  refine ⟨hd,?_⟩
  have ht:d*v2<=r*4294967296+u2:=by
    rcases hend with hr|hr
    · have:d*v2<=4294967295*4294967295:=Nat.mul_le_mul hd Z
      omega
    · exact hr.2
  have hle:d*V<=W+V:=by
    have a1:d*(v1*4294967296+v2)<=top*4294967296+u2:=by
      rw [Nat.mul_add,<-Nat.mul_assoc];have:=h.eq;omega
    have a2:d*(v1*4294967296+v2)*p<=(top*4294967296+u2)*p:=Nat.mul_le_mul_right _ a1
    have a3:d*m<=4294967296*p:=Nat.mul_le_mul Z (Nat.le_of_lt hm)
    have a4:4294967296*p<=V:=by
      rw [hV]
      have:4294967296*p<=(v1*4294967296+v2)*p:=Nat.mul_le_mul_right _ Z
      omega
    have e:d*V=d*(v1*4294967296+v2)*p+d*m:=by rw [hV,Nat.mul_add,Nat.mul_assoc]
    omega
  have h6:d<=W/V+1:=by
    rcases Nat.eq_zero_or_pos d with h0|h0
    · rw [h0];exact xH _
    · have:(d-1)*V<=W:=by
        obtain ⟨e,rfl⟩:∃e,d=e+1:=⟨d-1,(Nat.succ_pred_eq_of_pos h0).symm⟩
        rw [Nat.add_mul] at hle;simp;omega
      have:=(Nat.le_div_iff_mul_le hVp).2 this
      generalize W/V=q at *
      omega
  have:=h.low
  generalize W/V=q at *
  omega
section
variable {P:Program} {Q:Exit->Act->World->Prop} {n:Nat} {F:List (Nat×Value)} {w0:BC} {L:List As}
theorem xD {c:Code} (h:OkC P c (Exit.noGoto Q) n F w0 L):OkC P (.scope c) Q n F w0 L:=λa w ha hw=>wp_scope_straight (h a w ha hw)
theorem xE {l:Nat} (h:OkQ Q .normal n F w0 L):OkC P (.label l) Q n F w0 L:=λa w ha hw=>wp_label (h a w ha hw)
theorem OkQ.scope_normal (h:OkQ Q .normal n F w0 L):OkQ (Exit.noGoto Q) .normal n F w0 L:=h
theorem OkQ.scope_ret (h:OkQ Q .ret n F w0 L):OkQ (Exit.noGoto Q) .ret n F w0 L:=h
theorem AL.callBB {ops:Array Oper} {rest:List Oper} {o:Oper} {d:Nat} {f:FuncId} {args:Array Value} {V:Nat->Nat->Value} {T T2:TypeId} {cs cs2:List Value} (hw:Wt ops n F o)
    (he:∀a w,Frm n a F->Own w0 w L->(execOp a.eval o).run P w=.ok (.enter f args) w)
    (hc:∀w,Own w0 w L->Calls P f args w λe w'=>∃b b2,e=.returned (V b b2)/\Gx w.heap.size w w'/\w.heap.size<=b/\w.heap.size<=b2/\b≠b2/\w'.heap[b]?=some (.cells cs.toArray T (0,0))/\w'.heap[b2]?=some (.cells cs2.toArray T2 (0,0)))
    (ho:o.dst=some d) (hd:d<n) (next:∀b b2,AL P ops rest Q n ((d,V b b2)::F) w0 (AR b T cs::AR b2 T2 cs2::L)):AL P ops (o::rest) Q n F w0 L:=λa w ha hW=>by
  unfold wpList
  rw [if_pos (hw a ha)]
  left
  unfold Oper.wp
  rw [he a w ha hW,Oper.upon_enter]
  refine (hc w hW).mono ?_
  rintro e w' ⟨b,b2,rfl,hb,h1,h2,hne,hcell,hcell2⟩
  rw [ho]
  have hW2:Own w0 w' (AR b2 T2 cs2::L):=hW.add rfl hb h2 ⟨_,hcell2,rfl⟩
  refine next b b2 _ _ (ha.put hd) ⟨hW2.1,λx hx c hc=>?_,?_⟩
  · rcases xL.1 hx with rfl|hx
    · injection hc with hc;subst hc
      exact ⟨.inr (.inl (xK hW.1.size h1)),_,hcell,rfl⟩
    · exact hW2.2.1 x hx c hc
  · refine List.pairwise_cons.2 ⟨λy hy=>.inr λc hc=>?_,hW2.2.2⟩
    injection hc with hc;subst hc
    rcases xL.1 hy with rfl|hy
    · intro e;injection e with e;exact hne e.symm
    · intro e
      have:=hW.lt hy e
      omega
end
end
section
set_option maxRecDepth 100000
theorem Tc (a y p c:Nat) (bs:List Nat) (hbs:W32 bs) (hla:nw a<=bs.length) (hbd:∀i,i<nw a->bs.getD i 0=(AP a).getD i 0) (ha:nw a<=1099511627776) (hy:0<y) (hy2:y<4294967296) (w:World) (hp:w.heap[p]?=some (.cells (Ao bs).toArray 92 (0,0))):Calls prog 188 #[(qw (jk p) (nw a) c),(vK .u32 y)] w (λe w'=>∃b,e=.returned (.tuple #[.slice (jk b) (nw a) (nw a),.int .u32 ((a%y:Nat):Int)])/\Gx w.heap.size w w'/\w.heap.size<=b/\w'.heap[b]?=some (.cells (Ao (C6 (nw a) (a/y))).toArray 92 (0,0))):=by
 refine Ab (args:=[(qw (jk p) (nw a) c),(vK .u32 y)]) func188 O O (Av O) (zN (sL [0,1] O) (q4 (asg' O (asg' O (oNl' (q2 (AM O (AG (v:=(vN (nw a))) (AC O underlying255) O (zZ (V:=λb1=>(qw (jk b1) (nw a) (nw a))) (T:=92) (cs:=Ao (List.replicate (nw a) 0)) (AJ O) (Dg (m:=nw a) (c:=nw a) O O Z Z) O (Av O) λb1=>asg' O (q6 (sL [0,1,4,5] O) ?_))))))))))
 refine q4 (AM O (AG (v:=(vN (nw a))) (AC O underlying255) O (AG (BY (c:=(((nw a:Nat):Int)-1)) O O (BP Z Z)) O (asg' O (oNl' (zB (sL [0,1,4,5,6] O) (zA (zI ?_))))))))
 refine yS (tg λ(k:Nat) (qs:List Nat) (r:Nat)=>k<=nw a/\qs.length=nw a/\W32 qs/\r<y/\(∀j,j<k->qs.getD j 0=0)/\val qs*y+r*4294967296^k=a/4294967296^k*4294967296^k) (tg λ(k:Nat) (qs:List Nat) (r:Nat)=>[(0,(qw (jk p) (nw a) c)),(1,(vK .u32 y)),(4,(qw (jk b1) (nw a) (nw a))),(6,(vI (((k:Nat):Int)-1))),(5,(vK .u32 r))]) (tg λ(k:Nat) (qs:List Nat) (r:Nat)=>[AR b1 92 (Ao qs)]) (tg λ(k:Nat) (qs:List Nat) (r:Nat)=>k) (nw a) (List.replicate (nw a) 0) 0 (⟨Nat.le_refl _,by simp,W32.zeros _,hy,λj _=>by simp [List.getD_eq_getElem?_getD,List.getElem?_replicate];split<;>rfl,by rw [Ep,Nat.div_eq_of_lt (Bz a)];simp⟩) (sF O) sr (λk qs r hJ=>?_)
 obtain ⟨hk,hl,hw32,hr,hz,hv⟩:=hJ
 refine zV (q4 (AM O (AG (Bp (c:=(decide ((0:Int)<=(((k:Nat):Int)-1)))) O O O) O (oNl' (zB (sL [0,1,4,6,5,14] O) (zA ?_))))))
 refine zM O (λhc0=>?_) (λhc0=>?_)
 ·replace hc0:=xR hc0
  have hk0:0<k:=by omega
  refine yF (k:=6) (u:=(vN (k-1))) O (by congr 1;omega) (zG (q1 (zI (zH (AM O (AM O (AM O (AM O (AM O (AG (v:=(pP p (k-1))) (AO (j:=k-1) O O underlying255 sizeOf92 O Z jX) O ?_))))))))))
  have hx1:bs.getD (k-1) 0<4294967296:=W32.getD hbs (k-1)
  refine AG (Bc (v:=(vK .u32 (bs.getD (k-1) 0))) O (λw' hw=>CA.at0 (hw.oldCA jX (FA hp)) (BH (xs:=bs) (j:=(k-1)) Z)) isAgg92) O ?_
  have hdg:a/4294967296^(k-1)%4294967296<4294967296:=Nat.mod_lt _ Z
  have hq9:(r*4294967296+a/4294967296^(k-1)%4294967296)/y<4294967296:=Nat.div_lt_of_lt_mul (by have h9:(r+1)*4294967296<=y*4294967296:=Nat.mul_le_mul_right _ hr;omega)
  have hr9:(r*4294967296+a/4294967296^(k-1)%4294967296)%y<y:=Nat.mod_lt _ hy
  refine zC (k:=24) (u:=(vK .u32 (a/4294967296^(k-1)%4294967296))) O (by rw [hbd _ Z,IC]) (AM O (ck' call231 (Ug r (a/4294967296^(k-1)%4294967296) y Z Z Z) O (AM O (AG (AZ (v:=(vK .u32 ((r*4294967296+(a/4294967296^(k-1)%4294967296))/y))) O O) O (AG (AZ (v:=(vK .u32 ((r*4294967296+(a/4294967296^(k-1)%4294967296))%y))) O O) O (AG (v:=(pP b1 (k-1))) (AO (j:=k-1) O O underlying255 sizeOf92 O Z jX) O (zw (i:=0) (off:=(k-1)) (vs:=[(vK .u32 ((r*4294967296+(a/4294967296^(k-1)%4294967296))/y))]) (cs':=Ao (qs.set (k-1) ((r*4294967296+(a/4294967296^(k-1)%4294967296))/y))) (L':=[AR b1 92 (Ao (qs.set (k-1) ((r*4294967296+(a/4294967296^(k-1)%4294967296))/y)))]) (AJ O) O O O O O sizeOf92 O (C7 (BW _) Z) (CZ Z) O (asg' O (oNl' (zB (sL [0,1,4,6,5] O) (zJ ?_)))))))))))
  refine zA (zH (AM O (AG (BY (c:=(((k-1:Nat):Int)-1)) O O (BP Z Z)) O (asg' O (oNl' (zB (sL [0,1,4,6,5] O) ?_))))))
  have hst:=Q1 (y:=y) (k:=k-1) hl Z (λj hj=>hz j Z) hr (a:=a) (by rw [show k-1+1=k by omega];exact hv)
  exact yB (k-1) (qs.set (k-1) ((r*4294967296+a/4294967296^(k-1)%4294967296)/y)) ((r*4294967296+a/4294967296^(k-1)%4294967296)%y) (⟨Z,by rw [List.length_set];exact hl,W32.set hw32 hq9 _,hr9,λj hj=>by rw [List.getD_eq_getElem?_getD,List.getElem?_set_ne Z,<-List.getD_eq_getElem?_getD];exact hz j Z,hst⟩) Z (sF O) sr
 ·replace hc0:=xQ hc0
  have hk0:k=0:=by omega
  have hv0:=hv
  rw [hk0] at hv0
  have hd:=Qn hr hv0
  refine zU (zP (zx (zS (q2 (AM O (AM O (asg' O (asg' O (oNl' (zB (sL [0,1,4,6,5] O) (zA ?_)))))))))))
  refine zF ?_
  have hcells:(some (Obj.cells (Ao qs).toArray 92 (0,0)))=some (Obj.cells (Ao (C6 (nw a) (a/y))).toArray 92 (0,0)):=by rw [IF hw32 hl hd.1]
  exact Dq O (rd_tmp (v:=(qw (jk b1) (nw a) (nw a))) O) (rd_tmp (v:=(vK .u32 r)) O) (λw hw=>⟨b1,by rw [hd.2],hw.out,hw.fresh (i:=0) O,(hw.get (i:=0) O).trans hcells⟩)
theorem Uk (a y p c:Nat) (ha:nw a<=1099511627776) (hy:0<y) (hy2:y<4294967296) (w:World) (hp:w.heap[p]?=some (.cells (Ao (A8 a)).toArray 92 (0,0))):Calls prog 188 #[(qw (jk p) (nw a) c),(vK .u32 y)] w (λe w'=>∃b,e=.returned (.tuple #[.slice (jk b) (nw a) (nw a),.int .u32 ((a%y:Nat):Int)])/\Gx w.heap.size w w'/\w.heap.size<=b/\w'.heap[b]?=some (.cells (Ao (C6 (nw a) (a/y))).toArray 92 (0,0))):=Tc a y p c (A8 a) (Cm a) (Ci a) (λi hi=>D1 hi) ha hy hy2 w hp
theorem Lg (p m c s:Nat) (bs:List Nat) (hbs:W32 bs) (hm:m<=bs.length) (hml:m<=1099511627776) (hs:s<32) (w:World) (hp:w.heap[p]?=some (.cells (Ao bs).toArray 92 (0,0))):Calls prog 273 #[(qw (jk p) m c),(vN s)] w (λe w'=>∃b,e=.returned (.slice (jk b) (m+1) (m+1))/\Gx w.heap.size w w'/\w.heap.size<=b/\w'.heap[b]?=some (.cells (Ao (C6 (m+1) (val (bs.take m)*2^s))).toArray 92 (0,0))):=by
 refine Ab (args:=[(qw (jk p) m c),(vN s)]) func273 O O (Av O) (zN (sL [0,1] O) (q4 (asg' O (oNl' (q2 (AM O (AG (v:=(vN m)) (AC O underlying255) O (AG (AW (c:=((m+1:Nat):Int)) O O (AU (a:=m) (b:=1) Z)) O (zZ (V:=λb1=>(qw (jk b1) (m+1) (m+1))) (T:=92) (cs:=Ao (List.replicate (m+1) 0)) (AJ O) (Dg (m:=m+1) (c:=m+1) O O Z Z) O (Av O) λb1=>asg' O (q3 (sL [0,1,4,5] O) ?_))))))))))
 refine asg' O (oNl' (q1 (q4 (AM O (AG (v:=(vN m)) (AC O underlying255) O (AM O (oNl' (zA (zI ?_)))))))))
 refine yS (tg λ(i:Nat) (os:List Nat) (c2:Nat)=>i<=m/\os.length=m+1/\W32 os/\c2<2^s/\(∀j,i<=j->os.getD j 0=0)/\val os+c2*4294967296^i=val (bs.take i)*2^s) (tg λ(i:Nat) (os:List Nat) (c2:Nat)=>[(0,(qw (jk p) m c)),(1,(vN s)),(4,jj),(5,(qw (jk b1) (m+1) (m+1))),(13,(qw (jk p) m c)),(14,(vN m)),(15,(vN i)),(6,(vK .u32 c2))]) (tg λ(i:Nat) (os:List Nat) (c2:Nat)=>[AR b1 92 (Ao os)]) (tg λ(i:Nat) (os:List Nat) (c2:Nat)=>m-i) 0 (List.replicate (m+1) 0) 0 (⟨xH _,by simp,W32.zeros _,Nat.pow_pos Z,λj _=>by simp [List.getD_eq_getElem?_getD,List.getElem?_replicate];split<;>rfl,by rw [Ep];simp [val]⟩) (sF O) sr (λi os c2 hJ=>?_)
 obtain ⟨hi,hl,hw32,hcb2,h0,hv⟩:=hJ
 refine q4 (AG (Ae (c:=(decide (i<m))) O O (CM (a:=i) (b:=m))) O (oNl' (q1 ?_)))
 refine zM O (λhc0=>?_) (λhc0=>?_)
 ·replace hc0:=xR hc0
  refine zG (q1 (zI (q4 (AM O (AG (v:=(pP p i)) (AO (j:=i) O O underlying255 sizeOf92 O Z jX) O ?_)))))
  have hx1:bs.getD i 0<4294967296:=W32.getD hbs i
  refine AG (Bc (v:=(vK .u32 (bs.getD i 0))) O (λw' hw=>CA.at0 (hw.oldCA jX (FA hp)) (BH (xs:=bs) (j:=i) Z)) isAgg92) O (asg' O (asg' O (q3 (sL [0,1,4,5,13,14,15,6,7,8] O) (AM O (AM O (AM O (AM O ?_)))))))
  have hxb:=hbs.getD i
  have hsl:=aY hxb hs
  have hs32:(2:Nat)^s<=2^31:=Nat.pow_le_pow_right Z Z
  have hso:=Rq (w:=bs.getD i 0) hcb2 hs
  refine AG (v:=(vK .u32 (bs.getD i 0*2^s%4294967296))) (Gy (s:=s) O O O (show s<=32 by omega) M0) O (AM O (AG (Ji (c:=((bs.getD i 0*2^s%4294967296+c2:Nat):Int)) O O (Kn Z Z (Zx hxb hcb2 hs))) O (AG (v:=(pP b1 i)) (AO (j:=i) O O underlying255 sizeOf92 O Z jX) O (zw (i:=0) (off:=i) (vs:=[(vK .u32 (bs.getD i 0*2^s%4294967296+c2))]) (cs':=Ao (os.set i (bs.getD i 0*2^s%4294967296+c2))) (L':=[AR b1 92 (Ao (os.set i (bs.getD i 0*2^s%4294967296+c2)))]) (AJ O) O O O O O sizeOf92 O (C7 (BW _) Z) (CZ Z) O (oNl' (zB (sL [0,1,4,5,13,14,15,6,8] O) (zA (zH (AM O (AG (A9 (c:=((bs.getD i 0:Nat):Int)) O underlying92 underlying69 (BV Z)) O (AM O ?_)))))))))))
  refine AG (v:=(vK .u64 (bs.getD i 0*2^s))) (Gy (s:=s) O O O (show s<=64 by omega) (HB hsl.1)) O (AG (DI (s:=32) (c:=(((bs.getD i 0*2^s)/4294967296:Nat):Int)) O O O jY (GY (a:=bs.getD i 0*2^s) (s:=32))) O (AG (A9 (c:=(((bs.getD i 0*2^s)/4294967296:Nat):Int)) O underlying69 underlying92 (C_ Z)) O (asg' O (oNl' (zB (sL [0,1,4,5,13,14,15,6,8] O) (zJ (zA (zH (AG (AW (c:=((i+1:Nat):Int)) O O (AU (a:=i) (b:=1) Z)) O (AM O (oNl' ?_)))))))))))
  refine zB (sL [0,1,4,5,13,14,15,6,8] O) ?_
  exact yB (i+1) (os.set i (bs.getD i 0*2^s%4294967296+c2)) (bs.getD i 0*2^s/4294967296) (⟨Z,by rw [List.length_set];exact hl,W32.set hw32 hso _,hsl.2,λj hj=>by rw [List.getD_eq_getElem?_getD,List.getElem?_set_ne Z,<-List.getD_eq_getElem?_getD];exact h0 j Z,Qw hl Z h0 hv⟩) Z (sF O) sr
 ·replace hc0:=xQ hc0
  have him:i=m:=by omega
  have hs32:(2:Nat)^s<=2^31:=Nat.pow_le_pow_right Z Z
  have hcb:c2<4294967296:=by omega
  refine zU (zP (zx (zS (q2 (AM O (AM O (AG (v:=(vN m)) (AC O underlying255) O (AM O (AG (v:=(pP b1 m)) (AO (j:=m) O O underlying255 sizeOf92 O Z jX) O (zw (i:=0) (off:=m) (vs:=[(vK .u32 c2)]) (cs':=Ao (os.set m c2)) (L':=[AR b1 92 (Ao (os.set m c2))]) (AJ O) O O O O O sizeOf92 O (C7 (BW _) Z) (CZ Z) O (q3 (sL [0,1,4,5,13,14,15,6] O) ?_)))))))))))
  refine AM O (asg' O (oNl' (zB (sL [0,1,4,5,13,14,15,6] O) (zA (zF ?_)))))
  have hrow:os.set m c2=C6 (m+1) (val (bs.take m)*2^s):=IF (W32.set hw32 hcb _) (by rw [List.length_set];exact hl) (by rw [Is hl Z (h0 m Z),<-him];exact hv)
  have hcells:(some (Obj.cells (Ao (os.set m c2)).toArray 92 (0,0)))=some (Obj.cells (Ao (C6 (m+1) (val (bs.take m)*2^s))).toArray 92 (0,0)):=by rw [hrow]
  exact ret_one O (rd_tmp (v:=(qw (jk b1) (m+1) (m+1))) O) (λw hw=>⟨b1,rfl,hw.out,hw.fresh (i:=0) O,(hw.get (i:=0) O).trans hcells⟩)
end
section
def wpAnyS (P:Program) (ops:Array Oper) (Q:Exit->Act->World->Prop) (S:Array Bool->World->Prop):Nat->Array Bool->Act->World->Prop
  | 0,listed,a,w=>Region.ready .any ops listed=[]/\Q .normal a w
  | fuel+1,listed,a,w=>(Region.ready .any ops listed=[]->Q .normal a w) /\
    ∀i∈Region.ready .any ops listed,wpOp P ops Q i (λa' w'=>S (listed.setIfInBounds i true) w'/\wpAnyS P ops Q S fuel (listed.setIfInBounds i true) a' w') a w
section
variable {P:Program} {ops:Array Oper} {Q:Exit->Act->World->Prop} {S:Array Bool->World->Prop}
theorem IH:∀(fuel:Nat) (listed:Array Bool) (a:Act) (w:World),wpAnyS P ops Q S fuel listed a w->wpAny P .any ops Q fuel listed a w
  | 0,_,_,_,h=>h
  | fuel+1,_,_,_,h=>⟨h.1,λi hi=>wpOp_mono (λa' w' h'=>IH fuel _ a' w' h'.2) (h.2 i hi)⟩
theorem Jz {T:World->Prop}:∀(fuel:Nat) (listed:Array Bool) (a:Act) (w:World),(∀l',(∀j,listed.getD j false=true->l'.getD j false=true)->∀w,T w->S l' w)->wpAnyH P .any ops Q T fuel listed a w->wpAnyS P ops Q S fuel listed a w
  | 0,_,_,_,_,h=>h
  | fuel+1,listed,a,w,hT,h=>⟨h.1,λi hi=>wpOp_mono (λa' w' h'=>⟨hT _ (λj hj=>getD_set_true hj) w' h'.1,Jz fuel _ a' w' (λl' hl w hw=>hT l' (λj hj=>hl j (getD_set_true hj)) w hw) h'.2⟩) (h.2 i hi)⟩
def Ey (ops:Array Oper) (listed:Array Bool):Prop:=∀(j:Nat) (o:Oper),listed.getD j false=true->ops[j]?=some o->∀e∈o.after,Region.binds .any e=true->listed.getD e.on false=true
theorem Ey.set {listed:Array Bool} (h:Ey ops listed) {i:Nat} (hi:i∈Region.ready .any ops listed):Ey ops (listed.setIfInBounds i true):=λj o hj ho e he hb=>by
  obtain ⟨h0,o',ho',hall⟩:=mem_ready.1 hi
  by_cases e1:i=j
  · subst e1
    rw [ho'] at ho;injection ho with ho;subst ho
    exact getD_set_true (hall e he hb)
  · rw [getD_set_ne false e1] at hj
    exact getD_set_true (h j o hj ho e he hb)
theorem GU {T:World->Prop} {i:Nat} {oi:Oper} {v:Value} (hi:ops[i]?=some oi) (hsel:∀(j:Nat) (o:Oper) cs b,ops[j]?=some o->o.op≠.select cs b) (hQ:∀c a w,Q (.panic c) (a.put oi.dst v) w->Q (.panic c) a w)
    (hT:∀listed w,Ey ops listed->i∈Region.ready .any ops listed->S listed w->T w) (hS:∀listed w,S (listed.setIfInBounds i true) w↔S listed w) :
    ∀(fuel:Nat) (listed:Array Bool) (a:Act) (w:World),
      (∀j oj,ops[j]?=some oj->j≠i->listed.getD j true=false->(∀e∈oj.after,Region.binds .any e=true->e.on≠i)->oi.apart ops oj=true) ->
      i∈Region.ready .any ops listed->YieldsIf P ops T oi v a->S listed w->Ey ops listed ->
      wpAnyS P ops Q S fuel (listed.setIfInBounds i true) (a.put oi.dst v) w->wpAnyS P ops Q S (fuel+1) listed a w:=by
  intro fuel
  induction fuel with
  | zero =>
    intro listed a w _ hr hy hw hcl H
    refine ⟨λh=>(by rw [h] at hr;cases hr),λj hj=>?_⟩
    by_cases hji:j=i
    · subst hji;exact hy.wpOp hi (hT listed w hcl hr hw) ⟨(hS _ _).2 hw,H⟩
    · have:=ready_mono hj hji
      rw [H.1] at this
      cases this
  | succ fuel ih =>
    intro listed a w hfree hr hy hw hcl H
    refine ⟨λh=>(by rw [h] at hr;cases hr),λj hj=>?_⟩
    by_cases hji:j=i
    · subst hji;exact hy.wpOp hi (hT listed w hcl hr hw) ⟨(hS _ _).2 hw,H⟩
    · have h1:=H.2 j (ready_mono hj hji)
      obtain ⟨hjun,oj,hoj,hall⟩:=mem_ready.1 hj
      have hnot:∀e∈oj.after,Region.binds .any e=true->e.on≠i:=λe he hb heq=>by
        have h1:=hall e he hb
        have h0:=(mem_ready.1 hr).1
        rw [heq] at h1
        rcases Nat.lt_or_ge i listed.size with h'|h'
        · simp [h'] at h0 h1;rw [h0] at h1;cases h1
        · simp [Array.getElem?_eq_none h'] at h1
      have h2:=wpOp_putIf hoj (hfree j oj hoj hji hjun hnot) (λcs b=>hsel i oi cs b hi) (λcs b=>hsel j oj cs b hoj) hQ hy h1
      have hfree':∀k ok,ops[k]?=some ok->k≠i->(listed.setIfInBounds j true).getD k true=false ->
          (∀e∈ok.after,Region.binds .any e=true->e.on≠i)->oi.apart ops ok=true:=λk ok hk hki hun hno=>by
        refine hfree k ok hk hki ?_ hno
        by_cases hjk:j=k
        · subst hjk;exact hjun
        · rw [getD_set_ne true hjk] at hun;exact hun
      refine wpOp_mono (λa' w' h3=>?_) h2
      obtain ⟨h4,h5,h6⟩:=h3
      rw [Array.setIfInBounds_comm _ _ (Ne.symm hji)] at h5 h6
      have h7:=(hS _ _).1 h5
      exact ⟨h7,ih (listed.setIfInBounds j true) a' w' hfree' (ready_mono hr (Ne.symm hji)) h4 h7 (hcl.set hj) h6⟩
end
def B6 (P:Program) (ops:Array Oper) (Q:Exit->Act->World->Prop) (n:Nat) (w0:BC) (Lro:List As) (K:List (Nat×Value)->List As->Prop):List (Nat×Bool)->List (Nat×Value)->List As->Prop
  | [],F,L=>K F L
  | (i,true)::r,F,L=>∃o d v,ops[i]?=some o/\o.dst=some d/\d<n/\bX P ops n w0 Lro F o v/\B6 P ops Q n w0 Lro K r ((d,v)::F) L
  | (i,false)::r,F,L=>∃o,ops[i]?=some o/\AL P ops [o] (PE Q n w0 Lro λF' L'=>B6 P ops Q n w0 Lro K r F' L') n F w0 L
def K0 (P:Program) (ops:Array Oper) (Q:Exit->Act->World->Prop) (n:Nat) (w0:BC) (LB:List As) (k:Nat) (e2:List (Nat×Bool)) (F:List (Nat×Value)) (L:List As):Prop :=
  ∃o,ops[k]?=some o/\AL P ops [o] (PE Q n w0 LB λF' L'=>OkE P ops Q n w0 LB e2 F' L') n F w0 L
def Lr (l:List Oper) (i:Nat):Bool:=match l[i]? with
  | some o=>(match o.op with
    | .extract _ _=>true
    | _=>false)
  | none=>false
theorem XU {P:Program} {l:List Oper} {i:Nat} {o:Oper} {a:Act} {v:Value} {w:World} (w':World) (hi:l[i]?=some o) (hx:Lr l i=true) (h:(execOp a.eval o).run P w=.ok (.value v) w):(execOp a.eval o).run P w'=.ok (.value v) w':=by
  unfold Lr at hx
  rw [hi] at hx
  obtain ⟨d,op,t,p,af,g⟩:=o
  cases op<;>first|(simp at hx;done)|skip
  rename_i x j
  simp only [execOp] at h ⊢
  unfold Instr.extract at h ⊢
  revert h
  cases a.eval x<;>simp
  rename_i vs
  cases vs[j]?<;>simp
def RO (l:List Oper) (e1:List (Nat×Bool)) (k:Nat) (e2:List (Nat×Bool)):Bool :=
  EJ l [] none (e1++(k,false)::e2)&&Nx l [] (e1++(k,false)::e2)&&Nat.beq (e1.length+e2.length+1) l.length&&Region.noSelect l.toArray&&(match l[k]? with|some o=>e1.all λe=>!e.2||B3 o e.1||Lr l e.1|none=>false)
section
variable {P:Program} {ops:Array Oper} {Q:Exit->Act->World->Prop} {n:Nat} {w0:BC} {LA LB L L':List As} {F F':List (Nat×Value)} {l:List Oper} {e2:List (Nat×Bool)} {k:Nat}
theorem PQ (hsel:Region.noSelect l.toArray=true) (hQ:∀c a d v w,Q (.panic c) (a.put d v) w->Q (.panic c) a w) (hAB:LB.Sublist LA) {ok:Oper} (hok:l[k]?=some ok) :
    ∀(es:List (Nat×Bool)) (D:List Nat) (p:Option Nat) (listed:Array Bool) (a:Act) (w:World) (F:List (Nat×Value)) (L:List As),
      (es.all λe=>!e.2||B3 ok e.1||Lr l e.1)=true->k ∉ D->EJ l D p (es++(k,false)::e2)=true->Lst l D listed->(∀i,i<l.length->i∈D\/(es++(k,false)::e2).any (λe=>e.1 == i)=true)->Wk LA L->Frm n a F->Own w0 w L->B6 P l.toArray Q n w0 LA (K0 P l.toArray Q n w0 LB k e2) es F L ->
      wpAnyS P l.toArray Q (λlisted w=>Own w0 w (if listed.getD k false=true then LB else LA)) (es.length+e2.length+1) listed a w:=by
  have only:∀(i:Nat) (r:List (Nat×Bool)) (D:List Nat) (p:Option Nat) (listed:Array Bool),EJ l D p ((i,false)::r)=true->Lst l D listed->(∀j,j<l.length->j∈D\/((i,false)::r).any (λe=>e.1 == j)=true)->∀j,j∈Region.ready .any l.toArray listed->j=i:=λi r D p listed hc hL hall j hj=>by
    obtain ⟨o,hg⟩:=D0 hc
    obtain ⟨h0,oj,hoj,_⟩:=mem_ready.1 hj
    have hjl:j<l.length:=by simpa using (Array.getElem?_eq_some_iff.1 hoj).1
    rw [CP (by rw [hL.size];exact hjl)] at h0
    rcases hall j hjl with h1|h1
    · rw [(hL.mem j).1 h1] at h0;cases h0
    · obtain ⟨e,he,rfl⟩:=Hp h1
      rcases xL.1 he with rfl|he
      · rfl
      · exact absurd hj (Ec hL.cl hg.tl (hL.no hg.nin) (λe he=>hL.no λhd=>(Dr hg.tl e he).1 (List.mem_cons_of_mem _ hd)) e he)
  have nxt:∀(i:Nat) (b:Bool) (r:List (Nat×Bool)) (D:List Nat),(∀j,j<l.length->j∈D\/((i,b)::r).any (λe=>e.1 == j)=true)->∀j,j<l.length->j∈i::D\/r.any (λe=>e.1 == j)=true:=λi b r D hall j hj=>by
    rcases hall j hj with h1|h1
    · exact .inl (List.mem_cons_of_mem _ h1)
    · simp only [List.any_cons,xY,beq_iff_eq] at h1
      rcases h1 with h1|h1
      · exact .inl (h1▸List.mem_cons_self)
      · exact .inr h1
  intro es
  induction es with
  | nil =>
    intro D p listed a w F L hE hkD hc hL hall hro ha hw h
    obtain ⟨o',ho',h⟩:=h
    simp only [List.nil_append,List.length_nil,Nat.zero_add] at hc hall ⊢
    obtain ⟨o,hg⟩:=D0 hc
    have hat:l.toArray[k]?=some o:=by simpa using hg.at_
    rw [hat] at ho';injection ho' with ho';subst ho'
    have hkl:k<l.length:=(List.getElem?_eq_some_iff.1 hg.at_).1
    have hp:∀e∈o.after,Region.binds .any e=true->listed.getD e.on false=true:=λe he hb=>(hL.mem _).1 (hg.pre e he hb)
    have hrd:k∈Region.ready .any l.toArray listed:=mem_ready.2 ⟨by rw [CP (by rw [hL.size];exact hkl)];exact hL.no hg.nin,o,hat,hp⟩
    refine ⟨λh0=>absurd hrd (by rw [h0];exact List.not_mem_nil),λj hj=>?_⟩
    have hjk:=only k e2 D p listed hc hL hall j hj
    subst hjk
    have hlk:(listed.setIfInBounds j true).getD j false=true:=by rw [Lp _ _ _ _ (by rw [hL.size];exact hkl)];simp
    refine Ii hat (h a w ha hw) λF' L' a' w' h1 h2 h3 h4=>⟨by show Own _ _ (ite _ _ _);rw [if_pos hlk];exact h3 _ _ h2,?_⟩
    exact Jz (T:=λw=>Own w0 w LB) _ _ _ _ (λl' hl w hw=>by show Own _ _ (ite _ _ _);rw [if_pos (hl j hlk)];exact hw) (Ld hsel hQ e2 (j::D) (some j) _ a' w' F' L' hg.tl (hL.add hg.at_ hp) (nxt j false e2 D hall) h3 h1 h2 h4)
  | cons e r ih =>
    intro D p listed a w F L hE hkD hc hL hall hro ha hw h
    obtain ⟨i,b⟩:=e
    rw [List.cons_append] at hc hall
    obtain ⟨o,hg⟩:=D0 hc
    have hat:l.toArray[i]?=some o:=by simpa using hg.at_
    have hil:i<l.length:=(List.getElem?_eq_some_iff.1 hg.at_).1
    have hp:∀e∈o.after,Region.binds .any e=true->listed.getD e.on false=true:=λe he hb=>(hL.mem _).1 (hg.pre e he hb)
    have hrd:i∈Region.ready .any l.toArray listed:=mem_ready.2 ⟨by rw [CP (by rw [hL.size];exact hil)];exact hL.no hg.nin,o,hat,hp⟩
    have hki:k≠i:=λe=>(Dr hg.tl (k,false) (xG _ List.mem_cons_self)).1 (e▸List.mem_cons_self)
    have hkD':k ∉ i::D:=λh=>(xL.1 h).elim hki hkD
    have hE':(r.all λe=>!e.2||B3 ok e.1||Lr l e.1)=true:=by rw [List.all_cons,xZ] at hE;exact hE.2
    have hnk:listed.getD k false=false:=hL.no hkD
    have hnk':(listed.setIfInBounds i true).getD k false=false:=(hL.add hg.at_ hp).no hkD'
    rw [show ((i,b)::r).length+e2.length+1=r.length+e2.length+1+1 by simp only [List.length_cons];omega]
    cases b with
    | true =>
      obtain ⟨o',d,v,ho',hd,hdn,hy,hn⟩:=h
      rw [hat] at ho';injection ho' with ho';subst ho'
      have hyield:YieldsIf P l.toArray (λw=>Own w0 w LA) o v a:=by
        rcases hy with ⟨h1,h2⟩|⟨h1,h2⟩
        · exact .inl ⟨h1 a ha,λw hW=>h2 a w ha hW⟩
        · exact .inr ⟨h1 a ha,h2⟩
      have hedge:B3 ok i=true\/Lr l i=true:=by
        rw [List.all_cons,xZ] at hE
        simpa using hE.1
      rcases hedge with hedge|hext
      · refine GU hat (Region.noSelect_spec hsel) (λc a w=>bY hQ c a o.dst v w) (T:=λw=>Own w0 w LA) (λl' w hcl hr hS=>?_) (λl' w=>?_) _ listed a w (G_ hL hg.at_ (hg.fr O) hp) hrd hyield ?_ (λj oj hj ho e he hb=>hL.cl j oj hj (by simpa using ho) e he hb) ?_
        · have hkf:¬l'.getD k false=true:=λhk=>by
            obtain ⟨e,he,hb,rfl⟩:=Cc hedge
            have h1:=hcl k ok hk (by simpa using hok) e he hb
            obtain ⟨h0,_⟩:=mem_ready.1 hr
            rcases Nat.lt_or_ge e.on l'.size with h5|h5
            · rw [CP h5] at h0;rw [h0] at h1;cases h1
            · simp [Array.getElem?_eq_none h5] at h1
          have hS:Own w0 w (if l'.getD k false=true then LB else LA):=hS
          rw [if_neg hkf] at hS;exact hS
        · show Own _ _ (ite _ _ _)↔Own _ _ (ite _ _ _);rw [getD_set_ne false (Ne.symm hki)]
        · show Own _ _ (ite _ _ _);rw [if_neg (by rw [hnk];exact Bool.false_ne_true)];exact hro _ _ hw
        · exact ih (i::D) p _ _ w ((d,v)::F) L hE' hkD' hg.tl (hL.add hg.at_ hp) (nxt i true _ D hall) hro (by rw [hd];exact ha.put hdn) hw hn
      · have hyield':YieldsIf P l.toArray (λ_=>True) o v a:=by
          rcases hy with ⟨h1,h2⟩|⟨h1,h2⟩
          · exact .inl ⟨h1 a ha,λw' _=>XU w' hg.at_ hext (h2 a w ha (hro _ _ hw))⟩
          · exact .inr ⟨h1 a ha,h2⟩
        refine GU hat (Region.noSelect_spec hsel) (λc a w=>bY hQ c a o.dst v w) (T:=λ_=>True) (λ_ _ _ _ _=>trivial) (λl' w=>?_) _ listed a w (G_ hL hg.at_ (hg.fr O) hp) hrd hyield' ?_ (λj oj hj ho e he hb=>hL.cl j oj hj (by simpa using ho) e he hb) ?_
        · show Own _ _ (ite _ _ _)↔Own _ _ (ite _ _ _);rw [getD_set_ne false (Ne.symm hki)]
        · show Own _ _ (ite _ _ _);rw [if_neg (by rw [hnk];exact Bool.false_ne_true)];exact hro _ _ hw
        · exact ih (i::D) p _ _ w ((d,v)::F) L hE' hkD' hg.tl (hL.add hg.at_ hp) (nxt i true _ D hall) hro (by rw [hd];exact ha.put hdn) hw hn
    | false =>
      obtain ⟨o',ho',h⟩:=h
      rw [hat] at ho';injection ho' with ho';subst ho'
      refine ⟨λh0=>absurd hrd (by rw [h0];exact List.not_mem_nil),λj hj=>?_⟩
      have hji:=only i (r++(k,false)::e2) D p listed hc hL hall j hj
      subst hji
      refine Ii hat (h a w ha hw) λF' L' a' w' h1 h2 h3 h4=>⟨by show Own _ _ (ite _ _ _);rw [if_neg (by rw [hnk'];exact Bool.false_ne_true)];exact h3 _ _ h2,?_⟩
      exact ih (j::D) (some j) _ a' w' F' L' hE' hkD' hg.tl (hL.add hg.at_ hp) (nxt j false _ D hall) h3 h1 h2 h4
theorem dT {id:Nat} (e1:List (Nat×Bool)) (k:Nat) (e2:List (Nat×Bool)) (hA:Wk LA L) (hAB:LB.Sublist LA) (hc:RO l e1 k e2=true) (hQ:∀c a d v w,Q (.panic c) (a.put d v) w->Q (.panic c) a w)
    (h:B6 prog l.toArray Q n w0 LA (K0 prog l.toArray Q n w0 LB k e2) e1 F L):OkC prog (.region id l.toArray true) Q n F w0 L:=λa w ha hw=>by
  simp only [RO,xZ] at hc
  obtain ⟨⟨⟨⟨h1,h2⟩,h3⟩,h4⟩,h5⟩:=hc
  have hlen:=Nat.eq_of_beq_eq_true h3
  cases hok:l[k]? with
  | none=>simp [hok] at h5
  | some ok =>
    simp only [hok] at h5
    refine wp_region_any Ew (IH (S:=λlisted w=>Own w0 w (if listed.getD k false=true then LB else LA)) _ _ _ _ ?_)
    rw [show l.toArray.size=e1.length+e2.length+1 by rw [hlen];simp]
    have hst:=Hh (l:=l)
    rw [<-hlen] at hst
    refine PQ h4 hQ hAB hok e1 [] none _ a w.drew F L h5 jX h1 hst (λi hi=>?_) hA ha hw.drew h
    have:=List.all_eq_true.1 h2 i (List.mem_range.2 hi)
    simpa using this
theorem rC {id:Nat} (e1:List (Nat×Bool)) (k:Nat) (e2:List (Nat×Bool)) (hA:LA.Sublist L) (hAB:LB.Sublist LA) (hc:RO l e1 k e2=true) (hQ:∀c a d v w,Q (.panic c) (a.put d v) w->Q (.panic c) a w)
    (h:B6 prog l.toArray Q n w0 LA (K0 prog l.toArray Q n w0 LB k e2) e1 F L):OkC prog (.region id l.toArray true) Q n F w0 L:=dT e1 k e2 (Wk.of hA) hAB hc hQ h
variable {r:List (Nat×Bool)} {i d s b off:Nat} {op:Op} {t ty T:TypeId} {p:String} {af:Array Edge} {u v:Value} {x y:Operand} {cs vs:List Value} {o:Oper} {K:List (Nat×Value)->List As->Prop}
theorem zj (hro:LA.Sublist L') (h:B6 P ops Q n w0 LA K r F' L'):AL P ops [] (PE Q n w0 LA λF' L'=>B6 P ops Q n w0 LA K r F' L') n F' w0 L':=AL.nil λa w ha hw=>⟨F',L',ha,hw,Wk.of hro,h⟩
theorem yv (hro:Wk LA L') (h:B6 P ops Q n w0 LA K r F' L'):AL P ops [] (PE Q n w0 LA λF' L'=>B6 P ops Q n w0 LA K r F' L') n F' w0 L':=AL.nil λa w ha hw=>⟨F',L',ha,hw,hro,h⟩
theorem zp (ho:ops[i]?=some o) (h:AL P ops [o] (PE Q n w0 LA λF' L'=>B6 P ops Q n w0 LA K r F' L') n F w0 L):B6 P ops Q n w0 LA K ((i,false)::r) F L:=⟨o,ho,h⟩
theorem yC (ho:ops[k]?=some o) (h:AL P ops [o] (PE Q n w0 LB λF' L'=>OkE P ops Q n w0 LB e2 F' L') n F w0 L):B6 P ops Q n w0 LA (K0 P ops Q n w0 LB k e2) [] F L:=⟨o,ho,h⟩
theorem B6.pas (ho:ops[i]?=some o) (hw:Wt ops n F o) (he:Ex P n F w0 LA o v) (hd:o.dst=some d) (hn:Nat.ble (d+1) n=true) (next:B6 P ops Q n w0 LA K r ((d,v)::F) L):B6 P ops Q n w0 LA K ((i,true)::r) F L:=⟨o,d,v,ho,hd,Nat.le_of_ble_eq_true hn,.inl ⟨hw,he⟩,next⟩
theorem vE (ho:ops[i]?=some ⟨some d,op,t,p,af,none⟩) (he:Ex P n F w0 LA ⟨some d,op,t,p,af,none⟩ v) (hn:Nat.ble (d+1) n=true) (next:B6 P ops Q n w0 LA K r ((d,v)::F) L):B6 P ops Q n w0 LA K ((i,true)::r) F L:=B6.pas ho (AJ rfl) he rfl hn next
theorem vM (ho:ops[i]?=some ⟨some d,.move x,t,p,af,none⟩) (hx:evF F x=some v) (hn:Nat.ble (d+1) n=true) (next:B6 P ops Q n w0 LA K r ((d,v)::F) L):B6 P ops Q n w0 LA K ((i,true)::r) F L:=vE ho (BE hx) hn next
end
end
section
set_option maxRecDepth 100000
theorem X7 (g N c:Nat) (us:List Nat) (hus:W32 us) (hlu:us.length=N) (hN:N<=4398046511104) (w:World) (hg:w.heap[g]?=some (.cells (Ao us).toArray 92 (0,0))):Calls prog 275 #[(qw (jk g) N c)] w (λe w'=>e=.returned (.tuple #[])/\Mm w w' (some g)/\w'.heap[g]?=some (.cells (Ao (C6 N (val us/2))).toArray 92 (0,0))):=by
 refine JW (args:=[(qw (jk g) N c)]) (g:=g) (T:=92) (cs:=Ao us) func275 O O (Av O) hg (zN (sL [0] O) (q4 (AM O (AG (v:=(vN N)) (AC O underlying255) O (AM O (oNl' (zB (sL [0,4,5] O) (zA (zI ?_)))))))))
 refine yA (tg λ(i:Nat) (os:List Nat)=>i<=N/\os.length=N/\W32 os/\os.drop i=us.drop i/\2*val (os.take i)+us.getD 0 0%2=val (us.take i)+us.getD i 0%2*4294967296^i) (tg λ(i:Nat) (os:List Nat)=>[(0,(qw (jk g) N c)),(4,(vN N)),(5,(vN i))]) (tg λ(i:Nat) (os:List Nat)=>[AR g 92 (Ao os)]) (tg λ(i:Nat) (os:List Nat)=>N-i) 0 us (⟨xH _,hlu,hus,rfl,by simp [val]⟩) (sF O) sr (λi os hJ=>?_)
 obtain ⟨hi,hl,hw32,hd,hv⟩:=hJ
 refine q4 (AG (Ae (c:=(decide (i<N))) O O (CM (a:=i) (b:=N))) O (oNl' (q1 ?_)))
 refine zM O (λhc0=>?_) (λhc0=>?_)
 ·replace hc0:=xR hc0
  refine zG (q1 (zI (q4 (AM O (asg' O (q3 (sL [0,4,5,2] O) (AM O (AM O (AG (v:=(pP g i)) (AO (j:=i) O O underlying255 sizeOf92 O Z jX) O ?_)))))))))
  have hx1:os.getD i 0<4294967296:=W32.getD hw32 i
  refine AG (AE (i:=0) (v:=(vK .u32 (os.getD i 0))) O O isAgg92 (BH (xs:=os) (j:=i) Z)) O ?_
  have hui:=hus.getD i
  have huj:=hus.getD (i+1)
  refine zC (k:=11) (u:=(vK .u32 (us.getD i 0))) O (by rw [Mt hd (Nat.le_refl _)]) (AG (DI (s:=1) (c:=(((us.getD i 0)/2:Nat):Int)) O O O jY (GY (a:=us.getD i 0) (s:=1))) O (AG (v:=(pP g i)) (AO (j:=i) O O underlying255 sizeOf92 O Z jX) O (zw (i:=0) (off:=i) (vs:=[(vK .u32 ((us.getD i 0)/2))]) (cs':=Ao (os.set i ((us.getD i 0)/2))) (L':=[AR g 92 (Ao (os.set i ((us.getD i 0)/2)))]) (AJ O) O O O O O sizeOf92 O (C7 (BW _) Z) (CZ Z) O (q3 (sL [0,4,5,2] O) (AM O (AG (AW (c:=((i+1:Nat):Int)) O O (AU (a:=i) (b:=1) Z)) O (AM O (AG (v:=(vN N)) (AC O underlying255) O (AG (Ae (c:=(decide ((i+1)<N))) O O (CM (a:=i+1) (b:=N))) O (oNl' (zB (sL [0,4,5,2,18] O) ?_)))))))))))
  refine zA ?_
  refine yk (tg True) (tg [(0,(qw (jk g) N c)),(4,(vN N)),(5,(vN i))]) (tg [AR g 92 (Ao (os.set i (us.getD i 0/2+us.getD (i+1) 0%2*2147483648)))]) ?_ ?_
  ·refine zM O (λhc1=>?_) (λhc1=>?_)
   ·replace hc1:=xR hc1
    refine rC [(0,true),(1,true),(2,true),(3,true),(4,true),(5,true),(6,true),(7,true),(8,true),(9,true),(10,true),(11,true)] 12 [] sr (sl sr) jV (λ_ _ d _ _ h=>by cases d<;>exact h) ?_
    have e1:(os.set i (us.getD i 0/2)).getD i 0=us.getD i 0/2:=Mh Z
    have e2:(os.set i (us.getD i 0/2)).getD (i+1) 0=us.getD (i+1) 0:=by rw [Js Z,Mt hd Z]
    have hll:(os.set i (us.getD i 0/2)).length=N:=by rw [List.length_set];exact hl
    refine vM O O O (vM O O O (vE (v:=(pP g i)) O (AO (j:=i) O O underlying255 sizeOf92 O Z jX) O ?_))
    have hx2:(os.set i ((us.getD i 0)/2)).getD i 0<4294967296:=W32.getD (W32.set hw32 Z i) i
    refine vE O (AE (i:=0) (v:=(vK .u32 ((os.set i ((us.getD i 0)/2)).getD i 0))) O O isAgg92 (BH (xs:=os.set i ((us.getD i 0)/2)) (j:=i) Z)) O (vM O O O (vM O O O (vE O (AW (c:=((i+1:Nat):Int)) O O (AU (a:=i) (b:=1) Z)) O (vE (v:=(pP g (i+1))) O (AO (j:=i+1) O O underlying255 sizeOf92 O Z jX) O ?_))))
    have hx3:(os.set i ((us.getD i 0)/2)).getD (i+1) 0<4294967296:=W32.getD (W32.set hw32 Z i) (i+1)
    exact vE O (AE (i:=0) (v:=(vK .u32 ((os.set i ((us.getD i 0)/2)).getD (i+1) 0))) O O isAgg92 (BH (xs:=os.set i ((us.getD i 0)/2)) (j:=(i+1)) Z)) O (vE (v:=(vK .u32 ((os.set i (us.getD i 0/2)).getD (i+1) 0*2^31%4294967296))) O (Gy (s:=31) O O O jY M0) O (vE O (Ji (c:=((us.getD i 0/2+us.getD (i+1) 0%2*2147483648:Nat):Int)) O O (Kn (by rw [e1];omega) (Nat.mod_lt _ Z) (by rw [e1,e2];exact YA Z))) O (vE (v:=(pP g i)) O (AO (j:=i) O O underlying255 sizeOf92 O Z jX) O (yC O (zw (i:=0) (off:=i) (vs:=[(vK .u32 (us.getD i 0/2+us.getD (i+1) 0%2*2147483648))]) (cs':=Ao ((os.set i ((us.getD i 0)/2)).set i (us.getD i 0/2+us.getD (i+1) 0%2*2147483648))) (L':=[AR g 92 (Ao ((os.set i ((us.getD i 0)/2)).set i (us.getD i 0/2+us.getD (i+1) 0%2*2147483648)))]) (AJ O) O O O O O sizeOf92 O (C7 (BW _) Z) (CZ Z) O (zD (sl sr) (zT (zB (sL [0,4,5,2] O) (y3 (L':=[AR g 92 (Ao (os.set i (us.getD i 0/2+us.getD (i+1) 0%2*2147483648)))]) (by rw [List.set_set]) (yG  (trivial) (sF O) sr))))))))))
   ·replace hc1:=xQ hc1
    refine zG ?_
    refine y3 (L':=[AR g 92 (Ao (os.set i (us.getD i 0/2+us.getD (i+1) 0%2*2147483648)))]) (by rw [show us.getD (i+1) 0=0 by simp [List.getD_eq_getElem?_getD,show N<=i+1 by omega,hlu],Nat.zero_mod,Nat.zero_mul,Nat.add_zero]) ?_
    exact yG  (trivial) (sF O) sr
  ·intro hJ
   refine zJ (zA (zH (AG (AW (c:=((i+1:Nat):Int)) O O (AU (a:=i) (b:=1) Z)) O (AM O (oNl' (zB (sL [0,4,5] O) ?_))))))
   have hst:=TB hlu hl hc0 hus hd hv (x:=us.getD i 0/2+us.getD (i+1) 0%2*2147483648) rfl
   exact zn (i+1) (os.set i (us.getD i 0/2+us.getD (i+1) 0%2*2147483648)) (⟨Z,by rw [List.length_set];exact hl,W32.set hw32 Z _,hst.1,hst.2⟩) Z (sF O) sr
 ·replace hc0:=xQ hc0
  have hiN:i=N:=by omega
  have hfin:=UI hlu hl (by rw [<-hiN];exact hv) hus
  exact zU (zP (zi (zS (E1 (.inr O) O  (λw hw=>⟨rfl,hw.1,by rw [<-IF hw32 hl hfin];exact hw.get (i:=0) O⟩)))))
theorem ZP (g q k n N c1 c3 D:Nat) (us vb:List Nat) (hus:W32 us) (hlu:us.length=N) (hvb:W32 vb) (hn:n<=vb.length) (hk:k+n+1<=N) (hN:N<=4398046511104) (hD:D<4294967296) (hu:val us<4294967296^(k+n+1)) (hne:q≠g) (w:World) (hg:w.heap[g]?=some (.cells (Ao us).toArray 92 (0,0))) (hq:w.heap[q]?=some (.cells (Ao vb).toArray 92 (0,0))):Calls prog 274 #[(qw (some ⟨g,k,none⟩) (n+1) c1),(qw (jk q) n c3),(vK .u64 D)] w (λe w'=>e=.returned (.bool (decide (val us<D*val (vb.take n)*4294967296^k)))/\Mm w w' (some g)/\w'.heap[g]?=some (.cells (Ao (C6 N (val us+(if val us<D*val (vb.take n)*4294967296^k then 4294967296^(k+n+1) else 0)-D*val (vb.take n)*4294967296^k))).toArray 92 (0,0))):=by
 refine JW (args:=[(qw (some ⟨g,k,none⟩) (n+1) c1),(qw (jk q) n c3),(vK .u64 D)]) (g:=g) (T:=92) (cs:=Ao us) func274 O O (Av O) hg (zN (sL [0,1,2] O) (q4 (asg' O (oNl' (q2 (asg' O (asg' O (oNl' (q1 (q4 (AM O ?_)))))))))))
 refine AG (v:=(vN n)) (AC O underlying255) O (AM O (oNl' (zA (zI ?_))))
 refine yO (tg λ(i:Nat) (os:List Nat) (c:Nat) (l:Nat)=>i<=n/\os.length=N/\W32 os/\c<4294967296/\l<=1/\(∀j,k+n+1<=j->os.getD j 0=0)/\val os+D*val (vb.take i)*4294967296^k=val us+(c+l)*4294967296^(k+i)) (tg λ(i:Nat) (os:List Nat) (c:Nat) (l:Nat)=>[(0,(qw (some ⟨g,k,none⟩) (n+1) c1)),(1,(qw (jk q) n c3)),(2,(vK .u64 D)),(6,(qa false)),(12,(qw (jk q) n c3)),(13,(vN n)),(14,(vN i)),(7,(vK .u64 c)),(8,(vK .u32 l))]) (tg λ(i:Nat) (os:List Nat) (c:Nat) (l:Nat)=>[AR g 92 (Ao os)]) (tg λ(i:Nat) (os:List Nat) (c:Nat) (l:Nat)=>n-i) 0 us 0 0 (⟨xH _,hlu,hus,Z,Z,J1 hu,by simp [val]⟩) (sF O) sr (λi os c l hJ=>?_)
 obtain ⟨hi,hl,hw32,hcb,hll,hz,hv⟩:=hJ
 refine q4 (AG (Ae (c:=(decide (i<n))) O O (CM (a:=i) (b:=n))) O (oNl' (q1 ?_)))
 refine zM O (λhc0=>?_) (λhc0=>?_)
 ·replace hc0:=xR hc0
  refine zG (q1 (zI (q4 (AM O (AG (v:=(pP q i)) (AO (j:=i) O O underlying255 sizeOf92 O Z jX) O ?_)))))
  have hx1:vb.getD i 0<4294967296:=W32.getD hvb i
  refine AG (Bc (v:=(vK .u32 (vb.getD i 0))) O (λw' hw=>CA.at0 (hw.oldCA (by simpa using hne) (FA hq)) (BH (xs:=vb) (j:=i) Z)) isAgg92) O ?_
  have hvi:=hvb.getD i
  have hml:=Lm hD hvi
  refine asg' O (asg' O (q3 (sL [0,1,2,6,12,13,14,7,8,9,10] O) (AM O (AM O (AM O (AG (A9 (c:=((vb.getD i 0:Nat):Int)) O underlying92 underlying69 (BV Z)) O (AG (EV (c:=((D*(vb.getD i 0):Nat):Int)) O O (Fa (a:=D) (b:=vb.getD i 0) Z)) O (AG (AW (c:=((c+(D*(vb.getD i 0)):Nat):Int)) O O (Dz (a:=c) (b:=D*(vb.getD i 0)) Z)) O (asg' O (q3 (sL [0,1,2,6,12,13,14,7,8,9] O) (AM O ?_)))))))))))
  refine AM O (AM O (AM O (AG (v:=(pP g (k+i))) (AO (j:=i) O O underlying255 sizeOf92 O Z jX) O ?_)))
  have hx2:os.getD (k+i) 0<4294967296:=W32.getD hw32 (k+i)
  refine AG (AE (i:=0) (v:=(vK .u32 (os.getD (k+i) 0))) O O isAgg92 (BH (xs:=os) (j:=k+i) Z)) O (AM O (AG (A9 (c:=(((c+(D*(vb.getD i 0)))%4294967296:Nat):Int)) O underlying69 underlying92 E3) O (AM O (ck' call244 (Lu (os.getD (k+i) 0) ((c+(D*(vb.getD i 0)))%4294967296) l _ Z Z Z O) O (AM O (AG (AZ (v:=(vK .u32 (((os.getD (k+i) 0)+(4294967296-((c+(D*(vb.getD i 0)))%4294967296))+(4294967296-l))%4294967296))) O O) O (AG (AZ (v:=(vK .u32 (Jl (os.getD (k+i) 0) (((c+(D*(vb.getD i 0)))%4294967296)+l)))) O O) O (AG (v:=(pP g (k+i))) (AO (j:=i) O O underlying255 sizeOf92 O Z jX) O (zw (i:=0) (off:=k+i) (vs:=[(vK .u32 (((os.getD (k+i) 0)+(4294967296-((c+(D*(vb.getD i 0)))%4294967296))+(4294967296-l))%4294967296))]) (cs':=Ao (os.set (k+i) (((os.getD (k+i) 0)+(4294967296-((c+(D*(vb.getD i 0)))%4294967296))+(4294967296-l))%4294967296))) (L':=[AR g 92 (Ao (os.set (k+i) (((os.getD (k+i) 0)+(4294967296-((c+(D*(vb.getD i 0)))%4294967296))+(4294967296-l))%4294967296)))]) (AJ O) O O O O O sizeOf92 O (C7 (BW _) Z) (CZ Z) O (asg' O (oNl' ?_)))))))))))
  refine zB (sL [0,1,2,6,12,13,14,7,8] O) (zA (zH (AM O (AG (DI (s:=32) (c:=(((c+(D*(vb.getD i 0)))/4294967296:Nat):Int)) O O O jY (GY (a:=c+(D*(vb.getD i 0))) (s:=32))) O (asg' O (oNl' (zB (sL [0,1,2,6,12,13,14,7,8] O) (zJ (zA (zH (AG (AW (c:=((i+1:Nat):Int)) O O (AU (a:=i) (b:=1) Z)) O ?_)))))))))))
  exact AM O (oNl' (zB (sL [0,1,2,6,12,13,14,7,8] O) (zu (i+1) (os.set (k+i) ((os.getD (k+i) 0+(4294967296-(c+D*vb.getD i 0)%4294967296)+(4294967296-l))%4294967296)) ((c+D*vb.getD i 0)/4294967296) (Jl (os.getD (k+i) 0) ((c+D*vb.getD i 0)%4294967296+l)) (⟨Z,by rw [List.length_set];exact hl,W32.set hw32 Z _,Z,Rk _ _,F9 hz Z,UQ (n:=n) hl Z hw32 hll hv O O⟩) Z (sF O) sr)))
 ·replace hc0:=xQ hc0
  have hin:i=n:=by omega
  have hv1:=hv
  rw [hin] at hv1
  have hll2:=Tl hl Z hw32 hll hcb hv1
  have hfin:=UM (c:=0) (os:=os.set (k+n) ((os.getD (k+n) 0+(4294967296-c)+(4294967296-l))%4294967296)) (us:=us) (vs:=vb) (n:=n) (l:=Jl (os.getD (k+n) 0) (c+l)) (D:=D) (by rw [List.length_set];exact hl) (W32.set hw32 Z _) hk hu hll2 (Rk _ _) (F9 hz Z)
  refine zU (zP (zr (zS (q2 (AM O (AG (v:=(vN n)) (AC O underlying255) O (asg' O (q3 (sL [0,1,2,6,12,13,14,7,8,11] O) (AM O (AM O (AM O ?_)))))))))))
  refine AM O (AG (v:=(pP g (k+n))) (AO (j:=n) O O underlying255 sizeOf92 O Z jX) O ?_)
  have hx3:os.getD (k+n) 0<4294967296:=W32.getD hw32 (k+n)
  refine AG (AE (i:=0) (v:=(vK .u32 (os.getD (k+n) 0))) O O isAgg92 (BH (xs:=os) (j:=k+n) Z)) O (AM O (AG (A9 (c:=((c:Nat):Int)) O underlying69 underlying92 (C_ Z)) O (AM O (ck' call244 (Lu (os.getD (k+n) 0) c l _ Z Z Z O) O (AM O (AG (AZ (v:=(vK .u32 (((os.getD (k+n) 0)+(4294967296-c)+(4294967296-l))%4294967296))) O O) O (AG (AZ (v:=(vK .u32 (Jl (os.getD (k+n) 0) (c+l)))) O O) O (AG (v:=(pP g (k+n))) (AO (j:=n) O O underlying255 sizeOf92 O Z jX) O (zw (i:=0) (off:=k+n) (vs:=[(vK .u32 (((os.getD (k+n) 0)+(4294967296-c)+(4294967296-l))%4294967296))]) (cs':=Ao (os.set (k+n) (((os.getD (k+n) 0)+(4294967296-c)+(4294967296-l))%4294967296))) (L':=[AR g 92 (Ao (os.set (k+n) (((os.getD (k+n) 0)+(4294967296-c)+(4294967296-l))%4294967296)))]) (AJ O) O O O O O sizeOf92 O (C7 (BW _) Z) (CZ Z) O (asg' O (q3 (sL [0,1,2,6,12,13,14,7,8] O) ?_)))))))))))
  exact AM O (AG (Bv (c:=(decide (0<(Jl (os.getD (k+n) 0) (c+l))))) O O (CM (a:=0) (b:=Jl (os.getD (k+n) 0) (c+l)))) O (asg' O (oNl' (zB (sL [0,1,2,6,12,13,14,7,8] O) (zA (zF (ret_one O (rd_tmp (v:=(qa (decide (0<(Jl (os.getD (k+n) 0) (c+l)))))) O) (λw hw=>⟨by rw [hfin.1],hw.1,by rw [<-hfin.2];exact hw.get (i:=0) O⟩))))))))
end
end Go.Proofs.YtpolhpjiahbidaaGreatDoor
