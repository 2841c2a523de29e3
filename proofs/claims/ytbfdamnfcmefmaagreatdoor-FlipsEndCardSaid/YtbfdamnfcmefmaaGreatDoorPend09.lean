import Derived.Scope
import Derived.Test.YtbfdamnfcmefmaaGreatDoorPend08
namespace Go.Proofs.YtbfdamnfcmefmaaGreatDoor
open Go Go.RowKit Go.Proofs.Tryz
open Go.Value renaming slice→qz,bool→qa
set_option linter.unusedVariables false
set_option linter.unusedSimpArgs false
section
def Ck:Nat->Nat->List Nat
  | 0,_=>[]
  | N+1,v=>v%4294967296::Ck N (v/4294967296)
theorem Bg:∀(N v:Nat),(Ck N v).length=N
  | 0,_=>rfl
  | N+1,v=>by simp [Ck,Bg N]
theorem D9:∀(N v:Nat),W32 (Ck N v)
  | 0,_=>W32.nil
  | N+1,v=>W32.cons Z (D9 N _)
theorem FS:∀(N v:Nat),v<4294967296^N->val (Ck N v)=v
  | 0,v,h=>by simp at h;simp [Ck,val,h]
  | N+1,v,h=>by
    rw [Nat.pow_succ] at h
    rw [Ck,val,FS N _ (by rw [Nat.div_lt_iff_lt_mul Z];exact h)]
    omega
theorem PZ:∀{xs:List Nat},W32 xs->Ck xs.length (val xs)=xs
  | [],_=>rfl
  | x::xs,h=>by
    have hx:=h x jX
    rw [List.length_cons,val,Ck,show (x+4294967296*val xs)%4294967296=x by omega,show (x+4294967296*val xs)/4294967296=val xs by omega,PZ (λy hy=>h y (by simp [hy]))]
theorem H9 {xs:List Nat} {N v:Nat} (h:W32 xs) (hl:xs.length=N) (hv:val xs=v):xs=Ck N v:=by subst hl;subst hv;exact (PZ h).symm
theorem TY {v k:Nat}:v/4294967296^(k+1)*4294967296+v/4294967296^k%4294967296=v/4294967296^k:=by
  rw [Nat.pow_succ,<-Nat.div_div_eq_div_mul];omega
theorem IG:∀(v k:Nat),(AK v).getD k 0=v/4294967296^k%4294967296:=by
  intro v
  induction v using Nat.strongRecOn with
  | _ v ih =>
    intro k
    by_cases h:v=0
    · subst h;simp [Q7]
    · rw [F_ h]
      cases k with
      | zero=>simp
      | succ k=>rw [List.getD_cons_succ,ih _ Z,Nat.pow_succ,Nat.div_div_eq_div_mul,Nat.mul_comm]
theorem HB:∀(xs:List Nat) (k:Nat),W32 xs->xs.getD k 0=val xs/4294967296^k%4294967296
  | [],k,_=>by simp [val]
  | x::xs,0,h=>by have:=h x jX;simp [val];omega
  | x::xs,k+1,h=>by
    have hx:=h x jX
    rw [List.getD_cons_succ,HB xs k (λy hy=>h y (by simp [hy])),val,Nat.pow_succ,Nat.mul_comm (4294967296^k),<-Nat.div_div_eq_div_mul,show (x+4294967296*val xs)/4294967296=val xs by omega]
theorem Qx {qs:List Nat} {a y k r n:Nat} (hl:qs.length=n) (hk:k<n) (hq:∀j,j<=k->qs.getD j 0=0) (hr:r<y) (hv:val qs*y+r*4294967296^(k+1)=a/4294967296^(k+1)*4294967296^(k+1)) :
    val (qs.set k ((r*4294967296+a/4294967296^k%4294967296)/y))*y+(r*4294967296+a/4294967296^k%4294967296)%y*4294967296^k=a/4294967296^k*4294967296^k:=by
  have e:=Id (c:=(r*4294967296+a/4294967296^k%4294967296)/y) hl hk (hq k (Nat.le_refl _))
  have d:=TY (v:=a) (k:=k)
  have m:=Nat.div_add_mod (r*4294967296+a/4294967296^k%4294967296) y
  rw [e]
  rw [Nat.pow_succ] at hv
  rw [Nat.pow_succ] at d
  generalize (r*4294967296+a/4294967296^k%4294967296)/y=q at *
  generalize hrr:(r*4294967296+a/4294967296^k%4294967296)%y=r' at *
  generalize a/4294967296^k%4294967296=w at *
  generalize a/(4294967296^k*4294967296)=h at *
  generalize a/4294967296^k=g at *
  generalize 4294967296^k=p at *
  subst d
  have m2:(y*q+r')*p=(r*4294967296+w)*p:=by rw [m]
  grind
theorem Qw {a y v r:Nat} (hr:r<y) (hv:v*y+r*4294967296^0=a/4294967296^0*4294967296^0):v=a/y/\r=a%y:=by
  simp at hv
  have e:a=r+y*v:=by rw [<-hv,Nat.mul_comm];omega
  subst e
  constructor
  · rw [Nat.add_mul_div_left _ _ Z,Nat.div_eq_of_lt hr];omega
  · rw [Nat.add_mul_mod_self_left,Nat.mod_eq_of_lt hr]
theorem au {w c s:Nat} (hw:w<4294967296) (hc:c<2^s) (hs:s<32):w*2^s%4294967296 ||| c=w*2^s%4294967296+c:=by
  have e:w*2^s%4294967296=w%2^(32-s)*2^s:=by
    have:(4294967296:Nat)=2^(32-s)*2^s:=by rw [<-Nat.pow_add,show 32-s+s=32 by omega]
    rw [this,Nat.mul_mod_mul_right]
  rw [e,Nat.or_comm,H6 hc];omega
theorem aq {w s:Nat} (hw:w<4294967296) (hs:s<32):w*2^s<18446744073709551616/\w*2^s/4294967296<2^s:=by
  have h1:w*2^s<4294967296*2^s:=Nat.mul_lt_mul_of_pos_right hw (Nat.pow_pos Z)
  have h2:(2:Nat)^s<=2^31:=Nat.pow_le_pow_right Z Z
  constructor
  · omega
  · rw [Nat.div_lt_iff_lt_mul Z];omega
theorem Qv {w c s:Nat} (hc:c<2^s) (hs:s<32):w*2^s%4294967296+c<4294967296:=by
  have e:w*2^s%4294967296=w%2^(32-s)*2^s:=by
    have:(4294967296:Nat)=2^(32-s)*2^s:=by rw [<-Nat.pow_add,show 32-s+s=32 by omega]
    rw [this,Nat.mul_mod_mul_right]
  have h1:w%2^(32-s)+1<=2^(32-s):=Nat.mod_lt _ (Nat.pow_pos Z)
  have h2:(w%2^(32-s)+1)*2^s<=2^(32-s)*2^s:=Nat.mul_le_mul_right _ h1
  rw [<-Nat.pow_add,show 32-s+s=32 by omega,Nat.add_mul] at h2
  rw [e];omega
theorem Qu {os xs:List Nat} {i n c s:Nat} (hl:os.length=n) (hi:i<n) (h0:∀j,i<=j->os.getD j 0=0) (hv:val os+c*4294967296^i=val (xs.take i)*2^s) :
    val (os.set i (xs.getD i 0*2^s%4294967296+c))+xs.getD i 0*2^s/4294967296*4294967296^(i+1)=val (xs.take (i+1))*2^s:=by
  rw [Id hl hi (h0 i (Nat.le_refl _)),BW,Nat.pow_succ]
  have m:=Nat.div_add_mod (xs.getD i 0*2^s) 4294967296
  generalize xs.getD i 0*2^s%4294967296=r at *
  generalize xs.getD i 0*2^s/4294967296=q at *
  generalize xs.getD i 0=w at *
  generalize 2^s=z at *
  generalize 4294967296^i=p at *
  have m2:(4294967296*q+r)*p=w*z*p:=by rw [m]
  grind
theorem Se {os us:List Nat} {i n:Nat} (hl:us.length=n) (hlo:os.length=n) (hi:i<n) (hu:W32 us) (hd:os.drop i=us.drop i) (hv:2*val (os.take i)+us.getD 0 0%2=val (us.take i)+us.getD i 0%2*4294967296^i) {x:Nat} (hx:x=us.getD i 0/2+us.getD (i+1) 0%2*2147483648) :
    (os.set i x).drop (i+1)=us.drop (i+1)/\2*val ((os.set i x).take (i+1))+us.getD 0 0%2=val (us.take (i+1))+us.getD (i+1) 0%2*4294967296^(i+1):=by
  constructor
  · rw [List.drop_set_of_lt Z]
    have h1:=congrArg (List.drop 1) hd
    rwa [List.drop_drop,List.drop_drop] at h1
  · rw [BW,BW,List.take_set_of_le (Nat.le_refl _),Nat.pow_succ]
    have e:(os.set i x).getD i 0=x:=by simp [List.getD_eq_getElem?_getD,hlo,hi]
    rw [e,hx]
    have m:us.getD i 0=2*(us.getD i 0/2)+us.getD i 0%2:=by omega
    generalize us.getD i 0/2=h at *
    generalize us.getD i 0%2=b at *
    generalize us.getD (i+1) 0%2=b' at *
    rw [m]
    generalize 4294967296^i=p at *
    grind
theorem Sd {os us:List Nat} {n:Nat} (hl:us.length=n) (hlo:os.length=n) (hv:2*val (os.take n)+us.getD 0 0%2=val (us.take n)+us.getD n 0%2*4294967296^n) (hu:W32 us):val os=val us/2:=by
  rw [List.take_of_length_le Z,List.take_of_length_le Z] at hv
  have e:us.getD n 0=0:=by simp [List.getD_eq_getElem?_getD,hl]
  rw [e] at hv
  simp at hv
  have:=Nat.mod_lt (us.getD 0 0) (show 2>0 by omega)
  simp only [List.getD_eq_getElem?_getD] at this
  omega
theorem Sn {os us vs:List Nat} {k i n N c l D:Nat} (hl:os.length=N) (hi:k+i<N) (hw:W32 os) (hll:l<=1)
    (hv:val os+D*val (vs.take i)*4294967296^k=val us+(c+l)*4294967296^(k+i)) {s c':Nat} (hs:s=(c+D*vs.getD i 0)%4294967296) (hc':c'=(c+D*vs.getD i 0)/4294967296) :
    val (os.set (k+i) ((os.getD (k+i) 0+(4294967296-s)+(4294967296-l))%4294967296))+D*val (vs.take (i+1))*4294967296^k=val us+(c'+JX (os.getD (k+i) 0) (s+l))*4294967296^(k+(i+1)):=by
  have e:=Fk (xs:=os) (i:=k+i) Z ((os.getD (k+i) 0+(4294967296-s)+(4294967296-l))%4294967296)
  have t:=BW vs i
  have ho:=hw.getD (k+i)
  have hs2:s<4294967296:=by omega
  have m:c+D*vs.getD i 0=4294967296*c'+s:=by omega
  have b:(os.getD (k+i) 0+(4294967296-s)+(4294967296-l))%4294967296+s+l=os.getD (k+i) 0+JX (os.getD (k+i) 0) (s+l)*4294967296:=by unfold JX;split<;>omega
  rw [t,show k+(i+1)=k+i+1 by omega,Nat.pow_succ]
  rw [Nat.pow_add] at *
  generalize (os.getD (k+i) 0+(4294967296-s)+(4294967296-l))%4294967296=r at *
  generalize JX (os.getD (k+i) 0) (s+l)=q at *
  generalize os.getD (k+i) 0=o at *
  generalize vs.getD i 0=v at *
  generalize 4294967296^i=p at *
  generalize 4294967296^k=p' at *
  generalize val (vs.take i)=vv at *
  clear hs hc'
  have b2:(r+s+l)*(p'*p)=(o+q*4294967296)*(p'*p):=by rw [b]
  have m2:(c+D*v)*(p'*p)=(4294967296*c'+s)*(p'*p):=by rw [m]
  grind
theorem Sl {os us vs:List Nat} {k n N c l D:Nat} (hl:os.length=N) (hw:W32 os) (hk:k+n+1<=N) (hu:val us<4294967296^(k+n+1)) (hv:val os+D*val (vs.take n)*4294967296^k=val us+l*4294967296^(k+n+1)) (hl1:l<=1) (hz:∀j,k+n+1<=j->os.getD j 0=0) :
    decide (0<l)=decide (val us<D*val (vs.take n)*4294967296^k)/\os=Ck N (val us+(if val us<D*val (vs.take n)*4294967296^k then 4294967296^(k+n+1) else 0)-D*val (vs.take n)*4294967296^k):=by
  have ho:val os<4294967296^(k+n+1):=by
    have h1:=E8 os (k+n+1) Z
    have h2:val (os.drop (k+n+1))=0:=by
      have:os.drop (k+n+1)=List.replicate (N-(k+n+1)) 0:=by
        apply List.ext_getElem (by simp [hl])
        intro j h1 h2
        have:=hz (k+n+1+j) Z
        simp [List.getD_eq_getElem?_getD] at this h1
        simp
        have h3:k+n+1+j<os.length:=by omega
        simpa [h3] using this
      rw [this,EM]
    rw [h2] at h1
    have h3:=HD (hw.take (k+n+1))
    rw [List.length_take,Nat.min_eq_left Z] at h3
    omega
  generalize D*val (vs.take n)*4294967296^k=X at *
  generalize 4294967296^(k+n+1)=p at *
  have hl2:l=0\/l=1:=by omega
  rcases hl2 with rfl|rfl
  · have h1:¬val us<X:=by omega
    refine ⟨by simp [h1],H9 hw hl ?_⟩
    rw [if_neg h1];omega
  · have h1:val us<X:=by omega
    refine ⟨by simp [h1],H9 hw hl ?_⟩
    rw [if_pos h1];omega
theorem Jp {os:List Nat} {p:Nat} (h:val os<4294967296^p):∀j,p<=j->os.getD j 0=0:=λj hj=>GX h hj
theorem Sm {os:List Nat} {p N c l X U:Nat} (hl:os.length=N) (hp:p<N) (hw:W32 os) (hll:l<=1) (hc:c<4294967296) (hv:val os+X=U+(c+l)*4294967296^p) :
    val (os.set p ((os.getD p 0+(4294967296-c)+(4294967296-l))%4294967296))+X=U+JX (os.getD p 0) (c+l)*4294967296^(p+1):=by
  have e:=Fk (xs:=os) (i:=p) Z ((os.getD p 0+(4294967296-c)+(4294967296-l))%4294967296)
  have ho:=hw.getD p
  have b:(os.getD p 0+(4294967296-c)+(4294967296-l))%4294967296+c+l=os.getD p 0+JX (os.getD p 0) (c+l)*4294967296:=by unfold JX;split<;>omega
  rw [Nat.pow_succ]
  generalize (os.getD p 0+(4294967296-c)+(4294967296-l))%4294967296=r at *
  generalize JX (os.getD p 0) (c+l)=q at *
  generalize os.getD p 0=o at *
  generalize 4294967296^p=z at *
  have b2:(r+c+l)*z=(o+q*4294967296)*z:=by rw [b]
  grind
theorem Mu {os us:List Nat} {i j:Nat} (h:os.drop i=us.drop i) (hj:i<=j):os.getD j 0=us.getD j 0:=by
  have h1:=congrArg (λl:List Nat=>l.getD (j-i) 0) h
  simp only [List.getD_eq_getElem?_getD,List.getElem?_drop] at h1 ⊢
  rwa [show i+(j-i)=j by omega] at h1
theorem YD {h y:Nat} (hh:h<2147483648):h ||| y*2^31%4294967296=h+y%2*2147483648:=by
  have e:y*2^31%4294967296=y%2*2^31:=by rw [show (4294967296:Nat)=2*2^31 from rfl,Nat.mul_mod_mul_right]
  rw [e,H6 (s:=31) Z]
theorem Me {os:List Nat} {i v:Nat} (h:i<os.length):(os.set i v).getD i 0=v:=by simp [List.getD_eq_getElem?_getD,h]
theorem Jm {os:List Nat} {i j v:Nat} (h:i≠j):(os.set i v).getD j 0=os.getD j 0:=by
  rw [List.getD_eq_getElem?_getD,List.getElem?_set_ne h,<-List.getD_eq_getElem?_getD]
structure IM (V W v1 top d r:Nat):Prop where
  low:W/V<=d
  eq:d*v1+r=top
theorem QK {V W v1 v2 u2 top m p:Nat} (hp:0<p) (hV:V=(v1*4294967296+v2)*p+m) (hv2:v2<4294967296) (hm:m<p) (hW:W<(top+1)*(4294967296*p)) (h1:0<v1):IM V W v1 top (top/v1) (top%v1):=by
  refine ⟨?_,by rw [Nat.mul_comm];exact Nat.div_add_mod top v1⟩
  have hVp:0<V:=by
    have:0<v1*4294967296+v2:=by omega
    have:=Nat.mul_pos this hp
    omega
  rw [<-Nat.lt_succ_iff,Nat.div_lt_iff_lt_mul hVp]
  have h2:top<v1*(top/v1+1):=Nat.lt_mul_div_succ top h1
  have h3:(top+1)*(4294967296*p)<=v1*(top/v1+1)*(4294967296*p):=Nat.mul_le_mul_right _ h2
  have h4:v1*(4294967296*p)<=V:=by
    rw [hV];have:v1*(4294967296*p)=v1*4294967296*p:=by rw [Nat.mul_assoc]
    rw [this,Nat.add_mul];omega
  have h5:(top/v1+1)*(v1*(4294967296*p))<=(top/v1+1)*V:=Nat.mul_le_mul_left _ h4
  have h6:v1*(top/v1+1)*(4294967296*p)=(top/v1+1)*(v1*(4294967296*p)):=by rw [Nat.mul_comm v1,Nat.mul_assoc]
  show W<(top/v1+1)*V
  omega
theorem QL {V W v1 v2 u2 top d r m p:Nat} (h:IM V W v1 top d r) (hp:0<p) (hV:V=(v1*4294967296+v2)*p+m) (h1:0<v1) (hW:W<(top*4294967296+u2+1)*p) (hq:W/V<4294967296)
    (ht:¬(d<=4294967295/\d*v2<=r*4294967296+u2)):IM V W v1 top (d-1) (r+v1)/\0<d:=by
  have hVp:0<V:=by
    have:0<v1*4294967296+v2:=by omega
    have:=Nat.mul_pos this hp
    omega
  have hdiv:∀x,W/V<x↔W<x*V:=λx=>Nat.div_lt_iff_lt_mul hVp
  obtain ⟨hlow,heq⟩:=h
  suffices hlt:W/V<d by
    have h0:0<d:=Nat.lt_of_le_of_lt (xJ _) hlt
    have e:d*v1=(d-1)*v1+v1:=by
      obtain ⟨e,rfl⟩:∃e,d=e+1:=⟨d-1,(Nat.succ_pred_eq_of_pos h0).symm⟩
      rw [Nat.add_mul];simp
    refine ⟨⟨Nat.le_sub_one_of_lt hlt,?_⟩,h0⟩
    clear hdiv hlow hq ht hW hV hlt
    omega
  have hlt:W/V<d:=by
    by_cases hd:d<=4294967295
    · have h2:r*4294967296+u2+1<=d*v2:=by
        rcases Nat.lt_or_ge (r*4294967296+u2) (d*v2) with h3|h3
        · exact h3
        · exact absurd ⟨hd,h3⟩ ht
      refine (hdiv d).2 ?_
      have ex:d*(v1*4294967296+v2)=d*v1*4294967296+d*v2:=by rw [Nat.mul_add,Nat.mul_assoc]
      have h3:(top*4294967296+u2+1)*p<=(d*(v1*4294967296+v2))*p:=by
        refine Nat.mul_le_mul_right _ ?_
        rw [ex,<-heq,Nat.add_mul,Nat.add_assoc,Nat.add_assoc]
        exact Nat.add_le_add_left (by rw [<-Nat.add_assoc];exact h2) _
      have h4:d*V=d*(v1*4294967296+v2)*p+d*m:=by rw [hV,Nat.mul_add,Nat.mul_assoc]
      omega
    · exact Nat.lt_of_lt_of_le hq Z
  exact hlt
theorem QJ {V W v1 v2 u2 top d r m p:Nat} (h:IM V W v1 top d r) (hp:0<p) (hV:V=(v1*4294967296+v2)*p+m) (hm:m<p) (h1:0<v1) (hv2:v2<4294967296) (hW2:(top*4294967296+u2)*p<=W) (hWV:W<V*4294967296) (hv1:v1<4294967296)
    (hend:4294967295<r\/(d<=4294967295/\d*v2<=r*4294967296+u2)):d<=4294967295/\(d=W/V\/d=W/V+1):=by
  have hVp:0<V:=by
    have:0<v1*4294967296+v2:=by omega
    have:=Nat.mul_pos this hp
    omega
  have hd:d<=4294967295:=by
    rcases hend with hr|hr
    · -- top<(v1+1)*2^32
      have hV2:V<(v1+1)*4294967296*p:=by
        have:(v1*4294967296+v2)*p+p<=(v1+1)*4294967296*p:=by
          have:(v1*4294967296+v2+1)*p<=((v1+1)*4294967296)*p:=Nat.mul_le_mul_right _ Z
          rw [Nat.add_mul,Nat.one_mul] at this;exact this
        omega
      have h3:(top*4294967296)*p<(v1+1)*4294967296*p*4294967296:=by
        have:(top*4294967296)*p<=(top*4294967296+u2)*p:=Nat.mul_le_mul_right _ Z
        have:V*4294967296<=(v1+1)*4294967296*p*4294967296:=Nat.mul_le_mul_right _ (Nat.le_of_lt hV2)
        omega
      have h4:top*4294967296<(v1+1)*4294967296*4294967296:=by
        rw [Nat.mul_right_comm _ p] at h3
        exact Nat.lt_of_mul_lt_mul_right h3
      have h5:d*v1<4294967296*v1:=by have:=h.eq;omega
      have:=Nat.lt_of_mul_lt_mul_right h5
      omega
    · exact hr.1
  refine ⟨hd,?_⟩
  have ht:d*v2<=r*4294967296+u2:=by
    rcases hend with hr|hr
    · have:d*v2<=4294967295*4294967295:=Nat.mul_le_mul hd Z
      omega
    · exact hr.2
  have hle:d*V<=W+V:=by
    have a1:d*(v1*4294967296+v2)<=top*4294967296+u2:=by
      rw [Nat.mul_add,<-Nat.mul_assoc];have:=h.eq;omega
    have a2:d*(v1*4294967296+v2)*p<=(top*4294967296+u2)*p:=Nat.mul_le_mul_right _ a1
    have a3:d*m<=4294967296*p:=Nat.mul_le_mul Z (Nat.le_of_lt hm)
    have a4:4294967296*p<=V:=by
      rw [hV]
      have:4294967296*p<=(v1*4294967296+v2)*p:=Nat.mul_le_mul_right _ Z
      omega
    have e:d*V=d*(v1*4294967296+v2)*p+d*m:=by rw [hV,Nat.mul_add,Nat.mul_assoc]
    omega
  have h6:d<=W/V+1:=by
    rcases Nat.eq_zero_or_pos d with h0|h0
    · rw [h0];exact xJ _
    · have:(d-1)*V<=W:=by
        obtain ⟨e,rfl⟩:∃e,d=e+1:=⟨d-1,(Nat.succ_pred_eq_of_pos h0).symm⟩
        rw [Nat.add_mul] at hle;simp;omega
      have:=(Nat.le_div_iff_mul_le hVp).2 this
      generalize W/V=q at *
      omega
  have:=h.low
  generalize W/V=q at *
  omega
section
variable {P:Program} {Q:Exit->Act->World->Prop} {n:Nat} {F:List (Nat×Value)} {w0:BD} {L:List As}
theorem OkC.scope {c:Code} (h:OkC P c (Exit.noGoto Q) n F w0 L):OkC P (.scope c) Q n F w0 L:=λa w ha hw=>wp_scope_straight (h a w ha hw)
theorem OkC.label {l:Nat} (h:OkQ Q .normal n F w0 L):OkC P (.label l) Q n F w0 L:=λa w ha hw=>wp_label (h a w ha hw)
theorem OkQ.scope_normal (h:OkQ Q .normal n F w0 L):OkQ (Exit.noGoto Q) .normal n F w0 L:=h
theorem AR.callBB {ops:Array Oper} {rest:List Oper} {o:Oper} {d:Nat} {f:FuncId} {args:Array Value} {V:Nat->Nat->Value} {T T2:TypeId} {cs cs2:List Value} (hw:Wt ops n F o)
    (he:∀a w,Cx n a F->BH w0 w L->(execOp a.eval o).run P w=.ok (.enter f args) w)
    (hc:∀w,BH w0 w L->Calls P f args w λe w'=>∃b b2,e=.returned (V b b2)/\Hm w.heap.size w w'/\w.heap.size<=b/\w.heap.size<=b2/\b≠b2/\w'.heap[b]?=some (.cells cs.toArray T (0,0))/\w'.heap[b2]?=some (.cells cs2.toArray T2 (0,0)))
    (ho:o.dst=some d) (hd:d<n) (next:∀b b2,AR P ops rest Q n ((d,V b b2)::F) w0 (AY b T cs::AY b2 T2 cs2::L)):AR P ops (o::rest) Q n F w0 L:=λa w ha hW=>by
  unfold wpList
  rw [if_pos (hw a ha)]
  left
  unfold Oper.wp
  rw [he a w ha hW,Oper.upon_enter]
  refine (hc w hW).mono ?_
  rintro e w' ⟨b,b2,rfl,hb,h1,h2,hne,hcell,hcell2⟩
  rw [ho]
  have hW2:BH w0 w' (AY b2 T2 cs2::L):=hW.add rfl hb h2 ⟨_,hcell2,rfl⟩
  refine next b b2 _ _ (ha.put hd) ⟨hW2.1,λx hx c hc=>?_,?_⟩
  · rcases xN.1 hx with rfl|hx
    · injection hc with hc;subst hc
      exact ⟨.inr (.inl (xM hW.1.size h1)),_,hcell,rfl⟩
    · exact hW2.2.1 x hx c hc
  · refine List.pairwise_cons.2 ⟨λy hy=>.inr λc hc=>?_,hW2.2.2⟩
    injection hc with hc;subst hc
    rcases xN.1 hy with rfl|hy
    · intro e;injection e with e;exact hne e.symm
    · intro e
      have:=hW.lt hy e
      omega
end
end
section
set_option maxRecDepth 100000
theorem TF (a y p c:Nat) (bs:List Nat) (hbs:W32 bs) (hla:nw a<=bs.length) (hbd:∀i,i<nw a->bs.getD i 0=(AK a).getD i 0) (ha:nw a<=1099511627776) (hy:0<y) (hy2:y<4294967296) (w:World) (hp:w.heap[p]?=some (.cells (Aj bs).toArray 89 (0,0))):Calls prog 153 #[(qz (jk p) (nw a) c),(vK .u32 y)] w (λe w'=>∃b,e=.returned (.tuple #[.slice (jk b) (nw a) (nw a),.int .u32 ((a%y:Nat):Int)])/\Hm w.heap.size w w'/\w.heap.size<=b/\w'.heap[b]?=some (.cells (Aj (Ck (nw a) (a/y))).toArray 89 (0,0))):=by
 refine AW (args:=[(qz (jk p) (nw a) c),(vK .u32 y)]) func153 O O (A_ O) (zM (sL [0,1] O) (q4 (asg' O (asg' O (oNl' (q2 (AL O (AD (v:=(vN (nw a))) (AE O underlying220) O (ze (V:=λb1=>(qz (jk b1) (nw a) (nw a))) (T:=89) (cs:=Aj (List.replicate (nw a) 0)) (AI O) (DK (m:=nw a) (c:=nw a) O O Z Z) O (A_ O) λb1=>asg' O (q6 (sL [0,1,4,5] O) ?_))))))))))
 refine q4 (AL O (AD (v:=(vN (nw a))) (AE O underlying220) O (AD (Bt (c:=(((nw a:Nat):Int)-1)) O O (BJ Z Z)) O (asg' O (oNl' (zB (sL [0,1,4,5,6] O) (zA (zI ?_))))))))
 refine yQ (tg λ(k:Nat) (qs:List Nat) (r:Nat)=>k<=nw a/\qs.length=nw a/\W32 qs/\r<y/\(∀j,j<k->qs.getD j 0=0)/\val qs*y+r*4294967296^k=a/4294967296^k*4294967296^k) (tg λ(k:Nat) (qs:List Nat) (r:Nat)=>[(0,(qz (jk p) (nw a) c)),(1,(vK .u32 y)),(4,(qz (jk b1) (nw a) (nw a))),(6,(vI (((k:Nat):Int)-1))),(5,(vK .u32 r))]) (tg λ(k:Nat) (qs:List Nat) (r:Nat)=>[AY b1 89 (Aj qs)]) (tg λ(k:Nat) (qs:List Nat) (r:Nat)=>k) (nw a) (List.replicate (nw a) 0) 0 (⟨Nat.le_refl _,by simp,W32.zeros _,hy,λj _=>by simp [List.getD_eq_getElem?_getD,List.getElem?_replicate];split<;>rfl,by rw [EM,Nat.div_eq_of_lt (B7 a)];simp⟩) (sF O) sr (λk qs r hJ=>?_)
 obtain ⟨hk,hl,hw32,hr,hz,hv⟩:=hJ
 refine zX (q4 (AL O (AD (D1 (c:=(decide ((0:Int)<=(((k:Nat):Int)-1)))) O O O) O (oNl' (zB (sL [0,1,4,6,5,14] O) (zA ?_))))))
 refine zK O (λhc0=>?_) (λhc0=>?_)
 ·replace hc0:=xT hc0
  have hk0:0<k:=by omega
  refine yO (k:=6) (u:=(vN (k-1))) O (by congr 1;omega) (zC (q1 (zI (zH (AL O (AL O (AL O (AL O (AL O (AD (v:=(pP p (k-1))) (AG (j:=k-1) O O underlying220 sizeOf89 O Z jX) O ?_))))))))))
  have hx1:bs.getD (k-1) 0<4294967296:=W32.getD hbs (k-1)
  refine AD (Bc (v:=(vK .u32 (bs.getD (k-1) 0))) O (λw' hw=>CA.at0 (hw.oldCA jX (FB hp)) (BF (xs:=bs) (j:=(k-1)) Z)) isAgg89) O ?_
  have hdg:a/4294967296^(k-1)%4294967296<4294967296:=Nat.mod_lt _ Z
  have hq9:(r*4294967296+a/4294967296^(k-1)%4294967296)/y<4294967296:=Nat.div_lt_of_lt_mul (by have h9:(r+1)*4294967296<=y*4294967296:=Nat.mul_le_mul_right _ hr;omega)
  have hr9:(r*4294967296+a/4294967296^(k-1)%4294967296)%y<y:=Nat.mod_lt _ hy
  refine zL (k:=24) (u:=(vK .u32 (a/4294967296^(k-1)%4294967296))) O (by rw [hbd _ Z,IG]) (AL O (ck' call198 (Uq r (a/4294967296^(k-1)%4294967296) y Z Z Z) O (AL O (AD (AJ (v:=(vK .u32 ((r*4294967296+(a/4294967296^(k-1)%4294967296))/y))) O O) O (AD (AJ (v:=(vK .u32 ((r*4294967296+(a/4294967296^(k-1)%4294967296))%y))) O O) O (AD (v:=(pP b1 (k-1))) (AG (j:=k-1) O O underlying220 sizeOf89 O Z jX) O (zo (i:=0) (off:=(k-1)) (vs:=[(vK .u32 ((r*4294967296+(a/4294967296^(k-1)%4294967296))/y))]) (cs':=Aj (qs.set (k-1) ((r*4294967296+(a/4294967296^(k-1)%4294967296))/y))) (L':=[AY b1 89 (Aj (qs.set (k-1) ((r*4294967296+(a/4294967296^(k-1)%4294967296))/y)))]) (AI O) O O O O O sizeOf89 O (Cm (BO _) Z) (CI Z) O (asg' O (oNl' (zB (sL [0,1,4,6,5] O) (zF ?_)))))))))))
  refine zA (zH (AL O (AD (Bt (c:=(((k-1:Nat):Int)-1)) O O (BJ Z Z)) O (asg' O (oNl' (zB (sL [0,1,4,6,5] O) ?_))))))
  have hst:=Qx (y:=y) (k:=k-1) hl Z (λj hj=>hz j Z) hr (a:=a) (by rw [show k-1+1=k by omega];exact hv)
  exact yM (k-1) (qs.set (k-1) ((r*4294967296+a/4294967296^(k-1)%4294967296)/y)) ((r*4294967296+a/4294967296^(k-1)%4294967296)%y) (⟨Z,by rw [List.length_set];exact hl,W32.set hw32 hq9 _,hr9,λj hj=>by rw [List.getD_eq_getElem?_getD,List.getElem?_set_ne Z,<-List.getD_eq_getElem?_getD];exact hz j Z,hst⟩) Z (sF O) sr
 ·replace hc0:=xS hc0
  have hk0:k=0:=by omega
  have hv0:=hv
  rw [hk0] at hv0
  have hd:=Qw hr hv0
  refine zU (zO (yB (zP (q2 (AL O (AL O (asg' O (asg' O (oNl' (zB (sL [0,1,4,6,5] O) (zA ?_)))))))))))
  refine zG ?_
  have hcells:(some (Obj.cells (Aj qs).toArray 89 (0,0)))=some (Obj.cells (Aj (Ck (nw a) (a/y))).toArray 89 (0,0)):=by rw [H9 hw32 hl hd.1]
  exact Bs O (rd_tmp (v:=(qz (jk b1) (nw a) (nw a))) O) (rd_tmp (v:=(vK .u32 r)) O) (λw hw=>⟨b1,by rw [hd.2],hw.out,hw.fresh (i:=0) O,(hw.get (i:=0) O).trans hcells⟩)
theorem WY (a y p c:Nat) (ha:nw a<=1099511627776) (hy:0<y) (hy2:y<4294967296) (w:World) (hp:w.heap[p]?=some (.cells (Aj (Ar a)).toArray 89 (0,0))):Calls prog 153 #[(qz (jk p) (nw a) c),(vK .u32 y)] w (λe w'=>∃b,e=.returned (.tuple #[.slice (jk b) (nw a) (nw a),.int .u32 ((a%y:Nat):Int)])/\Hm w.heap.size w w'/\w.heap.size<=b/\w'.heap[b]?=some (.cells (Aj (Ck (nw a) (a/y))).toArray 89 (0,0))):=TF a y p c (Ar a) (CU a) (CQ a) (λi hi=>Dl hi) ha hy hy2 w hp
theorem Lr (p m c s:Nat) (bs:List Nat) (hbs:W32 bs) (hm:m<=bs.length) (hml:m<=1099511627776) (hs:s<32) (w:World) (hp:w.heap[p]?=some (.cells (Aj bs).toArray 89 (0,0))):Calls prog 261 #[(qz (jk p) m c),(vN s)] w (λe w'=>∃b,e=.returned (.slice (jk b) (m+1) (m+1))/\Hm w.heap.size w w'/\w.heap.size<=b/\w'.heap[b]?=some (.cells (Aj (Ck (m+1) (val (bs.take m)*2^s))).toArray 89 (0,0))):=by
 refine AW (args:=[(qz (jk p) m c),(vN s)]) func261 O O (A_ O) (zM (sL [0,1] O) (q4 (asg' O (oNl' (q2 (AL O (AD (v:=(vN m)) (AE O underlying220) O (AD (AS (c:=((m+1:Nat):Int)) O O (AV (a:=m) (b:=1) Z)) O (ze (V:=λb1=>(qz (jk b1) (m+1) (m+1))) (T:=89) (cs:=Aj (List.replicate (m+1) 0)) (AI O) (DK (m:=m+1) (c:=m+1) O O Z Z) O (A_ O) λb1=>asg' O (q3 (sL [0,1,4,5] O) ?_))))))))))
 refine asg' O (oNl' (q1 (q4 (AL O (AD (v:=(vN m)) (AE O underlying220) O (AL O (oNl' (zA (zI ?_)))))))))
 refine yQ (tg λ(i:Nat) (os:List Nat) (c2:Nat)=>i<=m/\os.length=m+1/\W32 os/\c2<2^s/\(∀j,i<=j->os.getD j 0=0)/\val os+c2*4294967296^i=val (bs.take i)*2^s) (tg λ(i:Nat) (os:List Nat) (c2:Nat)=>[(0,(qz (jk p) m c)),(1,(vN s)),(4,jj),(5,(qz (jk b1) (m+1) (m+1))),(13,(qz (jk p) m c)),(14,(vN m)),(15,(vN i)),(6,(vK .u32 c2))]) (tg λ(i:Nat) (os:List Nat) (c2:Nat)=>[AY b1 89 (Aj os)]) (tg λ(i:Nat) (os:List Nat) (c2:Nat)=>m-i) 0 (List.replicate (m+1) 0) 0 (⟨xJ _,by simp,W32.zeros _,Nat.pow_pos Z,λj _=>by simp [List.getD_eq_getElem?_getD,List.getElem?_replicate];split<;>rfl,by rw [EM];simp [val]⟩) (sF O) sr (λi os c2 hJ=>?_)
 obtain ⟨hi,hl,hw32,hcb2,h0,hv⟩:=hJ
 refine q4 (AD (Ab (c:=(decide (i<m))) O O (DA (a:=i) (b:=m))) O (oNl' (q1 ?_)))
 refine zK O (λhc0=>?_) (λhc0=>?_)
 ·replace hc0:=xT hc0
  refine zC (q1 (zI (q4 (AL O (AD (v:=(pP p i)) (AG (j:=i) O O underlying220 sizeOf89 O Z jX) O ?_)))))
  have hx1:bs.getD i 0<4294967296:=W32.getD hbs i
  refine AD (Bc (v:=(vK .u32 (bs.getD i 0))) O (λw' hw=>CA.at0 (hw.oldCA jX (FB hp)) (BF (xs:=bs) (j:=i) Z)) isAgg89) O (asg' O (asg' O (q3 (sL [0,1,4,5,13,14,15,6,7,8] O) (AL O (AL O (AL O (AL O ?_)))))))
  have hxb:=hbs.getD i
  have hsl:=aq hxb hs
  have hs32:(2:Nat)^s<=2^31:=Nat.pow_le_pow_right Z Z
  have hso:=Qv (w:=bs.getD i 0) hcb2 hs
  refine AD (v:=(vK .u32 (bs.getD i 0*2^s%4294967296))) (Gp (s:=s) O O O (show s<=32 by omega) NH) O (AL O (AD (Jc (c:=((bs.getD i 0*2^s%4294967296+c2:Nat):Int)) O O (KQ Z Z (au hxb hcb2 hs))) O (AD (v:=(pP b1 i)) (AG (j:=i) O O underlying220 sizeOf89 O Z jX) O (zo (i:=0) (off:=i) (vs:=[(vK .u32 (bs.getD i 0*2^s%4294967296+c2))]) (cs':=Aj (os.set i (bs.getD i 0*2^s%4294967296+c2))) (L':=[AY b1 89 (Aj (os.set i (bs.getD i 0*2^s%4294967296+c2)))]) (AI O) O O O O O sizeOf89 O (Cm (BO _) Z) (CI Z) O (oNl' (zB (sL [0,1,4,5,13,14,15,6,8] O) (zA (zH (AL O (AD (Aq (c:=((bs.getD i 0:Nat):Int)) O underlying89 underlying60 (BS Z)) O (AL O ?_)))))))))))
  refine AD (v:=(vK .u64 (bs.getD i 0*2^s))) (Gp (s:=s) O O O (show s<=64 by omega) (G2 hsl.1)) O (AD (C1 (s:=32) (c:=(((bs.getD i 0*2^s)/4294967296:Nat):Int)) O O O jY (GS (a:=bs.getD i 0*2^s) (s:=32))) O (AD (Aq (c:=(((bs.getD i 0*2^s)/4294967296:Nat):Int)) O underlying60 underlying89 (CW Z)) O (asg' O (oNl' (zB (sL [0,1,4,5,13,14,15,6,8] O) (zF (zA (zH (AD (AS (c:=((i+1:Nat):Int)) O O (AV (a:=i) (b:=1) Z)) O (AL O (oNl' ?_)))))))))))
  refine zB (sL [0,1,4,5,13,14,15,6,8] O) ?_
  exact yM (i+1) (os.set i (bs.getD i 0*2^s%4294967296+c2)) (bs.getD i 0*2^s/4294967296) (⟨Z,by rw [List.length_set];exact hl,W32.set hw32 hso _,hsl.2,λj hj=>by rw [List.getD_eq_getElem?_getD,List.getElem?_set_ne Z,<-List.getD_eq_getElem?_getD];exact h0 j Z,Qu hl Z h0 hv⟩) Z (sF O) sr
 ·replace hc0:=xS hc0
  have him:i=m:=by omega
  have hs32:(2:Nat)^s<=2^31:=Nat.pow_le_pow_right Z Z
  have hcb:c2<4294967296:=by omega
  refine zU (zO (yB (zP (q2 (AL O (AL O (AD (v:=(vN m)) (AE O underlying220) O (AL O (AD (v:=(pP b1 m)) (AG (j:=m) O O underlying220 sizeOf89 O Z jX) O (zo (i:=0) (off:=m) (vs:=[(vK .u32 c2)]) (cs':=Aj (os.set m c2)) (L':=[AY b1 89 (Aj (os.set m c2))]) (AI O) O O O O O sizeOf89 O (Cm (BO _) Z) (CI Z) O (q3 (sL [0,1,4,5,13,14,15,6] O) ?_)))))))))))
  refine AL O (asg' O (oNl' (zB (sL [0,1,4,5,13,14,15,6] O) (zA (zG ?_)))))
  have hrow:os.set m c2=Ck (m+1) (val (bs.take m)*2^s):=H9 (W32.set hw32 hcb _) (by rw [List.length_set];exact hl) (by rw [Id hl Z (h0 m Z),<-him];exact hv)
  have hcells:(some (Obj.cells (Aj (os.set m c2)).toArray 89 (0,0)))=some (Obj.cells (Aj (Ck (m+1) (val (bs.take m)*2^s))).toArray 89 (0,0)):=by rw [hrow]
  exact ret_one O (rd_tmp (v:=(qz (jk b1) (m+1) (m+1))) O) (λw hw=>⟨b1,rfl,hw.out,hw.fresh (i:=0) O,(hw.get (i:=0) O).trans hcells⟩)
end
end Go.Proofs.YtbfdamnfcmefmaaGreatDoor
