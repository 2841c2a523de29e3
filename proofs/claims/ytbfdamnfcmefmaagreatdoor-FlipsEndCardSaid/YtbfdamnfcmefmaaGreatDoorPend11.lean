import Derived.Test.YtbfdamnfcmefmaaGreatDoorPend10
namespace Go.Proofs.YtbfdamnfcmefmaaGreatDoor
open Go Go.RowKit Go.Proofs.Tryz
open Go.Value renaming slice→qz,bool→qa
set_option linter.unusedVariables false
set_option linter.unusedSimpArgs false
theorem Ii {b:Nat} (h:0<nw b):4294967296^(nw b-1)<=b:=by
  rcases Nat.lt_or_ge b (4294967296^(nw b-1)) with h1|h1
  · have:=Cs.2 h1;omega
  · exact h1
theorem Pf {b:Nat} (h:0<nw b):(AK b).getD (nw b-1) 0=b/4294967296^(nw b-1)/\0<(AK b).getD (nw b-1) 0/\(AK b).getD (nw b-1) 0<4294967296:=by
  have h1:=Ii h
  have h2:=B7 b
  have h3:b/4294967296^(nw b-1)<4294967296:=by
    rw [Nat.div_lt_iff_lt_mul (Nat.pow_pos Z)]
    have:4294967296^nw b=4294967296*4294967296^(nw b-1):=by rw [<-Nat.pow_succ',show (nw b-1).succ=nw b by omega]
    omega
  have h4:0<b/4294967296^(nw b-1):=Nat.div_pos h1 (Nat.pow_pos Z)
  have h5:(AK b).getD (nw b-1) 0=b/4294967296^(nw b-1):=by rw [IG,Nat.mod_eq_of_lt h3]
  exact ⟨h5,by rw [h5];exact h4,by rw [h5];exact h3⟩
theorem aP {b s:Nat} (h:0<nw b) (hs:s=32-bl ((AK b).getD (nw b-1) 0)):s<32/\2147483648*4294967296^(nw b-1)<=b*2^s/\b*2^s<4294967296^nw b:=by
  obtain ⟨h1,h2,h3⟩:=Pf h
  obtain ⟨k1,k2,k3,k4⟩:=Sr h2 h3
  rw [<-hs] at k3 k4
  have hs32:s<32:=by omega
  have hp:0<4294967296^(nw b-1):=Nat.pow_pos Z
  have e:4294967296^nw b=4294967296*4294967296^(nw b-1):=by rw [<-Nat.pow_succ',show (nw b-1).succ=nw b by omega]
  rw [e]
  rw [h1] at k3 k4
  have m:=Nat.div_add_mod b (4294967296^(nw b-1))
  have ml:=Nat.mod_lt b hp
  generalize b/4294967296^(nw b-1)=y at *
  generalize b%4294967296^(nw b-1)=r at *
  generalize 4294967296^(nw b-1)=p at *
  have h32:(4294967296:Nat)=2^(32-s)*2^s:=by rw [<-Nat.pow_add,show 32-s+s=32 by omega]
  have k5:(y+1)*2^s<=4294967296:=by
    rw [h32] at k4 ⊢
    exact Nat.mul_le_mul_right _ (Nat.lt_of_mul_lt_mul_right k4)
  refine ⟨hs32,?_,?_⟩
  · have:2147483648*p<=y*2^s*p:=Nat.mul_le_mul_right _ k3
    have e2:b*2^s=y*2^s*p+r*2^s:=by rw [<-m];grind
    omega
  · have:(y+1)*2^s*p<=4294967296*p:=Nat.mul_le_mul_right _ k5
    have e2:b<(y+1)*p:=by rw [Nat.add_mul,Nat.one_mul,Nat.mul_comm y];omega
    have e3:b*2^s<(y+1)*p*2^s:=Nat.mul_lt_mul_of_pos_right e2 (Nat.pow_pos Z)
    have e4:(y+1)*p*2^s=(y+1)*2^s*p:=by rw [Nat.mul_right_comm]
    omega
theorem TS {xs:List Nat} {j:Nat} (h:W32 xs):xs.getD (j+1) 0*4294967296+xs.getD j 0=val xs/4294967296^j%18446744073709551616:=by
  rw [HB xs _ h,HB xs _ h,Nat.pow_succ,<-Nat.div_div_eq_div_mul]
  omega
theorem R8 {xs:List Nat} {j:Nat} (h:W32 xs) (hv:val xs<4294967296^(j+2)):xs.getD (j+1) 0*4294967296+xs.getD j 0=val xs/4294967296^j:=by
  rw [TS h,Nat.mod_eq_of_lt]
  rw [Nat.div_lt_iff_lt_mul (Nat.pow_pos Z)]
  rw [Nat.pow_succ,Nat.pow_succ] at hv
  omega
structure Py (vb:List Nat) (n V:Nat):Prop where
  w32:W32 vb
  len:vb.length=n+1
  two:2<=n
  val_:val vb=V
  low:2147483648*4294967296^(n-1)<=V
  high:V<4294967296^n
theorem Py.take {vb:List Nat} {n V:Nat} (h:Py vb n V):val (vb.take n)=V:=by rw [MC (by rw [h.val_];exact h.high),h.val_]
theorem Py.top {vb:List Nat} {n V:Nat} (h:Py vb n V):vb.getD (n-1) 0*4294967296+vb.getD (n-2) 0=V/4294967296^(n-2)/\2147483648<=vb.getD (n-1) 0/\vb.getD (n-1) 0<4294967296:=by
  have h2:=h.two
  have e:=R8 (j:=n-2) h.w32 (by rw [show n-2+2=n by omega,h.val_];exact h.high)
  rw [show n-2+1=n-1 by omega,h.val_] at e
  refine ⟨e,?_,h.w32.getD _⟩
  rw [HB _ _ h.w32,h.val_,Nat.mod_eq_of_lt]
  · rw [Nat.le_div_iff_mul_le (Nat.pow_pos Z)];exact h.low
  · rw [Nat.div_lt_iff_lt_mul (Nat.pow_pos Z)]
    have:4294967296^n=4294967296*4294967296^(n-1):=by rw [<-Nat.pow_succ',show (n-1).succ=n by omega]
    have:=h.high
    omega
theorem Py.parts {vb:List Nat} {n V:Nat} (h:Py vb n V):V=(vb.getD (n-1) 0*4294967296+vb.getD (n-2) 0)*4294967296^(n-2)+V%4294967296^(n-2)/\V%4294967296^(n-2)<4294967296^(n-2):=by
  rw [h.top.1]
  refine ⟨?_,Nat.mod_lt _ (Nat.pow_pos Z)⟩
  have:=Nat.div_add_mod V (4294967296^(n-2))
  rw [Nat.mul_comm];omega
structure W_ (us:List Nat) (V k n W top u2:Nat):Prop where
  w:W=val us/4294967296^k
  lt:W<V*4294967296
  low:(top*4294967296+u2)*4294967296^(n-2)<=W
  high:W<(top*4294967296+u2+1)*4294967296^(n-2)
  topb:top<18446744073709551616
  fits:val us<4294967296^(k+n+1)
theorem bI {us vb:List Nat} {V k n:Nat} (hn:Py vb n V) (hu:W32 us) (hR:val us<V*4294967296^(k+1)) :
    W_ us V k n (val us/4294967296^k) (us.getD (k+n) 0*4294967296+us.getD (k+n-1) 0) (us.getD (k+n-2) 0):=by
  have h2:=hn.two
  have hp:0<4294967296^k:=Nat.pow_pos Z
  have hfit:val us<4294967296^(k+n+1):=by
    have h1:V*4294967296^(k+1)<4294967296^n*4294967296^(k+1):=Nat.mul_lt_mul_of_pos_right hn.high (Nat.pow_pos Z)
    rw [<-Nat.pow_add,show n+(k+1)=k+n+1 by omega] at h1
    omega
  have e1:=R8 (xs:=us) (j:=k+n-1) hu (by rw [show k+n-1+2=k+n+1 by omega];exact hfit)
  rw [show k+n-1+1=k+n by omega] at e1
  have e3:us.getD (k+n-2) 0=val us/4294967296^(k+n-2)%4294967296:=HB _ _ hu
  have e4:val us/4294967296^(k+n-1)=val us/4294967296^(k+n-2)/4294967296:=by
    rw [Nat.div_div_eq_div_mul,<-Nat.pow_succ,show (k+n-2).succ=k+n-1 by omega]
  have e5:(us.getD (k+n) 0*4294967296+us.getD (k+n-1) 0)*4294967296+us.getD (k+n-2) 0=val us/4294967296^k/4294967296^(n-2):=by
    have e6:val us/4294967296^k/4294967296^(n-2)=val us/4294967296^(k+n-2):=by rw [Nat.div_div_eq_div_mul,<-Nat.pow_add,show k+(n-2)=k+n-2 by omega]
    rw [e1,e3,e4,e6]
    exact Nat.div_add_mod' _ _
  have w1:=hu.getD (k+n)
  have w2:=hu.getD (k+n-1)
  refine ⟨rfl,?_,?_,?_,Z,hfit⟩
  · rw [Nat.div_lt_iff_lt_mul hp]
    rw [Nat.pow_succ] at hR
    have:V*(4294967296^k*4294967296)=V*4294967296*4294967296^k:=by grind
    omega
  · rw [e5];exact Nat.div_mul_le_self _ _
  · rw [e5,Nat.mul_comm];exact Nat.lt_mul_div_succ _ (Nat.pow_pos Z)
theorem W_.quo_lt {us:List Nat} {V k n W top u2:Nat} (h:W_ us V k n W top u2) (hV:0<V):W/V<4294967296:=by
  rw [Nat.div_lt_iff_lt_mul hV,Nat.mul_comm];exact h.lt
theorem Py.pos {vb:List Nat} {n V:Nat} (h:Py vb n V):0<V:=by
  have:=h.low
  have:=Nat.pow_pos (n:=n-1) (show 0<4294967296 by omega)
  omega
theorem O8 {us vb:List Nat} {V k n W top u2:Nat} (hn:Py vb n V) (h:W_ us V k n W top u2) (hu2:u2<4294967296):IM V W (vb.getD (n-1) 0) top (top/vb.getD (n-1) 0) (top%vb.getD (n-1) 0):=by
  have hp:0<4294967296^(n-2):=Nat.pow_pos Z
  refine QK (p:=4294967296^(n-2)) (v2:=vb.getD (n-2) 0) (u2:=u2) hp hn.parts.1 (hn.w32.getD _) hn.parts.2 ?_ (by have:=hn.top;omega)
  have h1:=h.high
  have h2:(top*4294967296+u2+1)*4294967296^(n-2)<=((top+1)*4294967296)*4294967296^(n-2):=Nat.mul_le_mul_right _ Z
  rw [<-Nat.mul_assoc]
  omega
theorem Lb {us vb:List Nat} {V k n W top u2 d r:Nat} (hn:Py vb n V) (h:W_ us V k n W top u2) (hg:IM V W (vb.getD (n-1) 0) top d r) (ht:¬(d<=4294967295/\d*vb.getD (n-2) 0<=r*4294967296+u2)) :
    IM V W (vb.getD (n-1) 0) top (d-1) (r+vb.getD (n-1) 0)/\0<d :=
  QL hg (Nat.pow_pos Z) hn.parts.1 (by have:=hn.top;omega) h.high (h.quo_lt hn.pos) ht
theorem LT {us vb:List Nat} {V k n W top u2 d r:Nat} (hn:Py vb n V) (h:W_ us V k n W top u2) (hg:IM V W (vb.getD (n-1) 0) top d r) (he:4294967295<r\/(d<=4294967295/\d*vb.getD (n-2) 0<=r*4294967296+u2)) :
    d<=4294967295/\(d=W/V\/d=W/V+1) :=
  QJ hg (Nat.pow_pos Z) hn.parts.1 hn.parts.2 (by have:=hn.top;omega) (hn.w32.getD _) h.low h.lt (hn.w32.getD _) he
theorem QT {us vb:List Nat} {V k n W top u2 d:Nat} (hn:Py vb n V) (h:W_ us V k n W top u2) (hd:d=W/V\/d=W/V+1) (hl:¬val us<d*V*4294967296^k):d=W/V/\val us+0-d*V*4294967296^k=val us-W/V*V*4294967296^k:=by
  have e:d=W/V:=by
    rcases hd with hd|hd
    · exact hd
    · exfalso
      refine hl ?_
      have h1:W<d*V:=by rw [hd];exact (Nat.div_lt_iff_lt_mul hn.pos).1 (Nat.lt_succ_self _)
      have h2:val us<(W+1)*4294967296^k:=by
        rw [h.w,Nat.mul_comm];exact Nat.lt_mul_div_succ _ (Nat.pow_pos Z)
      have h3:(W+1)*4294967296^k<=d*V*4294967296^k:=Nat.mul_le_mul_right _ h1
      omega
  exact ⟨e,by rw [e];rfl⟩
theorem Qo {us vb:List Nat} {V k n W top u2:Nat} (h:W_ us V k n W top u2):W/V*V*4294967296^k<=val us:=by
  have h1:W/V*V*4294967296^k<=W*4294967296^k:=Nat.mul_le_mul_right _ (Nat.div_mul_le_self _ _)
  have h2:W*4294967296^k<=val us:=by rw [h.w];exact Nat.div_mul_le_self _ _
  omega
theorem QU {us vb:List Nat} {V k n W top u2 d:Nat} (h:W_ us V k n W top u2) (hd:d=W/V\/d=W/V+1) (hl:val us<d*V*4294967296^k):d=W/V+1/\d*V*4294967296^k=W/V*V*4294967296^k+V*4294967296^k:=by
  have hq:=Qo (vb:=vb) h
  have e:d=W/V+1:=by
    rcases hd with hd|hd
    · subst hd;omega
    · exact hd
  exact ⟨e,by rw [e,Nat.add_mul,Nat.add_mul,Nat.one_mul]⟩
theorem SK {os vb:List Nat} {U i k n c:Nat} (hl:os.length=n) (hi:k+i<n) (hv:val os+c*4294967296^(k+i)=U+val (vb.take i)*4294967296^k) :
    val (os.set (k+i) ((os.getD (k+i) 0+vb.getD i 0+c)%4294967296))+(os.getD (k+i) 0+vb.getD i 0+c)/4294967296*4294967296^(k+(i+1))=U+val (vb.take (i+1))*4294967296^k:=by
  have e:=Fk (xs:=os) (i:=k+i) Z ((os.getD (k+i) 0+vb.getD i 0+c)%4294967296)
  have t:=BW vb i
  have hm:=Nat.div_add_mod (os.getD (k+i) 0+vb.getD i 0+c) 4294967296
  rw [t,show k+(i+1)=k+i+1 by omega,Nat.pow_succ]
  rw [Nat.pow_add] at *
  generalize os.getD (k+i) 0=o at *
  generalize vb.getD i 0=y at *
  generalize (o+y+c)/4294967296=q at *
  generalize (o+y+c)%4294967296=r at *
  generalize 4294967296^i=p at *
  generalize 4294967296^k=p' at *
  generalize val (vb.take i)=v at *
  have hm2:(4294967296*q+r)*(p'*p)=(o+y+c)*(p'*p):=by rw [hm]
  grind
theorem SJ {os:List Nat} {T P p N c:Nat} (hl:os.length=N) (hp:p<N) (hw:W32 os) (hc:c<=1) (hz:∀j,p+1<=j->os.getD j 0=0) (hP:P=4294967296^(p+1)) (hv:val os+c*4294967296^p=T+P) (hT:T<P) :
    val (os.set p ((os.getD p 0+c)%4294967296))=T:=by
  have e:=Fk (xs:=os) (i:=p) Z ((os.getD p 0+c)%4294967296)
  have hw2:W32 (os.set p ((os.getD p 0+c)%4294967296)):=hw.set Z _
  have ho:=hw.getD p
  have hlt:∀xs:List Nat,W32 xs->xs.length=N->(∀j,p+1<=j->xs.getD j 0=0)->val xs<P:=λxs hx hxl hxz=>by
    have h1:=E8 xs (p+1) Z
    have h2:val (xs.drop (p+1))=0:=by
      have:xs.drop (p+1)=List.replicate (N-(p+1)) 0:=by
        apply List.ext_getElem (by simp [hxl])
        intro j h1 h2
        have:=hxz (p+1+j) Z
        simp [List.getD_eq_getElem?_getD] at this h1
        simp
        have h3:p+1+j<xs.length:=by omega
        simpa [h3] using this
      rw [this,EM]
    rw [h2] at h1
    have h3:=HD (hx.take (p+1))
    rw [List.length_take,Nat.min_eq_left Z] at h3
    omega
  have b2:=hlt _ hw2 (by rw [List.length_set];exact hl) (F6 hz Z)
  rw [hP,Nat.pow_succ] at *
  generalize val (os.set p ((os.getD p 0+c)%4294967296))=v' at *
  generalize os.getD p 0=o at *
  generalize 4294967296^p=z at *
  by_cases h:o+c<4294967296
  · rw [Nat.mod_eq_of_lt h,Nat.add_mul] at e
    omega
  · have h1:o+c=4294967296:=by omega
    rw [h1,Nat.mod_self] at e
    have h2:o*z+c*z=4294967296*z:=by rw [<-Nat.add_mul,h1]
    omega
theorem P9 {us us2 vb qs:List Nat} {V k n W top u2 A m:Nat} (hn:Py vb n V) (h:W_ us V k n W top u2) (hv2:val us2=val us-W/V*V*4294967296^k) (hA:A=val qs*V+val us) (hl:qs.length=m) (hk:k<m) (h0:qs.getD k 0=0) :
    val us2<V*4294967296^k/\A=val (qs.set k (W/V))*V+val us2:=by
  have hq:=Qo (vb:=vb) h
  have hm:=Nat.div_add_mod W V
  have hml:=Nat.mod_lt W hn.pos
  have hp:0<4294967296^k:=Nat.pow_pos Z
  have hk1:=Nat.div_add_mod (val us) (4294967296^k)
  have hk2:=Nat.mod_lt (val us) hp
  rw [<-h.w] at hk1
  constructor
  · have h1:(W%V+1)*4294967296^k<=V*4294967296^k:=Nat.mul_le_mul_right _ hml
    have h2:W*4294967296^k=W/V*V*4294967296^k+W%V*4294967296^k:=by
      rw [<-Nat.add_mul,Nat.mul_comm (W/V)]
      rw [hm]
    rw [Nat.add_mul,Nat.one_mul] at h1
    rw [Nat.mul_comm] at hk1
    omega
  · rw [Id hl hk h0,Nat.add_mul,hA,hv2]
    have:W/V*4294967296^k*V=W/V*V*4294967296^k:=by rw [Nat.mul_right_comm]
    omega
theorem Sq {a b s q r:Nat} (hb:0<b) (h:a*2^s=q*(b*2^s)+r) (hr:r<b*2^s):q=a/b/\r=a%b*2^s:=by
  have hp:0<2^s:=Nat.pow_pos Z
  have h1:a*2^s/(b*2^s)=q/\a*2^s%(b*2^s)=r:=by
    have e:a*2^s=r+b*2^s*q:=by rw [h,Nat.mul_comm q];omega
    rw [e]
    constructor
    · rw [Nat.add_mul_div_left _ _ Z,Nat.div_eq_of_lt hr];omega
    · rw [Nat.add_mul_mod_self_left,Nat.mod_eq_of_lt hr]
  rw [Nat.mul_div_mul_right _ _ hp,Nat.mul_mod_mul_right] at h1
  exact ⟨h1.1.symm,h1.2.symm⟩
theorem QZ {a b s n m:Nat} (hn:n=nw b) (hb:0<nw b) (hs:s<32) (hV:2147483648*4294967296^(nw b-1)<=b*2^s) (hm:m=nw a+1-nw b) (hba:nw b<=nw a):a*2^s<b*2^s*4294967296^m:=by
  have h1:=B7 a
  have h2:(2:Nat)^s<=2^31:=Nat.pow_le_pow_right Z Z
  have h3:a*2^s<=a*2147483648:=Nat.mul_le_mul_left _ h2
  have h4:a*2147483648<4294967296^nw a*2147483648:=Nat.mul_lt_mul_of_pos_right h1 Z
  have h5:2147483648*4294967296^(nw b-1)*4294967296^m<=b*2^s*4294967296^m:=Nat.mul_le_mul_right _ hV
  have h6:2147483648*4294967296^(nw b-1)*4294967296^m=4294967296^nw a*2147483648:=by
    rw [Nat.mul_assoc,<-Nat.pow_add,show nw b-1+m=nw a by omega,Nat.mul_comm]
  omega
theorem BH.apart {w0:BD} {w:World} {L:List As} (h:BH w0 w L) {i j b b':Nat} {T T':TypeId} {cs cs':List Value} (hij:i<j) (hi:L[i]?=some (AY b T cs)) (hj:L[j]?=some (AY b' T' cs')):b≠b':=by
  have hp:=h.2.2
  obtain ⟨h1,e1⟩:=List.getElem?_eq_some_iff.1 hi
  obtain ⟨h2,e2⟩:=List.getElem?_eq_some_iff.1 hj
  have:=(List.pairwise_iff_getElem.1 hp i j h1 h2 hij).resolve_left (λk=>by have:=k.1;rw [e1] at this;cases this) b (by rw [e1])
  rw [e2] at this
  exact λe=>this (by rw [e])
section
set_option maxRecDepth 100000
theorem P1 {R P D Q X:Nat} (h1:D=Q+X) (h2:Q<=R) (h3:R<P) (h4:R<D) (h5:X<=P):R+P-D+X=R-Q+P:=by omega
theorem YY (a b p q c1 c2:Nat) (ha:nw a<=1099511627776) (hb2:2<=nw b) (hba:nw b<=nw a) (w:World) (hp:w.heap[p]?=some (.cells (Aj (Ar a)).toArray 89 (0,0))) (hq:w.heap[q]?=some (.cells (Aj (Ar b)).toArray 89 (0,0))):Calls prog 224 #[(qz (jk p) (nw a) c1),(qz (jk q) (nw b) c2)] w (λe w'=>∃b1 b2,e=.returned (.tuple #[.slice (jk b1) (nw a+1-nw b) (nw a+1-nw b),.slice (jk b2) (nw a+1) (nw a+1)])/\Hm w.heap.size w w'/\w.heap.size<=b1/\w.heap.size<=b2/\b1≠b2/\w'.heap[b1]?=some (.cells (Aj (Ck (nw a+1-nw b) (a/b))).toArray 89 (0,0))/\w'.heap[b2]?=some (.cells (Aj (Ck (nw a+1) (a%b))).toArray 89 (0,0))):=by
 have hla:=CQ a
 have hlb:=CQ b
 have hb0:0<b:=Nat.pos_of_ne_zero (λh=>by rw [h,OE] at hb2;omega)
 obtain ⟨s,hs⟩:∃s,s=32-bl ((AK b).getD (nw b-1) 0):=⟨_,rfl⟩
 obtain ⟨hs32,hlow,hhigh⟩:=aP Z hs
 obtain ⟨m,hm⟩:∃m,m=nw a+1-nw b:=⟨_,rfl⟩
 obtain ⟨V,hV⟩:∃V,V=b*2^s:=⟨_,rfl⟩
 obtain ⟨vb,hvb⟩:∃vb,vb=Ck (nw b+1) (b*2^s):=⟨_,rfl⟩
 have hbig:b*2^s<4294967296^(nw b+1):=Nat.lt_of_lt_of_le hhigh (Nat.pow_le_pow_right Z Z)
 have hN:Py vb (nw b) V:=⟨by rw [hvb];exact D9 _ _,by rw [hvb];exact Bg _ _,hb2,by rw [hvb,hV];exact FS _ _ hbig,by rw [hV];exact hlow,by rw [hV];exact hhigh⟩
 have hst:=QZ rfl Z hs32 hlow hm hba
 have hA:val (Ck (nw a+1) (a*2^s))=a*2^s:=FS _ _ (by rw [Nat.pow_succ];exact Nat.mul_lt_mul_of_lt_of_le (B7 a) (xM (Nat.pow_le_pow_right Z (show s<=32 by omega)) jY) Z)
 have hvlen:=hN.len
 have htop:=hN.top
 have htw:=(Pf (b:=b) Z).2.2
 refine AW (args:=[(qz (jk p) (nw a) c1),(qz (jk q) (nw b) c2)]) func224 O O (A_ O) (zM (sL [0,1] O) (q4 (asg' O (asg' O (oNl' (q2 (AL O (AL O (AD (v:=(vN (nw b))) (AE O underlying220) O (AD (Bt (c:=(((nw b)-1:Nat):Int)) O O (CH (a:=nw b) (b:=1) Z Z)) O (AD (v:=(pP q ((nw b)-1))) (AG (j:=(nw b)-1) O O underlying220 sizeOf89 O Z jX) O ?_)))))))))))
 have hx1:(Ar b).getD ((nw b)-1) 0<4294967296:=W32.getD (CU b) ((nw b)-1)
 refine AD (Bc (v:=(vK .u32 ((Ar b).getD ((nw b)-1) 0))) O (λw' hw=>CA.at0 (hw.oldCA jX (FB hq)) (BF (xs:=Ar b) (j:=((nw b)-1)) Z)) isAgg89) O (zL (k:=22) (u:=(vK .u32 ((AK b).getD (nw b-1) 0))) O (by rw [Dl Z]) (ck' call260 (Yc ((AK b).getD (nw b-1) 0) Z) O (zL (k:=23) (u:=(vN s)) O (by rw [hs]) (asg' O (q6 (sL [0,1,4,5,6] O) (C8 [(0,true),(1,true),(3,true),(4,true),(6,true),(7,true),(2,false),(5,false),(8,true),(9,true),(10,true)] sr (Bp O (Bp O (Bp O (Bp O (Bp O ?_)))))))))))
 refine Al (v:=(vN (nw b))) O (AE O underlying220) (zN O (yA (V:=λb1=>(qz (jk b1) (nw a+1) (nw a+1))) (T:=89) (cs:=Aj (Ck (nw a+1) (a*2^s))) (AI O) (Am (args:=[(qz (jk p) (nw a) c1),(vN s)]) O O call261) (λw hw=>(by have h:=Lr p (nw a) c1 s (Ar a) (CU a) hla Z hs32 w (hw.old jX hp);rw [Io] at h;exact h)) O (A_ O) λb1=>zD (sl sr) (zN O (yA (V:=λb2=>(qz (jk b2) (nw b+1) (nw b+1))) (T:=89) (cs:=Aj vb) (AI O) (Am (args:=[(qz (jk q) (nw b) c2),(vN s)]) O O call261) (λw hw=>(by have h:=Lr q (nw b) c2 s (Ar b) (CU b) hlb Z hs32 w (hw.old jX hq);rw [Io,<-hvb] at h;exact h)) O (A_ O) λb2=>zD (sl (sl sr)) (Al (v:=(qz (jk b2) (nw b) (nw b+1))) O (Jd (m:=nw b) O O underlying220 sizeOf89 Z) (pS' O (pS' O (zQ (zB (sL [1,4,5,6,7,8] O) ?_)))))))))
 refine q2 (AL O (AD (v:=(vN (nw b))) (AE O underlying220) O (asg' O (q3 (sL [1,4,5,6,7,8,9] O) (AL O (AD (v:=(vN (nw a+1))) (AE O underlying220) O (AL O (AD (Bt (c:=(((nw a+1)-(nw b):Nat):Int)) O O (CH (a:=nw a+1) (b:=nw b) Z Z)) O (zL (k:=38) (u:=(vN m)) O (by rw [hm]) (ze (V:=λb3=>(qz (jk b3) m m)) (T:=89) (cs:=Aj (List.replicate m 0)) (AI O) (DK (m:=m) (c:=m) O O Z Z) O (A_ O) λb3=>asg' O ?_))))))))))
 refine q6 (sL [1,4,5,6,7,8,9] O) (q4 (AL O (AD (v:=(vN m)) (AE O underlying220) O (AD (Bt (c:=(((m:Nat):Int)-1)) O O (BJ Z Z)) O (asg' O (oNl' (zB (sL [1,4,5,6,7,8,9,10] O) (zA (zI ?_)))))))))
 refine yQ (tg λ(k0:Nat) (us:List Nat) (qs:List Nat)=>k0<=m/\us.length=nw a+1/\W32 us/\qs.length=m/\W32 qs/\(∀j,j<k0->qs.getD j 0=0)/\val us<V*4294967296^k0/\a*2^s=val qs*V+val us) (tg λ(k0:Nat) (us:List Nat) (qs:List Nat)=>[(4,(qz (jk b3) m m)),(5,jj),(6,(vN s)),(7,(qz (jk b1) (nw a+1) (nw a+1))),(8,(qz (jk b2) (nw b) (nw b+1))),(9,(vN (nw b))),(10,(vI (((k0:Nat):Int)-1)))]) (tg λ(k0:Nat) (us:List Nat) (qs:List Nat)=>[AY b3 89 (Aj qs),AY b2 89 (Aj vb),AY b1 89 (Aj us)]) (tg λ(k0:Nat) (us:List Nat) (qs:List Nat)=>k0) m (Ck (nw a+1) (a*2^s)) (List.replicate m 0) (⟨Nat.le_refl _,Bg _ _,D9 _ _,by simp,W32.zeros _,λj _=>by simp [List.getD_eq_getElem?_getD,List.getElem?_replicate];split<;>rfl,by rw [hA,hV];exact hst,by rw [hA,EM];simp⟩) (sF O) sr (λk0 us qs hJ=>?_)
 obtain ⟨hk0,hul,huw,hql,hqw,hqz,hlt,hAeq⟩:=hJ
 refine zX (q4 (AL O (AD (D1 (c:=(decide ((0:Int)<=(((k0:Nat):Int)-1)))) O O O) O (oNl' (zB (sL [4,5,6,7,8,9,10,44] O) (zA ?_))))))
 refine zK O (λhc0=>?_) (λhc0=>?_)
 ·replace hc0:=xT hc0
  obtain ⟨k,rfl⟩:∃k,k0=k+1:=⟨k0-1,Z⟩
  obtain ⟨top,htp⟩:∃t,t=us.getD (k+nw b) 0*4294967296+us.getD (k+nw b-1) 0:=⟨_,rfl⟩
  obtain ⟨W,hWd⟩:∃x,x=val us/4294967296^k:=⟨_,rfl⟩
  have hWin:=bI hN huw hlt
  rw [<-htp,<-hWd] at hWin
  have hu2:=huw.getD (k+nw b-2)
  have hG0:=O8 hN hWin hu2
  have htb:=hWin.topb
  have hq32:=hWin.quo_lt hN.pos
  refine yO (k:=10) (u:=(vN k)) O (by congr 1;omega) (zC (q1 (zI (OkC.scope (zX (C8 (El 18) sr (Bp O (Bp O (Bp O (Al O (AS (c:=((k+(nw b):Nat):Int)) O O (AV (a:=k) (b:=nw b) Z)) (Al (v:=(pP b1 (k+(nw b)))) O (AG (j:=k+(nw b)) O O underlying220 sizeOf89 O Z jX) ?_)))))))))))
  have hx2:us.getD (k+(nw b)) 0<4294967296:=W32.getD huw (k+(nw b))
  refine Al O (AH (i:=2) (v:=(vK .u32 (us.getD (k+(nw b)) 0))) O O isAgg89 (BF (xs:=us) (j:=(k+(nw b))) Z)) (Al O (Aq (c:=((us.getD (k+(nw b)) 0:Nat):Int)) O underlying89 underlying60 (BS Z)) (Al (v:=(vK .u64 (us.getD (k+nw b) 0*4294967296))) O (Gp (s:=32) O O O jY (G2 (s:=32) Z)) (Bp O (Bp O (Bp O (Al O (AS (c:=((k+(nw b):Nat):Int)) O O (AV (a:=k) (b:=nw b) Z)) (Al O (Bt (c:=(((k+(nw b))-1:Nat):Int)) O O (CH (a:=k+(nw b)) (b:=1) Z Z)) (Al (v:=(pP b1 ((k+(nw b))-1))) O (AG (j:=(k+(nw b))-1) O O underlying220 sizeOf89 O Z jX) ?_))))))))
  have hx3:us.getD ((k+(nw b))-1) 0<4294967296:=W32.getD huw ((k+(nw b))-1)
  refine Al O (AH (i:=2) (v:=(vK .u32 (us.getD ((k+(nw b))-1) 0))) O O isAgg89 (BF (xs:=us) (j:=((k+(nw b))-1)) Z)) (Al O (Aq (c:=((us.getD ((k+(nw b))-1) 0:Nat):Int)) O underlying89 underlying60 (BS Z)) (Al O (Jc (c:=((top:Nat):Int)) O O (KR Z Z (((Nat.or_comm _ _).trans ((H6 (s:=32) Z).trans (Nat.add_comm _ _))).trans htp.symm))) (pS' O (zQ (zB (sL [4,5,6,7,8,9,10,11] O) (q1 (C8 (El 18) sr (Bp O (Bp O (Bp O (Al O (Bt (c:=(((nw b)-1:Nat):Int)) O O (CH (a:=nw b) (b:=1) Z Z)) ?_)))))))))))
  refine Al (v:=(pP b2 ((nw b)-1))) O (AG (j:=(nw b)-1) O O underlying220 sizeOf89 O Z jX) ?_
  have hx4:vb.getD ((nw b)-1) 0<4294967296:=W32.getD hN.w32 ((nw b)-1)
  refine Al O (AH (i:=1) (v:=(vK .u32 (vb.getD ((nw b)-1) 0))) O O isAgg89 (BF (xs:=vb) (j:=((nw b)-1)) Z)) (Al O (Aq (c:=((vb.getD ((nw b)-1) 0:Nat):Int)) O underlying89 underlying60 (BS Z)) (Al O (Gn (c:=((top/(vb.getD ((nw b)-1) 0):Nat):Int)) O O Z (Lm (a:=top) (b:=vb.getD ((nw b)-1) 0) Z)) (Bp O (Bp O (Bp O (Al O (Bt (c:=(((nw b)-1:Nat):Int)) O O (CH (a:=nw b) (b:=1) Z Z)) (Al (v:=(pP b2 ((nw b)-1))) O (AG (j:=(nw b)-1) O O underlying220 sizeOf89 O Z jX) ?_)))))))
  have hx5:vb.getD ((nw b)-1) 0<4294967296:=W32.getD hN.w32 ((nw b)-1)
  refine Al O (AH (i:=1) (v:=(vK .u32 (vb.getD ((nw b)-1) 0))) O O isAgg89 (BF (xs:=vb) (j:=((nw b)-1)) Z)) (Al O (Aq (c:=((vb.getD ((nw b)-1) 0:Nat):Int)) O underlying89 underlying60 (BS Z)) (Al O (CE (c:=((top%(vb.getD ((nw b)-1) 0):Nat):Int)) O O Z (JH (a:=top) (b:=vb.getD ((nw b)-1) 0))) (pS' O (pS' O (zQ (zB (sL [4,5,6,7,8,9,10,12,13] O) (q1 (OkC.label (q1 ?_)))))))))
  refine yG (tg λ(d:Nat)=>d<=4294967295/\(d=W/V\/d=W/V+1)) (tg λ(d:Nat)=>[(4,(qz (jk b3) m m)),(5,jj),(6,(vN s)),(7,(qz (jk b1) (nw a+1) (nw a+1))),(8,(qz (jk b2) (nw b) (nw b+1))),(9,(vN (nw b))),(10,(vN k)),(12,(vK .u64 d))]) (tg λ(d:Nat)=>[AY b3 89 (Aj qs),AY b2 89 (Aj vb),AY b1 89 (Aj us)]) ?_ ?_
  ·refine zI ?_
   refine yE (tg λ(d:Nat) (r:Nat)=>IM V W (vb.getD (nw b-1) 0) top d r/\r<8589934592/\d<8589934593) (tg λ(d:Nat) (r:Nat)=>[(4,(qz (jk b3) m m)),(5,jj),(6,(vN s)),(7,(qz (jk b1) (nw a+1) (nw a+1))),(8,(qz (jk b2) (nw b) (nw b+1))),(9,(vN (nw b))),(10,(vN k)),(12,(vK .u64 d)),(13,(vK .u64 r))]) (tg λ(d:Nat) (r:Nat)=>[AY b3 89 (Aj qs),AY b2 89 (Aj vb),AY b1 89 (Aj us)]) (tg λ(d:Nat) (r:Nat)=>d) (top/vb.getD (nw b-1) 0) (top%vb.getD (nw b-1) 0) (⟨hG0,by have:=Nat.mod_lt top (show vb.getD (nw b-1) 0>0 by omega);omega,Nat.div_lt_of_lt_mul Z⟩) (sF O) sr (λd r hJ=>?_)
   obtain ⟨hG,hr2,hd2⟩:=hJ
   refine zX (q4 (AL O (AD (I1 (c:=(decide (r<=4294967295))) O O (YV (a:=r) (b:=4294967295))) O (oNl' (zB (sL [4,5,6,7,8,9,10,12,13,81] O) (zA ?_))))))
   refine zK O (λhc1=>?_) (λhc1=>?_)
   ·replace hc1:=xT hc1
    refine zC (zA (zI (zX (zX ?_))))
    by_cases hsp:d<=4294967295
    ·have hv2:=hN.w32.getD (nw b-2)
     have hml:=LY (a:=d) (b:=vb.getD (nw b-2) 0) Z hv2
     refine C8 (El 24) sr (Bp O (Al O (I1 (c:=true) O O (YV.trans (xI hsp))) (Bp O (zW (v:=(vK .u64 d)) O (AU O) (Cn O) O O (zW (v:=(qz (jk b2) (nw b) (nw b+1))) O (AU O) (Cn O) O O (zW (v:=(vN (nw b))) O (AU O) (Cn O) O O (zW (v:=(vN ((nw b)-2))) O (AU O) (Bt (c:=(((nw b)-2:Nat):Int)) O O (CH (a:=nw b) (b:=2) Z Z)) O O (zW (v:=(pP b2 ((nw b)-2))) O (AU O) (AG (j:=(nw b)-2) O O underlying220 sizeOf89 O Z jX) O O ?_))))))))
     have hx6:vb.getD ((nw b)-2) 0<4294967296:=W32.getD hN.w32 ((nw b)-2)
     refine zW (v:=(vK .u32 (vb.getD ((nw b)-2) 0))) O (AU O) (AH (i:=1) (v:=(vK .u32 (vb.getD ((nw b)-2) 0))) O O isAgg89 (BF (xs:=vb) (j:=((nw b)-2)) Z)) O O (zW (v:=(vK .u64 (vb.getD ((nw b)-2) 0))) O (AU O) (Aq (c:=((vb.getD ((nw b)-2) 0:Nat):Int)) O underlying89 underlying60 (BS Z)) O O (zW (v:=(vK .u64 (d*(vb.getD ((nw b)-2) 0)))) O (AU O) (Bo (c:=((d*(vb.getD ((nw b)-2) 0):Nat):Int)) O O (FK (a:=d) (b:=vb.getD ((nw b)-2) 0) Z)) O O (zW (v:=(vK .u64 r)) O (AU O) (Cn O) O O (zW (v:=(vK .u64 (r*4294967296))) O (AU O) (Gp (s:=32) O O O jY (G2 (s:=32) Z)) O O (zW (v:=(qz (jk b1) (nw a+1) (nw a+1))) O (AU O) (Cn O) O O (zW (v:=(vN k)) O (AU O) (Cn O) O O (zW (v:=(vN (nw b))) O (AU O) (Cn O) O O (zW (v:=(vN (k+(nw b)))) O (AU O) (AS (c:=((k+(nw b):Nat):Int)) O O (AV (a:=k) (b:=nw b) Z)) O O (zW (v:=(vN ((k+(nw b))-2))) O (AU O) (Bt (c:=(((k+(nw b))-2:Nat):Int)) O O (CH (a:=k+(nw b)) (b:=2) Z Z)) O O (zW (v:=(pP b1 ((k+(nw b))-2))) O (AU O) (AG (j:=(k+(nw b))-2) O O underlying220 sizeOf89 O Z jX) O O ?_))))))))))
     have hx7:us.getD ((k+(nw b))-2) 0<4294967296:=W32.getD huw ((k+(nw b))-2)
     refine zW (v:=(vK .u32 (us.getD ((k+(nw b))-2) 0))) O (AU O) (AH (i:=2) (v:=(vK .u32 (us.getD ((k+(nw b))-2) 0))) O O isAgg89 (BF (xs:=us) (j:=((k+(nw b))-2)) Z)) O O (zW (v:=(vK .u64 (us.getD ((k+(nw b))-2) 0))) O (AU O) (Aq (c:=((us.getD ((k+(nw b))-2) 0:Nat):Int)) O underlying89 underlying60 (BS Z)) O O (zW (v:=(vK .u64 (r*4294967296+us.getD (k+nw b-2) 0))) O (AU O) (Jc (c:=((r*4294967296+us.getD (k+nw b-2) 0:Nat):Int)) O O (KR Z Z (((Nat.or_comm _ _).trans ((H6 (s:=32) Z).trans (Nat.add_comm _ _)))))) O O (zW (v:=(qa (decide ((d*(vb.getD ((nw b)-2) 0))<=(r*4294967296+us.getD (k+nw b-2) 0))))) O (AU O) (I1 (c:=(decide ((d*(vb.getD ((nw b)-2) 0))<=(r*4294967296+us.getD (k+nw b-2) 0)))) O O (YV (a:=d*(vb.getD ((nw b)-2) 0)) (b:=r*4294967296+us.getD (k+nw b-2) 0))) O O (Al (v:=(qa (decide ((d*(vb.getD ((nw b)-2) 0))<=(r*4294967296+us.getD (k+nw b-2) 0))))) O (AX O O) (zQ (zB (sL [4,5,6,7,8,9,10,12,13,105] O) (zA ?_)))))))
     refine zK O (λhc2=>?_) (λhc2=>?_)
     ·replace hc2:=xT hc2
      have hg:=LT hN hWin hG (.inr ⟨hsp,hc2⟩)
      exact zU (zO (OkQ.in_exit_ne O (zl (zP (zh d (hg) (sF O) sr)))))
     ·replace hc2:=xS hc2
      obtain ⟨hng1,hng2⟩:=Lb hN hWin hG (λh=>hc2 h.2)
      refine zC (q2 (AL O (AD (Bt (c:=((d-1:Nat):Int)) O O (In (a:=d) (b:=1) Z Z)) O (asg' O (oNl' (zB (sL [4,5,6,7,8,9,10,12,13] O) (zA (zH (AL O (AL O (AL O ?_)))))))))))
      refine AD (Bt (c:=(((nw b)-1:Nat):Int)) O O (CH (a:=nw b) (b:=1) Z Z)) O (AD (v:=(pP b2 ((nw b)-1))) (AG (j:=(nw b)-1) O O underlying220 sizeOf89 O Z jX) O ?_)
      have hx8:vb.getD ((nw b)-1) 0<4294967296:=W32.getD hN.w32 ((nw b)-1)
      exact AD (AH (i:=1) (v:=(vK .u32 (vb.getD ((nw b)-1) 0))) O O isAgg89 (BF (xs:=vb) (j:=((nw b)-1)) Z)) O (AD (Aq (c:=((vb.getD ((nw b)-1) 0:Nat):Int)) O underlying89 underlying60 (BS Z)) O (AD (AS (c:=((r+(vb.getD ((nw b)-1) 0):Nat):Int)) O O (De (a:=r) (b:=vb.getD ((nw b)-1) 0) Z)) O (asg' O (oNl' (zB (sL [4,5,6,7,8,9,10,12,13] O) (zF (zn (d-1) (r+vb.getD (nw b-1) 0) (⟨hng1,Z,Z⟩) Z (sF O) sr)))))))
    ·obtain ⟨hng1,hng2⟩:=Lb hN hWin hG (λh=>hsp h.1)
     refine C8 (El 24) sr (Bp O (Al O (I1 (c:=false) O O (YV.trans (xH hsp))) (Bp O (zz O (B3 O) O O (zz O (B3 O) O O (zz O (B3 O) O O (zz O (B3 O) O O (zz O (B3 O) O O (zz O (B3 O) O O (zz O (B3 O) O O (zz O (B3 O) O O ?_)))))))))))
     refine zz O (B3 O) O O (zz O (B3 O) O O (zz O (B3 O) O O (zz O (B3 O) O O (zz O (B3 O) O O (zz O (B3 O) O O (zz O (B3 O) O O (zz O (B3 O) O O (zz O (B3 O) O O (zz O (B3 O) O O (zz O (B3 O) O O (zz O (B3 O) O O ?_)))))))))))
     refine Al (v:=(qa false)) O (AP O O) (zQ (zB (sL [4,5,6,7,8,9,10,12,13,105] O) (zA (zS O (zC (q2 (AL O (AD (Bt (c:=((d-1:Nat):Int)) O O (In (a:=d) (b:=1) Z Z)) O (asg' O (oNl' (zB (sL [4,5,6,7,8,9,10,12,13] O) ?_)))))))))))
     refine zA (zH (AL O (AL O (AL O (AD (Bt (c:=(((nw b)-1:Nat):Int)) O O (CH (a:=nw b) (b:=1) Z Z)) O (AD (v:=(pP b2 ((nw b)-1))) (AG (j:=(nw b)-1) O O underlying220 sizeOf89 O Z jX) O ?_))))))
     have hx9:vb.getD ((nw b)-1) 0<4294967296:=W32.getD hN.w32 ((nw b)-1)
     exact AD (AH (i:=1) (v:=(vK .u32 (vb.getD ((nw b)-1) 0))) O O isAgg89 (BF (xs:=vb) (j:=((nw b)-1)) Z)) O (AD (Aq (c:=((vb.getD ((nw b)-1) 0:Nat):Int)) O underlying89 underlying60 (BS Z)) O (AD (AS (c:=((r+(vb.getD ((nw b)-1) 0):Nat):Int)) O O (De (a:=r) (b:=vb.getD ((nw b)-1) 0) Z)) O (asg' O (oNl' (zB (sL [4,5,6,7,8,9,10,12,13] O) (zF (zn (d-1) (r+vb.getD (nw b-1) 0) (⟨hng1,Z,Z⟩) Z (sF O) sr)))))))
   ·replace hc1:=xS hc1
    have hg:=LT hN hWin hG (.inl Z)
    exact zU (zO (zl (zP (zh d (hg) (sF O) sr))))
  ·intro d hJ
   obtain ⟨hdb,hdq⟩:=hJ
   refine q1 (q4 (AL O (AL O (AL O (AL O (AD (AS (c:=((k+(nw b):Nat):Int)) O O (AV (a:=k) (b:=nw b) Z)) O (AD (AS (c:=(((k+(nw b))+1:Nat):Int)) O O (AV (a:=k+(nw b)) (b:=1) Z)) O (AD (v:=(qz (some ⟨b1,k,none⟩) (((k+(nw b))+1)-k) ((nw a+1)-k))) (Np (i:=k) (m:=(k+(nw b))+1) O O O underlying220 sizeOf89 Z Z Z jX) O (zL (k:=122) (u:=(qz (some ⟨b1,k,none⟩) (nw b+1) ((nw a+1)-k))) O (by rw [show k+nw b+1-k=nw b+1 by omega]) (AL O (AL O ?_)))))))))))
   refine yV (v:=(qa (decide (val us<d*val (vb.take (nw b))*4294967296^k)))) (i:=2) (cs':=Aj (Ck (nw a+1) (val us+(if val us<d*val (vb.take (nw b))*4294967296^k then 4294967296^(k+nw b+1) else 0)-d*val (vb.take (nw b))*4294967296^k))) (L':=[AY b3 89 (Aj qs),AY b2 89 (Aj vb),AY b1 89 (Aj (Ck (nw a+1) (val us+(if val us<d*val (vb.take (nw b))*4294967296^k then 4294967296^(k+nw b+1) else 0)-d*val (vb.take (nw b))*4294967296^k)))]) (AI O) (Am (args:=[(qz (some ⟨b1,k,none⟩) (nw b+1) ((nw a+1)-k)),(qz (jk b2) (nw b) (nw b+1)),(vK .u64 d)]) O O call262) O (λw hw=>YW _ _ k (nw b) (nw a+1) _ _ d us vb huw hul hN.w32 Z Z Z Z hWin.fits ((hw.apart (i:=1) (j:=2) jY O O)) w (hw.get (i:=2) O) (hw.get (i:=1) O)) (λd hd=>by cases hd<;>exact (A_ O)) O (oNl' (zB (sL [4,5,6,7,8,9,10,12,125] O) (zA ?_)))
   refine yG (tg λ(us2:List Nat)=>us2.length=nw a+1/\W32 us2/\val us2=val us-W/V*V*4294967296^k) (tg λ(us2:List Nat)=>[(4,(qz (jk b3) m m)),(5,jj),(6,(vN s)),(7,(qz (jk b1) (nw a+1) (nw a+1))),(8,(qz (jk b2) (nw b) (nw b+1))),(9,(vN (nw b))),(10,(vN k)),(12,(vK .u64 (W/V)))]) (tg λ(us2:List Nat)=>[AY b3 89 (Aj qs),AY b2 89 (Aj vb),AY b1 89 (Aj us2)]) ?_ ?_
   ·refine zK O (λhc3=>?_) (λhc3=>?_)
    ·replace hc3:=xT hc3
     have hP:4294967296^(k+nw b+1)<=4294967296^(nw a+1):=Nat.pow_le_pow_right Z Z
     rw [hN.take] at hc3
     obtain ⟨hde,hdS⟩:=QU (vb:=vb) hWin hdq hc3
     have hXP:V*4294967296^k<=4294967296^(k+nw b+1):=xM (Nat.mul_le_mul_right _ (Nat.le_of_lt hN.high)) (by rw [<-Nat.pow_add];exact Nat.pow_le_pow_right Z Z)
     have hqle:=Qo (vb:=vb) hWin
     have hfit:=hWin.fits
     have hd1:1<=d:=by rw [hde];exact Nat.le_add_left _ _
     have hU1:val (Ck (nw a+1) (val us+(if val us<d*val (vb.take (nw b))*4294967296^k then 4294967296^(k+nw b+1) else 0)-d*val (vb.take (nw b))*4294967296^k))=val us+4294967296^(k+nw b+1)-d*V*4294967296^k:=by rw [hN.take,if_pos hc3,FS _ _ Z]
     have hU1lt:val (Ck (nw a+1) (val us+(if val us<d*val (vb.take (nw b))*4294967296^k then 4294967296^(k+nw b+1) else 0)-d*val (vb.take (nw b))*4294967296^k))<4294967296^(k+nw b+1):=by rw [hU1];omega
     refine q4 (AL O (AD (Bt (c:=((d-1:Nat):Int)) O O (In (a:=d) (b:=1) Z Z)) O (asg' O (q3 (sL [4,5,6,7,8,9,10,12] O) (asg' O (oNl' (q1 (q4 (AL O (AD (v:=(vN (nw b))) (AE O underlying220) O (AL O ?_)))))))))))
     refine oNl' (zA (zI ?_))
     refine yQ (tg λ(i:Nat) (os:List Nat) (c:Nat)=>i<=nw b/\os.length=nw a+1/\W32 os/\c<=1/\(∀j,k+nw b+1<=j->os.getD j 0=0)/\val os+c*4294967296^(k+i)=(val us+4294967296^(k+nw b+1)-d*V*4294967296^k)+val (vb.take i)*4294967296^k) (tg λ(i:Nat) (os:List Nat) (c:Nat)=>[(4,(qz (jk b3) m m)),(5,jj),(6,(vN s)),(7,(qz (jk b1) (nw a+1) (nw a+1))),(8,(qz (jk b2) (nw b) (nw b+1))),(9,(vN (nw b))),(10,(vN k)),(12,(vK .u64 (d-1))),(128,(qz (jk b2) (nw b) (nw b+1))),(129,(vN (nw b))),(130,(vN i)),(14,(vK .u32 c))]) (tg λ(i:Nat) (os:List Nat) (c:Nat)=>[AY b3 89 (Aj qs),AY b2 89 (Aj vb),AY b1 89 (Aj os)]) (tg λ(i:Nat) (os:List Nat) (c:Nat)=>nw b-i) 0 (Ck (nw a+1) (val us+(if val us<d*val (vb.take (nw b))*4294967296^k then 4294967296^(k+nw b+1) else 0)-d*val (vb.take (nw b))*4294967296^k)) 0 (⟨xJ _,Bg _ _,D9 _ _,Z,Jp hU1lt,by rw [hU1];simp [val]⟩) (sF O) sr (λi os c hJ=>?_)
     obtain ⟨hi,hl,hw32,hcc,hz,hv⟩:=hJ
     refine q4 (AD (Ab (c:=(decide (i<(nw b)))) O O (DA (a:=i) (b:=nw b))) O (oNl' (q1 ?_)))
     refine zK O (λhc4=>?_) (λhc4=>?_)
     ·replace hc4:=xT hc4
      refine zC (q1 (zI (q4 (AL O (AD (v:=(pP b2 i)) (AG (j:=i) O O underlying220 sizeOf89 O Z jX) O ?_)))))
      have hx10:vb.getD i 0<4294967296:=W32.getD hN.w32 i
      refine AD (AH (i:=1) (v:=(vK .u32 (vb.getD i 0))) O O isAgg89 (BF (xs:=vb) (j:=i) Z)) O (asg' O (asg' O (oNl' (zB (sL [4,5,6,7,8,9,10,12,128,129,130,14,15,16] O) (zA (zH (AL O (AL O (AL O (AD (AS (c:=((k+i:Nat):Int)) O O (AV (a:=k) (b:=i) Z)) O (AL O ?_)))))))))))
      refine AL O (AL O (AD (AS (c:=((k+i:Nat):Int)) O O (AV (a:=k) (b:=i) Z)) O (AD (v:=(pP b1 (k+i))) (AG (j:=k+i) O O underlying220 sizeOf89 O Z jX) O ?_)))
      have hx11:os.getD (k+i) 0<4294967296:=W32.getD hw32 (k+i)
      refine AD (AH (i:=2) (v:=(vK .u32 (os.getD (k+i) 0))) O O isAgg89 (BF (xs:=os) (j:=(k+i)) Z)) O (AL O (AL O (ck' call207 (Ki (os.getD (k+i) 0) (vb.getD i 0) c Z Z Z) O (AL O (AD (AJ (v:=(vK .u32 (((os.getD (k+i) 0)+(vb.getD i 0)+c)%4294967296))) O O) O (AD (AJ (v:=(vK .u32 (((os.getD (k+i) 0)+(vb.getD i 0)+c)/4294967296))) O O) O (AD (v:=(pP b1 (k+i))) (AG (j:=k+i) O O underlying220 sizeOf89 O Z jX) O (zo (i:=2) (off:=(k+i)) (vs:=[(vK .u32 (((os.getD (k+i) 0)+(vb.getD i 0)+c)%4294967296))]) (cs':=Aj (os.set (k+i) (((os.getD (k+i) 0)+(vb.getD i 0)+c)%4294967296))) (L':=[AY b3 89 (Aj qs),AY b2 89 (Aj vb),AY b1 89 (Aj (os.set (k+i) (((os.getD (k+i) 0)+(vb.getD i 0)+c)%4294967296)))]) (AI O) O O O O O sizeOf89 O (Cm (BO _) Z) (CI Z) O (asg' O (oNl' (zB (sL [4,5,6,7,8,9,10,12,128,129,130,14] O) ?_)))))))))))
      exact zF (zA (zH (AD (AS (c:=((i+1:Nat):Int)) O O (AV (a:=i) (b:=1) Z)) O (AL O (oNl' (zB (sL [4,5,6,7,8,9,10,12,128,129,130,14] O) (yM (i+1) (os.set (k+i) ((os.getD (k+i) 0+vb.getD i 0+c)%4294967296)) ((os.getD (k+i) 0+vb.getD i 0+c)/4294967296) (⟨Z,by rw [List.length_set];exact hl,W32.set hw32 Z _,Z,F6 hz Z,SK hl Z hv⟩) Z (sF O) sr)))))))
     ·replace hc4:=xS hc4
      have hib:i=nw b:=by omega
      have hv3:=hv
      rw [hib,hN.take] at hv3
      have hbk:=SJ (T:=val us-W/V*V*4294967296^k) (P:=4294967296^(k+nw b+1)) hl Z hw32 hcc hz rfl (hv3.trans (P1 hdS hqle hfit hc3 hXP)) (Nat.lt_of_le_of_lt (Nat.sub_le _ _) hfit)
      refine zU (zO (yB (zP (zA (zH (AL O (AL O (AL O (AD (AS (c:=((k+(nw b):Nat):Int)) O O (AV (a:=k) (b:=nw b) Z)) O (AD (v:=(pP b1 (k+(nw b)))) (AG (j:=k+(nw b)) O O underlying220 sizeOf89 O Z jX) O ?_))))))))))
      have hx12:os.getD (k+(nw b)) 0<4294967296:=W32.getD hw32 (k+(nw b))
      exact AD (AH (i:=2) (v:=(vK .u32 (os.getD (k+(nw b)) 0))) O O isAgg89 (BF (xs:=os) (j:=(k+(nw b))) Z)) O (AL O (AD (AS (c:=(((os.getD (k+nw b) 0+c)%4294967296:Nat):Int)) O O UK) O (AD (v:=(pP b1 (k+(nw b)))) (AG (j:=k+(nw b)) O O underlying220 sizeOf89 O Z jX) O (zo (i:=2) (off:=(k+(nw b))) (vs:=[(vK .u32 ((os.getD (k+nw b) 0+c)%4294967296))]) (cs':=Aj (os.set (k+(nw b)) ((os.getD (k+nw b) 0+c)%4294967296))) (L':=[AY b3 89 (Aj qs),AY b2 89 (Aj vb),AY b1 89 (Aj (os.set (k+(nw b)) ((os.getD (k+nw b) 0+c)%4294967296)))]) (AI O) O O O O O sizeOf89 O (Cm (BO _) Z) (CI Z) O (oNl' (zB (sL [4,5,6,7,8,9,10,12,128,129,130,14] O) (yT (k:=12) (u:=Value.int .u64 ((W/V:Nat):Int)) O (by rw [hde,Nat.add_sub_cancel]) (zh (os.set (k+(nw b)) ((os.getD (k+nw b) 0+c)%4294967296)) (⟨by rw [List.length_set];exact hl,W32.set hw32 Z _,hbk⟩) (sF O) sr))))))))
    ·replace hc3:=xS hc3
     have hP:4294967296^(k+nw b+1)<=4294967296^(nw a+1):=Nat.pow_le_pow_right Z Z
     rw [hN.take] at hc3
     obtain ⟨hde,hdS⟩:=QT hN hWin hdq hc3
     have hfit:=hWin.fits
     have hU1:val (Ck (nw a+1) (val us+(if val us<d*val (vb.take (nw b))*4294967296^k then 4294967296^(k+nw b+1) else 0)-d*val (vb.take (nw b))*4294967296^k))=val us-W/V*V*4294967296^k:=by rw [hN.take,if_neg hc3,FS _ _ Z];exact hdS
     exact zC (yT (k:=12) (u:=Value.int .u64 ((W/V:Nat):Int)) O (by rw [hde]) (zh (Ck (nw a+1) (val us+(if val us<d*val (vb.take (nw b))*4294967296^k then 4294967296^(k+nw b+1) else 0)-d*val (vb.take (nw b))*4294967296^k)) (⟨Bg _ _,D9 _ _,hU1⟩) (sF O) sr))
   ·intro us2 hJ
    obtain ⟨hu2l,hu2w,hu2v⟩:=hJ
    refine zA (zH (AL O (AL O (AL O (AD (Aq (c:=((W/V:Nat):Int)) O underlying60 underlying89 (CW (by exact hq32))) O (AD (v:=(pP b3 k)) (AG (j:=k) O O underlying220 sizeOf89 O Z jX) O (zo (i:=0) (off:=k) (vs:=[(vK .u32 (W/V))]) (cs':=Aj (qs.set k (W/V))) (L':=[AY b3 89 (Aj (qs.set k (W/V))),AY b2 89 (Aj vb),AY b1 89 (Aj us2)]) (AI O) O O O O O sizeOf89 O (Cm (BO _) Z) (CI Z) O (oNl' (zB (sL [4,5,6,7,8,9,10,12] O) (OkQ.scope_normal (zF ?_)))))))))))
    refine zA (zH (AL O (AD (Bt (c:=(((k:Nat):Int)-1)) O O (BJ Z Z)) O (asg' O (oNl' (zB (sL [4,5,6,7,8,9,10,12] O) ?_))))))
    have hdd:=P9 hN hWin hu2v hAeq hql Z (hqz k Z)
    exact yM k us2 (qs.set k (W/V)) (⟨Z,hu2l,hu2w,by rw [List.length_set];exact hql,W32.set hqw hq32 _,λj hj=>by rw [Jm Z];exact hqz j Z,hdd.1,hdd.2⟩) Z (sF O) sr
 ·replace hc0:=xS hc0
  have hk00:k0=0:=by omega
  have hlt0:=hlt
  rw [hk00,Nat.pow_zero,Nat.mul_one] at hlt0
  have hfin:=Sq (a:=a) (b:=b) (s:=s) (q:=val qs) (r:=val us) hb0 (by rw [<-hV];exact hAeq) (by rw [<-hV];exact hlt0)
  refine zU (zO (yB (zP (q1 (q4 (AL O (AL O (oNl' (zA (zI ?_))))))))))
  refine yE (tg λ(i:Nat) (us3:List Nat)=>i<=s/\us3.length=nw a+1/\W32 us3/\val us3=a%b*2^s/2^i) (tg λ(i:Nat) (us3:List Nat)=>[(4,(qz (jk b3) m m)),(5,jj),(7,(qz (jk b1) (nw a+1) (nw a+1))),(167,(vN s)),(168,(vN i))]) (tg λ(i:Nat) (us3:List Nat)=>[AY b3 89 (Aj qs),AY b2 89 (Aj vb),AY b1 89 (Aj us3)]) (tg λ(i:Nat) (us3:List Nat)=>s-i) 0 us (⟨xJ _,hul,huw,by rw [hfin.2];simp⟩) (sF O) sr (λi us3 hJ=>?_)
  obtain ⟨hi,hl3,hw3,hv3⟩:=hJ
  refine q4 (AD (Ab (c:=(decide (i<s))) O O (DA (a:=i) (b:=s))) O (oNl' (q1 ?_)))
  refine zK O (λhc5=>?_) (λhc5=>?_)
  ·replace hc5:=xT hc5
   refine zC (q1 (zI (zH (AL O (yV (v:=(Value.tuple #[])) (i:=2) (cs':=Aj (Ck (nw a+1) (val us3/2))) (L':=[AY b3 89 (Aj qs),AY b2 89 (Aj vb),AY b1 89 (Aj (Ck (nw a+1) (val us3/2)))]) (AI O) (Am (args:=[(qz (jk b1) (nw a+1) (nw a+1))]) O O call263) O (λw hw=>YC _ (nw a+1) _ us3 hw3 hl3 Z w (hw.get (i:=2) O)) (λd hd=>by cases hd<;>exact (A_ O)) O (oNl' (zB (sL [4,5,7,167,168] O) (zF (zA (zH (AD (AS (c:=((i+1:Nat):Int)) O O (AV (a:=i) (b:=1) Z)) O ?_)))))))))))
   refine AL O (oNl' (zB (sL [4,5,7,167,168] O) ?_))
   have hb3:val us3/2<4294967296^(nw a+1):=Nat.lt_of_le_of_lt (Nat.div_le_self _ _) (by have:=HD hw3;rw [hl3] at this;exact this)
   exact zn (i+1) (Ck (nw a+1) (val us3/2)) (⟨Z,Bg _ _,D9 _ _,by rw [FS _ _ hb3,hv3,Nat.div_div_eq_div_mul,<-Nat.pow_succ]⟩) Z (sF O) sr
  ·replace hc5:=xS hc5
   have his:i=s:=by omega
   have hr:val us3=a%b:=by rw [hv3,his,Nat.mul_div_cancel _ (Nat.pow_pos Z)]
   have hr1:=H9 hw3 hl3 hr
   have hq1:=H9 hqw hql hfin.1
   refine zU (zO (zl (zP (q2 (AL O (AL O (asg' O (asg' O (oNl' (zB (sL [4,5,7,167,168] O) (zA ?_)))))))))))
   exact zG (Bs O (rd_tmp (v:=(qz (jk b3) m m)) O) (rd_tmp (v:=(qz (jk b1) (nw a+1) (nw a+1))) O) (λw hw=>⟨b3,b1,by rw [hm],hw.out,hw.fresh (i:=0) O,hw.fresh (i:=2) O,(hw.apart (i:=0) (j:=2) jY O O),by rw [<-hm,<-hq1];exact hw.get (i:=0) O,by rw [<-hr1];exact hw.get (i:=2) O⟩))
end
end Go.Proofs.YtbfdamnfcmefmaaGreatDoor
