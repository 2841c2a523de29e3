import Derived.Test.YtpolhpjiahbidaaGreatDoorPart06
namespace Go.Proofs.YtpolhpjiahbidaaGreatDoor
open Go Go.RowKit Go.Proofs.Tryz
open Go.Value renaming slice→qw,bool→qa
set_option linter.unusedVariables false
set_option linter.unusedSimpArgs false
theorem Ih {b:Nat} (h:0<nw b):4294967296^(nw b-1)<=b:=by
  rcases Nat.lt_or_ge b (4294967296^(nw b-1)) with h1|h1
  · have:=DB.2 h1;omega
  · exact h1
theorem Pm {b:Nat} (h:0<nw b):(AP b).getD (nw b-1) 0=b/4294967296^(nw b-1)/\0<(AP b).getD (nw b-1) 0/\(AP b).getD (nw b-1) 0<4294967296:=by
  have h1:=Ih h
  have h2:=Bz b
  have h3:b/4294967296^(nw b-1)<4294967296:=by
    rw [Nat.div_lt_iff_lt_mul (Nat.pow_pos Z)]
    have:4294967296^nw b=4294967296*4294967296^(nw b-1):=by rw [<-Nat.pow_succ',show (nw b-1).succ=nw b by omega]
    omega
  have h4:0<b/4294967296^(nw b-1):=Nat.div_pos h1 (Nat.pow_pos Z)
  have h5:(AP b).getD (nw b-1) 0=b/4294967296^(nw b-1):=by rw [IC,Nat.mod_eq_of_lt h3]
  exact ⟨h5,by rw [h5];exact h4,by rw [h5];exact h3⟩
theorem Zu {b s:Nat} (h:0<nw b) (hs:s=32-bl ((AP b).getD (nw b-1) 0)):s<32/\2147483648*4294967296^(nw b-1)<=b*2^s/\b*2^s<4294967296^nw b:=by
  obtain ⟨h1,h2,h3⟩:=Pm h
  obtain ⟨k1,k2,k3,k4⟩:=TR h2 h3
  rw [<-hs] at k3 k4
  have hs32:s<32:=by omega
  have hp:0<4294967296^(nw b-1):=Nat.pow_pos Z
  have e:4294967296^nw b=4294967296*4294967296^(nw b-1):=by rw [<-Nat.pow_succ',show (nw b-1).succ=nw b by omega]
  rw [e]
  rw [h1] at k3 k4
  have m:=Nat.div_add_mod b (4294967296^(nw b-1))
  have ml:=Nat.mod_lt b hp
  generalize b/4294967296^(nw b-1)=y at *
  generalize b%4294967296^(nw b-1)=r at *
  generalize 4294967296^(nw b-1)=p at *
  have h32:(4294967296:Nat)=2^(32-s)*2^s:=by rw [<-Nat.pow_add,show 32-s+s=32 by omega]
  have k5:(y+1)*2^s<=4294967296:=by
    rw [h32] at k4 ⊢
    exact Nat.mul_le_mul_right _ (Nat.lt_of_mul_lt_mul_right k4)
  refine ⟨hs32,?_,?_⟩
  · have:2147483648*p<=y*2^s*p:=Nat.mul_le_mul_right _ k3
    have e2:b*2^s=y*2^s*p+r*2^s:=by rw [<-m];grind
    omega
  · have:(y+1)*2^s*p<=4294967296*p:=Nat.mul_le_mul_right _ k5
    have e2:b<(y+1)*p:=by rw [Nat.add_mul,Nat.one_mul,Nat.mul_comm y];omega
    have e3:b*2^s<(y+1)*p*2^s:=Nat.mul_lt_mul_of_pos_right e2 (Nat.pow_pos Z)
    have e4:(y+1)*p*2^s=(y+1)*2^s*p:=by rw [Nat.mul_right_comm]
    omega
theorem TW {xs:List Nat} {j:Nat} (h:W32 xs):xs.getD (j+1) 0*4294967296+xs.getD j 0=val xs/4294967296^j%18446744073709551616:=by
  rw [G1 xs _ h,G1 xs _ h,Nat.pow_succ,<-Nat.div_div_eq_div_mul]
  omega
theorem R5 {xs:List Nat} {j:Nat} (h:W32 xs) (hv:val xs<4294967296^(j+2)):xs.getD (j+1) 0*4294967296+xs.getD j 0=val xs/4294967296^j:=by
  rw [TW h,Nat.mod_eq_of_lt]
  rw [Nat.div_lt_iff_lt_mul (Nat.pow_pos Z)]
  rw [Nat.pow_succ,Nat.pow_succ] at hv
  omega
structure Qg (vb:List Nat) (n V:Nat):Prop where
  w32:W32 vb
  len:vb.length=n+1
  two:2<=n
  val_:val vb=V
  low:2147483648*4294967296^(n-1)<=V
  high:V<4294967296^n
theorem Qg.take {vb:List Nat} {n V:Nat} (h:Qg vb n V):val (vb.take n)=V:=by rw [Kx (by rw [h.val_];exact h.high),h.val_]
theorem Qg.top {vb:List Nat} {n V:Nat} (h:Qg vb n V):vb.getD (n-1) 0*4294967296+vb.getD (n-2) 0=V/4294967296^(n-2)/\2147483648<=vb.getD (n-1) 0/\vb.getD (n-1) 0<4294967296:=by
  have h2:=h.two
  have e:=R5 (j:=n-2) h.w32 (by rw [show n-2+2=n by omega,h.val_];exact h.high)
  rw [show n-2+1=n-1 by omega,h.val_] at e
  refine ⟨e,?_,h.w32.getD _⟩
  rw [G1 _ _ h.w32,h.val_,Nat.mod_eq_of_lt]
  · rw [Nat.le_div_iff_mul_le (Nat.pow_pos Z)];exact h.low
  · rw [Nat.div_lt_iff_lt_mul (Nat.pow_pos Z)]
    have:4294967296^n=4294967296*4294967296^(n-1):=by rw [<-Nat.pow_succ',show (n-1).succ=n by omega]
    have:=h.high
    omega
theorem Qg.parts {vb:List Nat} {n V:Nat} (h:Qg vb n V):V=(vb.getD (n-1) 0*4294967296+vb.getD (n-2) 0)*4294967296^(n-2)+V%4294967296^(n-2)/\V%4294967296^(n-2)<4294967296^(n-2):=by
  rw [h.top.1]
  refine ⟨?_,Nat.mod_lt _ (Nat.pow_pos Z)⟩
  have:=Nat.div_add_mod V (4294967296^(n-2))
  rw [Nat.mul_comm];omega
structure XR (us:List Nat) (V k n W top u2:Nat):Prop where
  w:W=val us/4294967296^k
  lt:W<V*4294967296
  low:(top*4294967296+u2)*4294967296^(n-2)<=W
  high:W<(top*4294967296+u2+1)*4294967296^(n-2)
  topb:top<18446744073709551616
  fits:val us<4294967296^(k+n+1)
theorem a_ {us vb:List Nat} {V k n:Nat} (hn:Qg vb n V) (hu:W32 us) (hR:val us<V*4294967296^(k+1)) :
    XR us V k n (val us/4294967296^k) (us.getD (k+n) 0*4294967296+us.getD (k+n-1) 0) (us.getD (k+n-2) 0):=by
  have h2:=hn.two
  have hp:0<4294967296^k:=Nat.pow_pos Z
  have hfit:val us<4294967296^(k+n+1):=by
    have h1:V*4294967296^(k+1)<4294967296^n*4294967296^(k+1):=Nat.mul_lt_mul_of_pos_right hn.high (Nat.pow_pos Z)
    rw [<-Nat.pow_add,show n+(k+1)=k+n+1 by omega] at h1
    omega
  have e1:=R5 (xs:=us) (j:=k+n-1) hu (by rw [show k+n-1+2=k+n+1 by omega];exact hfit)
  rw [show k+n-1+1=k+n by omega] at e1
  have e3:us.getD (k+n-2) 0=val us/4294967296^(k+n-2)%4294967296:=G1 _ _ hu
  have e4:val us/4294967296^(k+n-1)=val us/4294967296^(k+n-2)/4294967296:=by
    rw [Nat.div_div_eq_div_mul,<-Nat.pow_succ,show (k+n-2).succ=k+n-1 by omega]
  have e5:(us.getD (k+n) 0*4294967296+us.getD (k+n-1) 0)*4294967296+us.getD (k+n-2) 0=val us/4294967296^k/4294967296^(n-2):=by
    have e6:val us/4294967296^k/4294967296^(n-2)=val us/4294967296^(k+n-2):=by rw [Nat.div_div_eq_div_mul,<-Nat.pow_add,show k+(n-2)=k+n-2 by omega]
    rw [e1,e3,e4,e6]
    exact Nat.div_add_mod' _ _
  have w1:=hu.getD (k+n)
  have w2:=hu.getD (k+n-1)
  refine ⟨rfl,?_,?_,?_,Z,hfit⟩
  · rw [Nat.div_lt_iff_lt_mul hp]
    rw [Nat.pow_succ] at hR
    have:V*(4294967296^k*4294967296)=V*4294967296*4294967296^k:=by grind
    omega
  · rw [e5];exact Nat.div_mul_le_self _ _
  · rw [e5,Nat.mul_comm];exact Nat.lt_mul_div_succ _ (Nat.pow_pos Z)
theorem XR.quo_lt {us:List Nat} {V k n W top u2:Nat} (h:XR us V k n W top u2) (hV:0<V):W/V<4294967296:=by
  rw [Nat.div_lt_iff_lt_mul hV,Nat.mul_comm];exact h.lt
theorem Qg.pos {vb:List Nat} {n V:Nat} (h:Qg vb n V):0<V:=by
  have:=h.low
  have:=Nat.pow_pos (n:=n-1) (show 0<4294967296 by omega)
  omega
theorem PH {us vb:List Nat} {V k n W top u2:Nat} (hn:Qg vb n V) (h:XR us V k n W top u2) (hu2:u2<4294967296):Il V W (vb.getD (n-1) 0) top (top/vb.getD (n-1) 0) (top%vb.getD (n-1) 0):=by
  have hp:0<4294967296^(n-2):=Nat.pow_pos Z
  refine Ri (p:=4294967296^(n-2)) (v2:=vb.getD (n-2) 0) (u2:=u2) hp hn.parts.1 (hn.w32.getD _) hn.parts.2 ?_ (by have:=hn.top;omega)
  have h1:=h.high
  have h2:(top*4294967296+u2+1)*4294967296^(n-2)<=((top+1)*4294967296)*4294967296^(n-2):=Nat.mul_le_mul_right _ Z
  rw [<-Nat.mul_assoc]
  omega
theorem Lh {us vb:List Nat} {V k n W top u2 d r:Nat} (hn:Qg vb n V) (h:XR us V k n W top u2) (hg:Il V W (vb.getD (n-1) 0) top d r) (ht:¬(d<=4294967295/\d*vb.getD (n-2) 0<=r*4294967296+u2)) :
    Il V W (vb.getD (n-1) 0) top (d-1) (r+vb.getD (n-1) 0)/\0<d :=
  Rg hg (Nat.pow_pos Z) hn.parts.1 (by have:=hn.top;omega) h.high (h.quo_lt hn.pos) ht
theorem Kq {us vb:List Nat} {V k n W top u2 d r:Nat} (hn:Qg vb n V) (h:XR us V k n W top u2) (hg:Il V W (vb.getD (n-1) 0) top d r) (he:4294967295<r\/(d<=4294967295/\d*vb.getD (n-2) 0<=r*4294967296+u2)) :
    d<=4294967295/\(d=W/V\/d=W/V+1) :=
  Qo hg (Nat.pow_pos Z) hn.parts.1 hn.parts.2 (by have:=hn.top;omega) (hn.w32.getD _) h.low h.lt (hn.w32.getD _) he
theorem Q5 {us vb:List Nat} {V k n W top u2 d:Nat} (hn:Qg vb n V) (h:XR us V k n W top u2) (hd:d=W/V\/d=W/V+1) (hl:¬val us<d*V*4294967296^k):d=W/V/\val us+0-d*V*4294967296^k=val us-W/V*V*4294967296^k:=by
  have e:d=W/V:=by
    rcases hd with hd|hd
    · exact hd
    · exfalso
      refine hl ?_
      have h1:W<d*V:=by rw [hd];exact (Nat.div_lt_iff_lt_mul hn.pos).1 (Nat.lt_succ_self _)
      have h2:val us<(W+1)*4294967296^k:=by
        rw [h.w,Nat.mul_comm];exact Nat.lt_mul_div_succ _ (Nat.pow_pos Z)
      have h3:(W+1)*4294967296^k<=d*V*4294967296^k:=Nat.mul_le_mul_right _ h1
      omega
  exact ⟨e,by rw [e];rfl⟩
theorem Qe {us vb:List Nat} {V k n W top u2:Nat} (h:XR us V k n W top u2):W/V*V*4294967296^k<=val us:=by
  have h1:W/V*V*4294967296^k<=W*4294967296^k:=Nat.mul_le_mul_right _ (Nat.div_mul_le_self _ _)
  have h2:W*4294967296^k<=val us:=by rw [h.w];exact Nat.div_mul_le_self _ _
  omega
theorem RE {us vb:List Nat} {V k n W top u2 d:Nat} (h:XR us V k n W top u2) (hd:d=W/V\/d=W/V+1) (hl:val us<d*V*4294967296^k):d=W/V+1/\d*V*4294967296^k=W/V*V*4294967296^k+V*4294967296^k:=by
  have hq:=Qe (vb:=vb) h
  have e:d=W/V+1:=by
    rcases hd with hd|hd
    · subst hd;omega
    · exact hd
  exact ⟨e,by rw [e,Nat.add_mul,Nat.add_mul,Nat.one_mul]⟩
theorem S7 {os vb:List Nat} {U i k n c:Nat} (hl:os.length=n) (hi:k+i<n) (hv:val os+c*4294967296^(k+i)=U+val (vb.take i)*4294967296^k) :
    val (os.set (k+i) ((os.getD (k+i) 0+vb.getD i 0+c)%4294967296))+(os.getD (k+i) 0+vb.getD i 0+c)/4294967296*4294967296^(k+(i+1))=U+val (vb.take (i+1))*4294967296^k:=by
  have e:=Fw (xs:=os) (i:=k+i) Z ((os.getD (k+i) 0+vb.getD i 0+c)%4294967296)
  have t:=Bf vb i
  have hm:=Nat.div_add_mod (os.getD (k+i) 0+vb.getD i 0+c) 4294967296
  rw [t,show k+(i+1)=k+i+1 by omega,Nat.pow_succ]
  rw [Nat.pow_add] at *
  generalize os.getD (k+i) 0=o at *
  generalize vb.getD i 0=y at *
  generalize (o+y+c)/4294967296=q at *
  generalize (o+y+c)%4294967296=r at *
  generalize 4294967296^i=p at *
  generalize 4294967296^k=p' at *
  generalize val (vb.take i)=v at *
  have hm2:(4294967296*q+r)*(p'*p)=(o+y+c)*(p'*p):=by rw [hm]
  grind
theorem Tm {os:List Nat} {T P p N c:Nat} (hl:os.length=N) (hp:p<N) (hw:W32 os) (hc:c<=1) (hz:∀j,p+1<=j->os.getD j 0=0) (hP:P=4294967296^(p+1)) (hv:val os+c*4294967296^p=T+P) (hT:T<P) :
    val (os.set p ((os.getD p 0+c)%4294967296))=T:=by
  have e:=Fw (xs:=os) (i:=p) Z ((os.getD p 0+c)%4294967296)
  have hw2:W32 (os.set p ((os.getD p 0+c)%4294967296)):=hw.set Z _
  have ho:=hw.getD p
  have hlt:∀xs:List Nat,W32 xs->xs.length=N->(∀j,p+1<=j->xs.getD j 0=0)->val xs<P:=λxs hx hxl hxz=>by
    have h1:=FN xs (p+1) Z
    have h2:val (xs.drop (p+1))=0:=by
      have:xs.drop (p+1)=List.replicate (N-(p+1)) 0:=by
        apply List.ext_getElem (by simp [hxl])
        intro j h1 h2
        have:=hxz (p+1+j) Z
        simp [List.getD_eq_getElem?_getD] at this h1
        simp
        have h3:p+1+j<xs.length:=by omega
        simpa [h3] using this
      rw [this,Ep]
    rw [h2] at h1
    have h3:=G7 (hx.take (p+1))
    rw [List.length_take,Nat.min_eq_left Z] at h3
    omega
  have b2:=hlt _ hw2 (by rw [List.length_set];exact hl) (F9 hz Z)
  rw [hP,Nat.pow_succ] at *
  generalize val (os.set p ((os.getD p 0+c)%4294967296))=v' at *
  generalize os.getD p 0=o at *
  generalize 4294967296^p=z at *
  by_cases h:o+c<4294967296
  · rw [Nat.mod_eq_of_lt h,Nat.add_mul] at e
    omega
  · have h1:o+c=4294967296:=by omega
    rw [h1,Nat.mod_self] at e
    have h2:o*z+c*z=4294967296*z:=by rw [<-Nat.add_mul,h1]
    omega
theorem RV {us us2 vb qs:List Nat} {V k n W top u2 A m:Nat} (hn:Qg vb n V) (h:XR us V k n W top u2) (hv2:val us2=val us-W/V*V*4294967296^k) (hA:A=val qs*V+val us) (hl:qs.length=m) (hk:k<m) (h0:qs.getD k 0=0) :
    val us2<V*4294967296^k/\A=val (qs.set k (W/V))*V+val us2:=by
  have hq:=Qe (vb:=vb) h
  have hm:=Nat.div_add_mod W V
  have hml:=Nat.mod_lt W hn.pos
  have hp:0<4294967296^k:=Nat.pow_pos Z
  have hk1:=Nat.div_add_mod (val us) (4294967296^k)
  have hk2:=Nat.mod_lt (val us) hp
  rw [<-h.w] at hk1
  constructor
  · have h1:(W%V+1)*4294967296^k<=V*4294967296^k:=Nat.mul_le_mul_right _ hml
    have h2:W*4294967296^k=W/V*V*4294967296^k+W%V*4294967296^k:=by
      rw [<-Nat.add_mul,Nat.mul_comm (W/V)]
      rw [hm]
    rw [Nat.add_mul,Nat.one_mul] at h1
    rw [Nat.mul_comm] at hk1
    omega
  · rw [Is hl hk h0,Nat.add_mul,hA,hv2]
    have:W/V*4294967296^k*V=W/V*V*4294967296^k:=by rw [Nat.mul_right_comm]
    omega
theorem Tr {a b s q r:Nat} (hb:0<b) (h:a*2^s=q*(b*2^s)+r) (hr:r<b*2^s):q=a/b/\r=a%b*2^s:=by
  have hp:0<2^s:=Nat.pow_pos Z
  have h1:a*2^s/(b*2^s)=q/\a*2^s%(b*2^s)=r:=by
    have e:a*2^s=r+b*2^s*q:=by rw [h,Nat.mul_comm q];omega
    rw [e]
    constructor
    · rw [Nat.add_mul_div_left _ _ Z,Nat.div_eq_of_lt hr];omega
    · rw [Nat.add_mul_mod_self_left,Nat.mod_eq_of_lt hr]
  rw [Nat.mul_div_mul_right _ _ hp,Nat.mul_mod_mul_right] at h1
  exact ⟨h1.1.symm,h1.2.symm⟩
theorem RF {a b s n m:Nat} (hn:n=nw b) (hb:0<nw b) (hs:s<32) (hV:2147483648*4294967296^(nw b-1)<=b*2^s) (hm:m=nw a+1-nw b) (hba:nw b<=nw a):a*2^s<b*2^s*4294967296^m:=by
  have h1:=Bz a
  have h2:(2:Nat)^s<=2^31:=Nat.pow_le_pow_right Z Z
  have h3:a*2^s<=a*2147483648:=Nat.mul_le_mul_left _ h2
  have h4:a*2147483648<4294967296^nw a*2147483648:=Nat.mul_lt_mul_of_pos_right h1 Z
  have h5:2147483648*4294967296^(nw b-1)*4294967296^m<=b*2^s*4294967296^m:=Nat.mul_le_mul_right _ hV
  have h6:2147483648*4294967296^(nw b-1)*4294967296^m=4294967296^nw a*2147483648:=by
    rw [Nat.mul_assoc,<-Nat.pow_add,show nw b-1+m=nw a by omega,Nat.mul_comm]
  omega
theorem Own.apart {w0:BC} {w:World} {L:List As} (h:Own w0 w L) {i j b b':Nat} {T T':TypeId} {cs cs':List Value} (hij:i<j) (hi:L[i]?=some (AR b T cs)) (hj:L[j]?=some (AR b' T' cs')):b≠b':=by
  have hp:=h.2.2
  obtain ⟨h1,e1⟩:=List.getElem?_eq_some_iff.1 hi
  obtain ⟨h2,e2⟩:=List.getElem?_eq_some_iff.1 hj
  have:=(List.pairwise_iff_getElem.1 hp i j h1 h2 hij).resolve_left (λk=>by have:=k.1;rw [e1] at this;cases this) b (by rw [e1])
  rw [e2] at this
  exact λe=>this (by rw [e])
section
set_option maxRecDepth 100000
theorem RA {R P D Q X:Nat} (h1:D=Q+X) (h2:Q<=R) (h3:R<P) (h4:R<D) (h5:X<=P):R+P-D+X=R-Q+P:=by omega
theorem XX (a b p q c1 c2:Nat) (ha:nw a<=1099511627776) (hb2:2<=nw b) (hba:nw b<=nw a) (w:World) (hp:w.heap[p]?=some (.cells (Ao (A8 a)).toArray 92 (0,0))) (hq:w.heap[q]?=some (.cells (Ao (A8 b)).toArray 92 (0,0))):Calls prog 243 #[(qw (jk p) (nw a) c1),(qw (jk q) (nw b) c2)] w (λe w'=>∃b1 b2,e=.returned (.tuple #[.slice (jk b1) (nw a+1-nw b) (nw a+1-nw b),.slice (jk b2) (nw a+1) (nw a+1)])/\Gx w.heap.size w w'/\w.heap.size<=b1/\w.heap.size<=b2/\b1≠b2/\w'.heap[b1]?=some (.cells (Ao (C6 (nw a+1-nw b) (a/b))).toArray 92 (0,0))/\w'.heap[b2]?=some (.cells (Ao (C6 (nw a+1) (a%b))).toArray 92 (0,0))):=by
 have hla:=Ci a
 have hlb:=Ci b
 have hb0:0<b:=Nat.pos_of_ne_zero (λh=>by rw [h,OK] at hb2;omega)
 obtain ⟨s,hs⟩:∃s,s=32-bl ((AP b).getD (nw b-1) 0):=⟨_,rfl⟩
 obtain ⟨hs32,hlow,hhigh⟩:=Zu Z hs
 obtain ⟨m,hm⟩:∃m,m=nw a+1-nw b:=⟨_,rfl⟩
 obtain ⟨V,hV⟩:∃V,V=b*2^s:=⟨_,rfl⟩
 obtain ⟨vb,hvb⟩:∃vb,vb=C6 (nw b+1) (b*2^s):=⟨_,rfl⟩
 have hbig:b*2^s<4294967296^(nw b+1):=Nat.lt_of_lt_of_le hhigh (Nat.pow_le_pow_right Z Z)
 have hN:Qg vb (nw b) V:=⟨by rw [hvb];exact Ef _ _,by rw [hvb];exact Bk _ _,hb2,by rw [hvb,hV];exact Ff _ _ hbig,by rw [hV];exact hlow,by rw [hV];exact hhigh⟩
 have hst:=RF rfl Z hs32 hlow hm hba
 have hA:val (C6 (nw a+1) (a*2^s))=a*2^s:=Ff _ _ (by rw [Nat.pow_succ];exact Nat.mul_lt_mul_of_lt_of_le (Bz a) (xK (Nat.pow_le_pow_right Z (show s<=32 by omega)) jY) Z)
 have hvlen:=hN.len
 have htop:=hN.top
 have htw:=(Pm (b:=b) Z).2.2
 refine Ab (args:=[(qw (jk p) (nw a) c1),(qw (jk q) (nw b) c2)]) func243 O O (Av O) (zN (sL [0,1] O) (q4 (asg' O (asg' O (oNl' (q2 (AM O (AM O (AG (v:=(vN (nw b))) (AC O underlying255) O (AG (BY (c:=(((nw b)-1:Nat):Int)) O O (CN (a:=nw b) (b:=1) Z Z)) O (AG (v:=(pP q ((nw b)-1))) (AO (j:=(nw b)-1) O O underlying255 sizeOf92 O Z jX) O ?_)))))))))))
 have hx1:(A8 b).getD ((nw b)-1) 0<4294967296:=W32.getD (Cm b) ((nw b)-1)
 refine AG (Bc (v:=(vK .u32 ((A8 b).getD ((nw b)-1) 0))) O (λw' hw=>CA.at0 (hw.oldCA jX (FA hq)) (BH (xs:=A8 b) (j:=((nw b)-1)) Z)) isAgg92) O (zC (k:=22) (u:=(vK .u32 ((AP b).getD (nw b-1) 0))) O (by rw [D1 Z]) (ck' call272 (X_ ((AP b).getD (nw b-1) 0) Z) O (zC (k:=23) (u:=(vN s)) O (by rw [hs]) (asg' O (q6 (sL [0,1,4,5,6] O) (CQ [(0,true),(1,true),(3,true),(4,true),(6,true),(7,true),(2,false),(5,false),(8,true),(9,true),(10,true)] sr (BT O (BT O (BT O (BT O (BT O ?_)))))))))))
 refine Aj (v:=(vN (nw b))) O (AC O underlying255) (zK O (z7 (V:=λb1=>(qw (jk b1) (nw a+1) (nw a+1))) (T:=92) (cs:=Ao (C6 (nw a+1) (a*2^s))) (AJ O) (Aw (args:=[(qw (jk p) (nw a) c1),(vN s)]) O O call273) (λw hw=>(by have h:=Lg p (nw a) c1 s (A8 a) (Cm a) hla Z hs32 w (hw.old jX hp);rw [Ia] at h;exact h)) O (Av O) λb1=>zD (sl sr) (zK O (z7 (V:=λb2=>(qw (jk b2) (nw b+1) (nw b+1))) (T:=92) (cs:=Ao vb) (AJ O) (Aw (args:=[(qw (jk q) (nw b) c2),(vN s)]) O O call273) (λw hw=>(by have h:=Lg q (nw b) c2 s (A8 b) (Cm b) hlb Z hs32 w (hw.old jX hq);rw [Ia,<-hvb] at h;exact h)) O (Av O) λb2=>zD (sl (sl sr)) (Aj (v:=(qw (jk b2) (nw b) (nw b+1))) O (HO (m:=nw b) O O underlying255 sizeOf92 Z) (pS' O (pS' O (zT (zB (sL [1,4,5,6,7,8] O) ?_)))))))))
 refine q2 (AM O (AG (v:=(vN (nw b))) (AC O underlying255) O (asg' O (q3 (sL [1,4,5,6,7,8,9] O) (AM O (AG (v:=(vN (nw a+1))) (AC O underlying255) O (AM O (AG (BY (c:=(((nw a+1)-(nw b):Nat):Int)) O O (CN (a:=nw a+1) (b:=nw b) Z Z)) O (zC (k:=38) (u:=(vN m)) O (by rw [hm]) (zZ (V:=λb3=>(qw (jk b3) m m)) (T:=92) (cs:=Ao (List.replicate m 0)) (AJ O) (Dg (m:=m) (c:=m) O O Z Z) O (Av O) λb3=>asg' O ?_))))))))))
 refine q6 (sL [1,4,5,6,7,8,9] O) (q4 (AM O (AG (v:=(vN m)) (AC O underlying255) O (AG (BY (c:=(((m:Nat):Int)-1)) O O (BP Z Z)) O (asg' O (oNl' (zB (sL [1,4,5,6,7,8,9,10] O) (zA (zI ?_)))))))))
 refine yS (tg λ(k0:Nat) (us:List Nat) (qs:List Nat)=>k0<=m/\us.length=nw a+1/\W32 us/\qs.length=m/\W32 qs/\(∀j,j<k0->qs.getD j 0=0)/\val us<V*4294967296^k0/\a*2^s=val qs*V+val us) (tg λ(k0:Nat) (us:List Nat) (qs:List Nat)=>[(4,(qw (jk b3) m m)),(5,jj),(6,(vN s)),(7,(qw (jk b1) (nw a+1) (nw a+1))),(8,(qw (jk b2) (nw b) (nw b+1))),(9,(vN (nw b))),(10,(vI (((k0:Nat):Int)-1)))]) (tg λ(k0:Nat) (us:List Nat) (qs:List Nat)=>[AR b3 92 (Ao qs),AR b2 92 (Ao vb),AR b1 92 (Ao us)]) (tg λ(k0:Nat) (us:List Nat) (qs:List Nat)=>k0) m (C6 (nw a+1) (a*2^s)) (List.replicate m 0) (⟨Nat.le_refl _,Bk _ _,Ef _ _,by simp,W32.zeros _,λj _=>by simp [List.getD_eq_getElem?_getD,List.getElem?_replicate];split<;>rfl,by rw [hA,hV];exact hst,by rw [hA,Ep];simp⟩) (sF O) sr (λk0 us qs hJ=>?_)
 obtain ⟨hk0,hul,huw,hql,hqw,hqz,hlt,hAeq⟩:=hJ
 refine zV (q4 (AM O (AG (Bp (c:=(decide ((0:Int)<=(((k0:Nat):Int)-1)))) O O O) O (oNl' (zB (sL [4,5,6,7,8,9,10,44] O) (zA ?_))))))
 refine zM O (λhc0=>?_) (λhc0=>?_)
 ·replace hc0:=xR hc0
  obtain ⟨k,rfl⟩:∃k,k0=k+1:=⟨k0-1,Z⟩
  obtain ⟨top,htp⟩:∃t,t=us.getD (k+nw b) 0*4294967296+us.getD (k+nw b-1) 0:=⟨_,rfl⟩
  obtain ⟨W,hWd⟩:∃x,x=val us/4294967296^k:=⟨_,rfl⟩
  have hWin:=a_ hN huw hlt
  rw [<-htp,<-hWd] at hWin
  have hu2:=huw.getD (k+nw b-2)
  have hG0:=PH hN hWin hu2
  have htb:=hWin.topb
  have hq32:=hWin.quo_lt hN.pos
  refine yF (k:=10) (u:=(vN k)) O (by congr 1;omega) (zG (q1 (zI (xD (zV (CQ (Db 18) sr (BT O (BT O (BT O (Aj O (AW (c:=((k+(nw b):Nat):Int)) O O (AU (a:=k) (b:=nw b) Z)) (Aj (v:=(pP b1 (k+(nw b)))) O (AO (j:=k+(nw b)) O O underlying255 sizeOf92 O Z jX) ?_)))))))))))
  have hx2:us.getD (k+(nw b)) 0<4294967296:=W32.getD huw (k+(nw b))
  refine Aj O (AE (i:=2) (v:=(vK .u32 (us.getD (k+(nw b)) 0))) O O isAgg92 (BH (xs:=us) (j:=(k+(nw b))) Z)) (Aj O (A9 (c:=((us.getD (k+(nw b)) 0:Nat):Int)) O underlying92 underlying69 (BV Z)) (Aj (v:=(vK .u64 (us.getD (k+nw b) 0*4294967296))) O (Gy (s:=32) O O O jY (HB (s:=32) Z)) (BT O (BT O (BT O (Aj O (AW (c:=((k+(nw b):Nat):Int)) O O (AU (a:=k) (b:=nw b) Z)) (Aj O (BY (c:=(((k+(nw b))-1:Nat):Int)) O O (CN (a:=k+(nw b)) (b:=1) Z Z)) (Aj (v:=(pP b1 ((k+(nw b))-1))) O (AO (j:=(k+(nw b))-1) O O underlying255 sizeOf92 O Z jX) ?_))))))))
  have hx3:us.getD ((k+(nw b))-1) 0<4294967296:=W32.getD huw ((k+(nw b))-1)
  refine Aj O (AE (i:=2) (v:=(vK .u32 (us.getD ((k+(nw b))-1) 0))) O O isAgg92 (BH (xs:=us) (j:=((k+(nw b))-1)) Z)) (Aj O (A9 (c:=((us.getD ((k+(nw b))-1) 0:Nat):Int)) O underlying92 underlying69 (BV Z)) (Aj O (Ji (c:=((top:Nat):Int)) O O (KQ Z Z (((Nat.or_comm _ _).trans ((IS (s:=32) Z).trans (Nat.add_comm _ _))).trans htp.symm))) (pS' O (zT (zB (sL [4,5,6,7,8,9,10,11] O) (q1 (CQ (Db 18) sr (BT O (BT O (BT O (Aj O (BY (c:=(((nw b)-1:Nat):Int)) O O (CN (a:=nw b) (b:=1) Z Z)) ?_)))))))))))
  refine Aj (v:=(pP b2 ((nw b)-1))) O (AO (j:=(nw b)-1) O O underlying255 sizeOf92 O Z jX) ?_
  have hx4:vb.getD ((nw b)-1) 0<4294967296:=W32.getD hN.w32 ((nw b)-1)
  refine Aj O (AE (i:=1) (v:=(vK .u32 (vb.getD ((nw b)-1) 0))) O O isAgg92 (BH (xs:=vb) (j:=((nw b)-1)) Z)) (Aj O (A9 (c:=((vb.getD ((nw b)-1) 0:Nat):Int)) O underlying92 underlying69 (BV Z)) (Aj O (Fc (c:=((top/(vb.getD ((nw b)-1) 0):Nat):Int)) O O Z (I_ (a:=top) (b:=vb.getD ((nw b)-1) 0) Z)) (BT O (BT O (BT O (Aj O (BY (c:=(((nw b)-1:Nat):Int)) O O (CN (a:=nw b) (b:=1) Z Z)) (Aj (v:=(pP b2 ((nw b)-1))) O (AO (j:=(nw b)-1) O O underlying255 sizeOf92 O Z jX) ?_)))))))
  have hx5:vb.getD ((nw b)-1) 0<4294967296:=W32.getD hN.w32 ((nw b)-1)
  refine Aj O (AE (i:=1) (v:=(vK .u32 (vb.getD ((nw b)-1) 0))) O O isAgg92 (BH (xs:=vb) (j:=((nw b)-1)) Z)) (Aj O (A9 (c:=((vb.getD ((nw b)-1) 0:Nat):Int)) O underlying92 underlying69 (BV Z)) (Aj O (Dh (c:=((top%(vb.getD ((nw b)-1) 0):Nat):Int)) O O Z (L6 (a:=top) (b:=vb.getD ((nw b)-1) 0))) (pS' O (pS' O (zT (zB (sL [4,5,6,7,8,9,10,12,13] O) (q1 (xE (q1 ?_)))))))))
  refine yN (tg λ(d:Nat)=>d<=4294967295/\(d=W/V\/d=W/V+1)) (tg λ(d:Nat)=>[(4,(qw (jk b3) m m)),(5,jj),(6,(vN s)),(7,(qw (jk b1) (nw a+1) (nw a+1))),(8,(qw (jk b2) (nw b) (nw b+1))),(9,(vN (nw b))),(10,(vN k)),(12,(vK .u64 d))]) (tg λ(d:Nat)=>[AR b3 92 (Ao qs),AR b2 92 (Ao vb),AR b1 92 (Ao us)]) ?_ ?_
  ·refine zI ?_
   refine yA (tg λ(d:Nat) (r:Nat)=>Il V W (vb.getD (nw b-1) 0) top d r/\r<8589934592/\d<8589934593) (tg λ(d:Nat) (r:Nat)=>[(4,(qw (jk b3) m m)),(5,jj),(6,(vN s)),(7,(qw (jk b1) (nw a+1) (nw a+1))),(8,(qw (jk b2) (nw b) (nw b+1))),(9,(vN (nw b))),(10,(vN k)),(12,(vK .u64 d)),(13,(vK .u64 r))]) (tg λ(d:Nat) (r:Nat)=>[AR b3 92 (Ao qs),AR b2 92 (Ao vb),AR b1 92 (Ao us)]) (tg λ(d:Nat) (r:Nat)=>d) (top/vb.getD (nw b-1) 0) (top%vb.getD (nw b-1) 0) (⟨hG0,by have:=Nat.mod_lt top (show vb.getD (nw b-1) 0>0 by omega);omega,Nat.div_lt_of_lt_mul Z⟩) (sF O) sr (λd r hJ=>?_)
   obtain ⟨hG,hr2,hd2⟩:=hJ
   refine zV (q4 (AM O (AG (Gi (c:=(decide (r<=4294967295))) O O (UT (a:=r) (b:=4294967295))) O (oNl' (zB (sL [4,5,6,7,8,9,10,12,13,81] O) (zA ?_))))))
   refine zM O (λhc1=>?_) (λhc1=>?_)
   ·replace hc1:=xR hc1
    refine zG (zA (zI (zV (zV ?_))))
    by_cases hsp:d<=4294967295
    ·have hv2:=hN.w32.getD (nw b-2)
     have hml:=Lm (a:=d) (b:=vb.getD (nw b-2) 0) Z hv2
     refine CQ (Db 24) sr (BT O (Aj O (Gi (c:=true) O O (UT.trans (xy hsp))) (BT O (zQ (v:=(vK .u64 d)) O (AH O) (BE O) O O (zQ (v:=(qw (jk b2) (nw b) (nw b+1))) O (AH O) (BE O) O O (zQ (v:=(vN (nw b))) O (AH O) (BE O) O O (zQ (v:=(vN ((nw b)-2))) O (AH O) (BY (c:=(((nw b)-2:Nat):Int)) O O (CN (a:=nw b) (b:=2) Z Z)) O O (zQ (v:=(pP b2 ((nw b)-2))) O (AH O) (AO (j:=(nw b)-2) O O underlying255 sizeOf92 O Z jX) O O ?_))))))))
     have hx6:vb.getD ((nw b)-2) 0<4294967296:=W32.getD hN.w32 ((nw b)-2)
     refine zQ (v:=(vK .u32 (vb.getD ((nw b)-2) 0))) O (AH O) (AE (i:=1) (v:=(vK .u32 (vb.getD ((nw b)-2) 0))) O O isAgg92 (BH (xs:=vb) (j:=((nw b)-2)) Z)) O O (zQ (v:=(vK .u64 (vb.getD ((nw b)-2) 0))) O (AH O) (A9 (c:=((vb.getD ((nw b)-2) 0:Nat):Int)) O underlying92 underlying69 (BV Z)) O O (zQ (v:=(vK .u64 (d*(vb.getD ((nw b)-2) 0)))) O (AH O) (EV (c:=((d*(vb.getD ((nw b)-2) 0):Nat):Int)) O O (Fa (a:=d) (b:=vb.getD ((nw b)-2) 0) Z)) O O (zQ (v:=(vK .u64 r)) O (AH O) (BE O) O O (zQ (v:=(vK .u64 (r*4294967296))) O (AH O) (Gy (s:=32) O O O jY (HB (s:=32) Z)) O O (zQ (v:=(qw (jk b1) (nw a+1) (nw a+1))) O (AH O) (BE O) O O (zQ (v:=(vN k)) O (AH O) (BE O) O O (zQ (v:=(vN (nw b))) O (AH O) (BE O) O O (zQ (v:=(vN (k+(nw b)))) O (AH O) (AW (c:=((k+(nw b):Nat):Int)) O O (AU (a:=k) (b:=nw b) Z)) O O (zQ (v:=(vN ((k+(nw b))-2))) O (AH O) (BY (c:=(((k+(nw b))-2:Nat):Int)) O O (CN (a:=k+(nw b)) (b:=2) Z Z)) O O (zQ (v:=(pP b1 ((k+(nw b))-2))) O (AH O) (AO (j:=(k+(nw b))-2) O O underlying255 sizeOf92 O Z jX) O O ?_))))))))))
     have hx7:us.getD ((k+(nw b))-2) 0<4294967296:=W32.getD huw ((k+(nw b))-2)
     refine zQ (v:=(vK .u32 (us.getD ((k+(nw b))-2) 0))) O (AH O) (AE (i:=2) (v:=(vK .u32 (us.getD ((k+(nw b))-2) 0))) O O isAgg92 (BH (xs:=us) (j:=((k+(nw b))-2)) Z)) O O (zQ (v:=(vK .u64 (us.getD ((k+(nw b))-2) 0))) O (AH O) (A9 (c:=((us.getD ((k+(nw b))-2) 0:Nat):Int)) O underlying92 underlying69 (BV Z)) O O (zQ (v:=(vK .u64 (r*4294967296+us.getD (k+nw b-2) 0))) O (AH O) (Ji (c:=((r*4294967296+us.getD (k+nw b-2) 0:Nat):Int)) O O (KQ Z Z (((Nat.or_comm _ _).trans ((IS (s:=32) Z).trans (Nat.add_comm _ _)))))) O O (zQ (v:=(qa (decide ((d*(vb.getD ((nw b)-2) 0))<=(r*4294967296+us.getD (k+nw b-2) 0))))) O (AH O) (Gi (c:=(decide ((d*(vb.getD ((nw b)-2) 0))<=(r*4294967296+us.getD (k+nw b-2) 0)))) O O (UT (a:=d*(vb.getD ((nw b)-2) 0)) (b:=r*4294967296+us.getD (k+nw b-2) 0))) O O (Aj (v:=(qa (decide ((d*(vb.getD ((nw b)-2) 0))<=(r*4294967296+us.getD (k+nw b-2) 0))))) O (AN O O) (zT (zB (sL [4,5,6,7,8,9,10,12,13,105] O) (zA ?_)))))))
     refine zM O (λhc2=>?_) (λhc2=>?_)
     ·replace hc2:=xR hc2
      have hg:=Kq hN hWin hG (.inr ⟨hsp,hc2⟩)
      exact zU (zP (yg O (zi (zS (zl d (hg) (sF O) sr)))))
     ·replace hc2:=xQ hc2
      obtain ⟨hng1,hng2⟩:=Lh hN hWin hG (λh=>hc2 h.2)
      refine zG (q2 (AM O (AG (BY (c:=((d-1:Nat):Int)) O O (Io (a:=d) (b:=1) Z Z)) O (asg' O (oNl' (zB (sL [4,5,6,7,8,9,10,12,13] O) (zA (zH (AM O (AM O (AM O ?_)))))))))))
      refine AG (BY (c:=(((nw b)-1:Nat):Int)) O O (CN (a:=nw b) (b:=1) Z Z)) O (AG (v:=(pP b2 ((nw b)-1))) (AO (j:=(nw b)-1) O O underlying255 sizeOf92 O Z jX) O ?_)
      have hx8:vb.getD ((nw b)-1) 0<4294967296:=W32.getD hN.w32 ((nw b)-1)
      exact AG (AE (i:=1) (v:=(vK .u32 (vb.getD ((nw b)-1) 0))) O O isAgg92 (BH (xs:=vb) (j:=((nw b)-1)) Z)) O (AG (A9 (c:=((vb.getD ((nw b)-1) 0:Nat):Int)) O underlying92 underlying69 (BV Z)) O (AG (AW (c:=((r+(vb.getD ((nw b)-1) 0):Nat):Int)) O O (Dz (a:=r) (b:=vb.getD ((nw b)-1) 0) Z)) O (asg' O (oNl' (zB (sL [4,5,6,7,8,9,10,12,13] O) (zJ (zn (d-1) (r+vb.getD (nw b-1) 0) (⟨hng1,Z,Z⟩) Z (sF O) sr)))))))
    ·obtain ⟨hng1,hng2⟩:=Lh hN hWin hG (λh=>hsp h.1)
     refine CQ (Db 24) sr (BT O (Aj O (Gi (c:=false) O O (UT.trans (xx hsp))) (BT O (zW O (Ag O) O O (zW O (Ag O) O O (zW O (Ag O) O O (zW O (Ag O) O O (zW O (Ag O) O O (zW O (Ag O) O O (zW O (Ag O) O O (zW O (Ag O) O O ?_)))))))))))
     refine zW O (Ag O) O O (zW O (Ag O) O O (zW O (Ag O) O O (zW O (Ag O) O O (zW O (Ag O) O O (zW O (Ag O) O O (zW O (Ag O) O O (zW O (Ag O) O O (zW O (Ag O) O O (zW O (Ag O) O O (zW O (Ag O) O O (zW O (Ag O) O O ?_)))))))))))
     refine Aj (v:=(qa false)) O (AI O O) (zT (zB (sL [4,5,6,7,8,9,10,12,13,105] O) (zA (zb O (zG (q2 (AM O (AG (BY (c:=((d-1:Nat):Int)) O O (Io (a:=d) (b:=1) Z Z)) O (asg' O (oNl' (zB (sL [4,5,6,7,8,9,10,12,13] O) ?_)))))))))))
     refine zA (zH (AM O (AM O (AM O (AG (BY (c:=(((nw b)-1:Nat):Int)) O O (CN (a:=nw b) (b:=1) Z Z)) O (AG (v:=(pP b2 ((nw b)-1))) (AO (j:=(nw b)-1) O O underlying255 sizeOf92 O Z jX) O ?_))))))
     have hx9:vb.getD ((nw b)-1) 0<4294967296:=W32.getD hN.w32 ((nw b)-1)
     exact AG (AE (i:=1) (v:=(vK .u32 (vb.getD ((nw b)-1) 0))) O O isAgg92 (BH (xs:=vb) (j:=((nw b)-1)) Z)) O (AG (A9 (c:=((vb.getD ((nw b)-1) 0:Nat):Int)) O underlying92 underlying69 (BV Z)) O (AG (AW (c:=((r+(vb.getD ((nw b)-1) 0):Nat):Int)) O O (Dz (a:=r) (b:=vb.getD ((nw b)-1) 0) Z)) O (asg' O (oNl' (zB (sL [4,5,6,7,8,9,10,12,13] O) (zJ (zn (d-1) (r+vb.getD (nw b-1) 0) (⟨hng1,Z,Z⟩) Z (sF O) sr)))))))
   ·replace hc1:=xQ hc1
    have hg:=Kq hN hWin hG (.inl Z)
    exact zU (zP (zi (zS (zl d (hg) (sF O) sr))))
  ·intro d hJ
   obtain ⟨hdb,hdq⟩:=hJ
   refine q1 (q4 (AM O (AM O (AM O (AM O (AG (AW (c:=((k+(nw b):Nat):Int)) O O (AU (a:=k) (b:=nw b) Z)) O (AG (AW (c:=(((k+(nw b))+1:Nat):Int)) O O (AU (a:=k+(nw b)) (b:=1) Z)) O (AG (v:=(qw (some ⟨b1,k,none⟩) (((k+(nw b))+1)-k) ((nw a+1)-k))) (OZ (i:=k) (m:=(k+(nw b))+1) O O O underlying255 sizeOf92 Z Z Z jX) O (zC (k:=122) (u:=(qw (some ⟨b1,k,none⟩) (nw b+1) ((nw a+1)-k))) O (by rw [show k+nw b+1-k=nw b+1 by omega]) (AM O (AM O ?_)))))))))))
   refine yr (v:=(qa (decide (val us<d*val (vb.take (nw b))*4294967296^k)))) (i:=2) (cs':=Ao (C6 (nw a+1) (val us+(if val us<d*val (vb.take (nw b))*4294967296^k then 4294967296^(k+nw b+1) else 0)-d*val (vb.take (nw b))*4294967296^k))) (L':=[AR b3 92 (Ao qs),AR b2 92 (Ao vb),AR b1 92 (Ao (C6 (nw a+1) (val us+(if val us<d*val (vb.take (nw b))*4294967296^k then 4294967296^(k+nw b+1) else 0)-d*val (vb.take (nw b))*4294967296^k)))]) (AJ O) (Aw (args:=[(qw (some ⟨b1,k,none⟩) (nw b+1) ((nw a+1)-k)),(qw (jk b2) (nw b) (nw b+1)),(vK .u64 d)]) O O call274) O (λw hw=>ZP _ _ k (nw b) (nw a+1) _ _ d us vb huw hul hN.w32 Z Z Z Z hWin.fits ((hw.apart (i:=1) (j:=2) jY O O)) w (hw.get (i:=2) O) (hw.get (i:=1) O)) (λd hd=>by cases hd<;>exact (Av O)) O (oNl' (zB (sL [4,5,6,7,8,9,10,12,125] O) (zA ?_)))
   refine yN (tg λ(us2:List Nat)=>us2.length=nw a+1/\W32 us2/\val us2=val us-W/V*V*4294967296^k) (tg λ(us2:List Nat)=>[(4,(qw (jk b3) m m)),(5,jj),(6,(vN s)),(7,(qw (jk b1) (nw a+1) (nw a+1))),(8,(qw (jk b2) (nw b) (nw b+1))),(9,(vN (nw b))),(10,(vN k)),(12,(vK .u64 (W/V)))]) (tg λ(us2:List Nat)=>[AR b3 92 (Ao qs),AR b2 92 (Ao vb),AR b1 92 (Ao us2)]) ?_ ?_
   ·refine zM O (λhc3=>?_) (λhc3=>?_)
    ·replace hc3:=xR hc3
     have hP:4294967296^(k+nw b+1)<=4294967296^(nw a+1):=Nat.pow_le_pow_right Z Z
     rw [hN.take] at hc3
     obtain ⟨hde,hdS⟩:=RE (vb:=vb) hWin hdq hc3
     have hXP:V*4294967296^k<=4294967296^(k+nw b+1):=xK (Nat.mul_le_mul_right _ (Nat.le_of_lt hN.high)) (by rw [<-Nat.pow_add];exact Nat.pow_le_pow_right Z Z)
     have hqle:=Qe (vb:=vb) hWin
     have hfit:=hWin.fits
     have hd1:1<=d:=by rw [hde];exact Nat.le_add_left _ _
     have hU1:val (C6 (nw a+1) (val us+(if val us<d*val (vb.take (nw b))*4294967296^k then 4294967296^(k+nw b+1) else 0)-d*val (vb.take (nw b))*4294967296^k))=val us+4294967296^(k+nw b+1)-d*V*4294967296^k:=by rw [hN.take,if_pos hc3,Ff _ _ Z]
     have hU1lt:val (C6 (nw a+1) (val us+(if val us<d*val (vb.take (nw b))*4294967296^k then 4294967296^(k+nw b+1) else 0)-d*val (vb.take (nw b))*4294967296^k))<4294967296^(k+nw b+1):=by rw [hU1];omega
     refine q4 (AM O (AG (BY (c:=((d-1:Nat):Int)) O O (Io (a:=d) (b:=1) Z Z)) O (asg' O (q3 (sL [4,5,6,7,8,9,10,12] O) (asg' O (oNl' (q1 (q4 (AM O (AG (v:=(vN (nw b))) (AC O underlying255) O (AM O ?_)))))))))))
     refine oNl' (zA (zI ?_))
     refine yS (tg λ(i:Nat) (os:List Nat) (c:Nat)=>i<=nw b/\os.length=nw a+1/\W32 os/\c<=1/\(∀j,k+nw b+1<=j->os.getD j 0=0)/\val os+c*4294967296^(k+i)=(val us+4294967296^(k+nw b+1)-d*V*4294967296^k)+val (vb.take i)*4294967296^k) (tg λ(i:Nat) (os:List Nat) (c:Nat)=>[(4,(qw (jk b3) m m)),(5,jj),(6,(vN s)),(7,(qw (jk b1) (nw a+1) (nw a+1))),(8,(qw (jk b2) (nw b) (nw b+1))),(9,(vN (nw b))),(10,(vN k)),(12,(vK .u64 (d-1))),(128,(qw (jk b2) (nw b) (nw b+1))),(129,(vN (nw b))),(130,(vN i)),(14,(vK .u32 c))]) (tg λ(i:Nat) (os:List Nat) (c:Nat)=>[AR b3 92 (Ao qs),AR b2 92 (Ao vb),AR b1 92 (Ao os)]) (tg λ(i:Nat) (os:List Nat) (c:Nat)=>nw b-i) 0 (C6 (nw a+1) (val us+(if val us<d*val (vb.take (nw b))*4294967296^k then 4294967296^(k+nw b+1) else 0)-d*val (vb.take (nw b))*4294967296^k)) 0 (⟨xH _,Bk _ _,Ef _ _,Z,J1 hU1lt,by rw [hU1];simp [val]⟩) (sF O) sr (λi os c hJ=>?_)
     obtain ⟨hi,hl,hw32,hcc,hz,hv⟩:=hJ
     refine q4 (AG (Ae (c:=(decide (i<(nw b)))) O O (CM (a:=i) (b:=nw b))) O (oNl' (q1 ?_)))
     refine zM O (λhc4=>?_) (λhc4=>?_)
     ·replace hc4:=xR hc4
      refine zG (q1 (zI (q4 (AM O (AG (v:=(pP b2 i)) (AO (j:=i) O O underlying255 sizeOf92 O Z jX) O ?_)))))
      have hx10:vb.getD i 0<4294967296:=W32.getD hN.w32 i
      refine AG (AE (i:=1) (v:=(vK .u32 (vb.getD i 0))) O O isAgg92 (BH (xs:=vb) (j:=i) Z)) O (asg' O (asg' O (oNl' (zB (sL [4,5,6,7,8,9,10,12,128,129,130,14,15,16] O) (zA (zH (AM O (AM O (AM O (AG (AW (c:=((k+i:Nat):Int)) O O (AU (a:=k) (b:=i) Z)) O (AM O ?_)))))))))))
      refine AM O (AM O (AG (AW (c:=((k+i:Nat):Int)) O O (AU (a:=k) (b:=i) Z)) O (AG (v:=(pP b1 (k+i))) (AO (j:=k+i) O O underlying255 sizeOf92 O Z jX) O ?_)))
      have hx11:os.getD (k+i) 0<4294967296:=W32.getD hw32 (k+i)
      refine AG (AE (i:=2) (v:=(vK .u32 (os.getD (k+i) 0))) O O isAgg92 (BH (xs:=os) (j:=(k+i)) Z)) O (AM O (AM O (ck' call240 (LT (os.getD (k+i) 0) (vb.getD i 0) c Z Z Z) O (AM O (AG (AZ (v:=(vK .u32 (((os.getD (k+i) 0)+(vb.getD i 0)+c)%4294967296))) O O) O (AG (AZ (v:=(vK .u32 (((os.getD (k+i) 0)+(vb.getD i 0)+c)/4294967296))) O O) O (AG (v:=(pP b1 (k+i))) (AO (j:=k+i) O O underlying255 sizeOf92 O Z jX) O (zw (i:=2) (off:=(k+i)) (vs:=[(vK .u32 (((os.getD (k+i) 0)+(vb.getD i 0)+c)%4294967296))]) (cs':=Ao (os.set (k+i) (((os.getD (k+i) 0)+(vb.getD i 0)+c)%4294967296))) (L':=[AR b3 92 (Ao qs),AR b2 92 (Ao vb),AR b1 92 (Ao (os.set (k+i) (((os.getD (k+i) 0)+(vb.getD i 0)+c)%4294967296)))]) (AJ O) O O O O O sizeOf92 O (C7 (BW _) Z) (CZ Z) O (asg' O (oNl' (zB (sL [4,5,6,7,8,9,10,12,128,129,130,14] O) ?_)))))))))))
      exact zJ (zA (zH (AG (AW (c:=((i+1:Nat):Int)) O O (AU (a:=i) (b:=1) Z)) O (AM O (oNl' (zB (sL [4,5,6,7,8,9,10,12,128,129,130,14] O) (yB (i+1) (os.set (k+i) ((os.getD (k+i) 0+vb.getD i 0+c)%4294967296)) ((os.getD (k+i) 0+vb.getD i 0+c)/4294967296) (⟨Z,by rw [List.length_set];exact hl,W32.set hw32 Z _,Z,F9 hz Z,S7 hl Z hv⟩) Z (sF O) sr)))))))
     ·replace hc4:=xQ hc4
      have hib:i=nw b:=by omega
      have hv3:=hv
      rw [hib,hN.take] at hv3
      have hbk:=Tm (T:=val us-W/V*V*4294967296^k) (P:=4294967296^(k+nw b+1)) hl Z hw32 hcc hz rfl (hv3.trans (RA hdS hqle hfit hc3 hXP)) (Nat.lt_of_le_of_lt (Nat.sub_le _ _) hfit)
      refine zU (zP (zx (zS (zA (zH (AM O (AM O (AM O (AG (AW (c:=((k+(nw b):Nat):Int)) O O (AU (a:=k) (b:=nw b) Z)) O (AG (v:=(pP b1 (k+(nw b)))) (AO (j:=k+(nw b)) O O underlying255 sizeOf92 O Z jX) O ?_))))))))))
      have hx12:os.getD (k+(nw b)) 0<4294967296:=W32.getD hw32 (k+(nw b))
      exact AG (AE (i:=2) (v:=(vK .u32 (os.getD (k+(nw b)) 0))) O O isAgg92 (BH (xs:=os) (j:=(k+(nw b))) Z)) O (AM O (AG (AW (c:=(((os.getD (k+nw b) 0+c)%4294967296:Nat):Int)) O O XH) O (AG (v:=(pP b1 (k+(nw b)))) (AO (j:=k+(nw b)) O O underlying255 sizeOf92 O Z jX) O (zw (i:=2) (off:=(k+(nw b))) (vs:=[(vK .u32 ((os.getD (k+nw b) 0+c)%4294967296))]) (cs':=Ao (os.set (k+(nw b)) ((os.getD (k+nw b) 0+c)%4294967296))) (L':=[AR b3 92 (Ao qs),AR b2 92 (Ao vb),AR b1 92 (Ao (os.set (k+(nw b)) ((os.getD (k+nw b) 0+c)%4294967296)))]) (AJ O) O O O O O sizeOf92 O (C7 (BW _) Z) (CZ Z) O (oNl' (zB (sL [4,5,6,7,8,9,10,12,128,129,130,14] O) (yb (k:=12) (u:=Value.int .u64 ((W/V:Nat):Int)) O (by rw [hde,Nat.add_sub_cancel]) (zl (os.set (k+(nw b)) ((os.getD (k+nw b) 0+c)%4294967296)) (⟨by rw [List.length_set];exact hl,W32.set hw32 Z _,hbk⟩) (sF O) sr))))))))
    ·replace hc3:=xQ hc3
     have hP:4294967296^(k+nw b+1)<=4294967296^(nw a+1):=Nat.pow_le_pow_right Z Z
     rw [hN.take] at hc3
     obtain ⟨hde,hdS⟩:=Q5 hN hWin hdq hc3
     have hfit:=hWin.fits
     have hU1:val (C6 (nw a+1) (val us+(if val us<d*val (vb.take (nw b))*4294967296^k then 4294967296^(k+nw b+1) else 0)-d*val (vb.take (nw b))*4294967296^k))=val us-W/V*V*4294967296^k:=by rw [hN.take,if_neg hc3,Ff _ _ Z];exact hdS
     exact zG (yb (k:=12) (u:=Value.int .u64 ((W/V:Nat):Int)) O (by rw [hde]) (zl (C6 (nw a+1) (val us+(if val us<d*val (vb.take (nw b))*4294967296^k then 4294967296^(k+nw b+1) else 0)-d*val (vb.take (nw b))*4294967296^k)) (⟨Bk _ _,Ef _ _,hU1⟩) (sF O) sr))
   ·intro us2 hJ
    obtain ⟨hu2l,hu2w,hu2v⟩:=hJ
    refine zA (zH (AM O (AM O (AM O (AG (A9 (c:=((W/V:Nat):Int)) O underlying69 underlying92 (C_ (by exact hq32))) O (AG (v:=(pP b3 k)) (AO (j:=k) O O underlying255 sizeOf92 O Z jX) O (zw (i:=0) (off:=k) (vs:=[(vK .u32 (W/V))]) (cs':=Ao (qs.set k (W/V))) (L':=[AR b3 92 (Ao (qs.set k (W/V))),AR b2 92 (Ao vb),AR b1 92 (Ao us2)]) (AJ O) O O O O O sizeOf92 O (C7 (BW _) Z) (CZ Z) O (oNl' (zB (sL [4,5,6,7,8,9,10,12] O) (OkQ.scope_normal (zJ ?_)))))))))))
    refine zA (zH (AM O (AG (BY (c:=(((k:Nat):Int)-1)) O O (BP Z Z)) O (asg' O (oNl' (zB (sL [4,5,6,7,8,9,10,12] O) ?_))))))
    have hdd:=RV hN hWin hu2v hAeq hql Z (hqz k Z)
    exact yB k us2 (qs.set k (W/V)) (⟨Z,hu2l,hu2w,by rw [List.length_set];exact hql,W32.set hqw hq32 _,λj hj=>by rw [Js Z];exact hqz j Z,hdd.1,hdd.2⟩) Z (sF O) sr
 ·replace hc0:=xQ hc0
  have hk00:k0=0:=by omega
  have hlt0:=hlt
  rw [hk00,Nat.pow_zero,Nat.mul_one] at hlt0
  have hfin:=Tr (a:=a) (b:=b) (s:=s) (q:=val qs) (r:=val us) hb0 (by rw [<-hV];exact hAeq) (by rw [<-hV];exact hlt0)
  refine zU (zP (zx (zS (q1 (q4 (AM O (AM O (oNl' (zA (zI ?_))))))))))
  refine yA (tg λ(i:Nat) (us3:List Nat)=>i<=s/\us3.length=nw a+1/\W32 us3/\val us3=a%b*2^s/2^i) (tg λ(i:Nat) (us3:List Nat)=>[(4,(qw (jk b3) m m)),(5,jj),(7,(qw (jk b1) (nw a+1) (nw a+1))),(167,(vN s)),(168,(vN i))]) (tg λ(i:Nat) (us3:List Nat)=>[AR b3 92 (Ao qs),AR b2 92 (Ao vb),AR b1 92 (Ao us3)]) (tg λ(i:Nat) (us3:List Nat)=>s-i) 0 us (⟨xH _,hul,huw,by rw [hfin.2];simp⟩) (sF O) sr (λi us3 hJ=>?_)
  obtain ⟨hi,hl3,hw3,hv3⟩:=hJ
  refine q4 (AG (Ae (c:=(decide (i<s))) O O (CM (a:=i) (b:=s))) O (oNl' (q1 ?_)))
  refine zM O (λhc5=>?_) (λhc5=>?_)
  ·replace hc5:=xR hc5
   refine zG (q1 (zI (zH (AM O (yr (v:=(Value.tuple #[])) (i:=2) (cs':=Ao (C6 (nw a+1) (val us3/2))) (L':=[AR b3 92 (Ao qs),AR b2 92 (Ao vb),AR b1 92 (Ao (C6 (nw a+1) (val us3/2)))]) (AJ O) (Aw (args:=[(qw (jk b1) (nw a+1) (nw a+1))]) O O call275) O (λw hw=>X7 _ (nw a+1) _ us3 hw3 hl3 Z w (hw.get (i:=2) O)) (λd hd=>by cases hd<;>exact (Av O)) O (oNl' (zB (sL [4,5,7,167,168] O) (zJ (zA (zH (AG (AW (c:=((i+1:Nat):Int)) O O (AU (a:=i) (b:=1) Z)) O ?_)))))))))))
   refine AM O (oNl' (zB (sL [4,5,7,167,168] O) ?_))
   have hb3:val us3/2<4294967296^(nw a+1):=Nat.lt_of_le_of_lt (Nat.div_le_self _ _) (by have:=G7 hw3;rw [hl3] at this;exact this)
   exact zn (i+1) (C6 (nw a+1) (val us3/2)) (⟨Z,Bk _ _,Ef _ _,by rw [Ff _ _ hb3,hv3,Nat.div_div_eq_div_mul,<-Nat.pow_succ]⟩) Z (sF O) sr
  ·replace hc5:=xQ hc5
   have his:i=s:=by omega
   have hr:val us3=a%b:=by rw [hv3,his,Nat.mul_div_cancel _ (Nat.pow_pos Z)]
   have hr1:=IF hw3 hl3 hr
   have hq1:=IF hqw hql hfin.1
   refine zU (zP (zi (zS (q2 (AM O (AM O (asg' O (asg' O (oNl' (zB (sL [4,5,7,167,168] O) (zA ?_)))))))))))
   exact zF (Dq O (rd_tmp (v:=(qw (jk b3) m m)) O) (rd_tmp (v:=(qw (jk b1) (nw a+1) (nw a+1))) O) (λw hw=>⟨b3,b1,by rw [hm],hw.out,hw.fresh (i:=0) O,hw.fresh (i:=2) O,(hw.apart (i:=0) (j:=2) jY O O),by rw [<-hm,<-hq1];exact hw.get (i:=0) O,by rw [<-hr1];exact hw.get (i:=2) O⟩))
end
section
set_option maxRecDepth 100000
theorem F5 {N v:Nat} (h:v<4294967296^N):val ((C6 N v).take N)=v:=by
 rw [List.take_of_length_le (by rw [Bk];exact Nat.le_refl _),Ff _ _ h]
theorem UA {a b:Nat} (hb:0<nw b) (h:nw b<=nw a):a/b<4294967296^(nw a+1-nw b):=by
 have h1:=Ih hb
 have h2:=Bz a
 rw [Nat.div_lt_iff_lt_mul (by have:=Nat.pow_pos (n:=nw b-1) (show 0<4294967296 by omega);omega)]
 have h3:4294967296^(nw a+1-nw b)*4294967296^(nw b-1)<=4294967296^(nw a+1-nw b)*b:=Nat.mul_le_mul_left _ h1
 rw [<-Nat.pow_add,show nw a+1-nw b+(nw b-1)=nw a by omega] at h3
 omega
theorem UE {a b:Nat}:a%b<4294967296^(nw a+1):=Nat.lt_of_le_of_lt (Nat.mod_le _ _) (Nat.lt_of_lt_of_le (Bz a) (Nat.pow_le_pow_right Z Z))
theorem Ra {b:Nat} (h:nw b=0):b=0:=by
 have:=Bz b
 rw [h] at this
 omega
theorem YU {b:Nat} (h:nw b=1):(A8 b).getD 0 0=b/\b<4294967296:=by
 have h1:=Bz b
 rw [h] at h1
 refine ⟨?_,Z⟩
 rw [D1 Z,IC,Nat.pow_zero,Nat.div_one,Nat.mod_eq_of_lt Z]
theorem Md  :Instr.fill ([(0,1),(1,1)].toArray[·]?) (Aa 0).toArray []=some (Aa 0).toArray:=by kernel_rfl
theorem Q_ (a b:Nat) (ha:nw a<=1099511627776) (hb:nw b<=1099511627776) (hb0:b≠0) (w:World)  :Calls prog 203 #[(aG (Aa a)),(aG (Aa b))] w (Ak w (Value.tuple #[(aG (Aa (a/b))),(aG (Aa (a%b))),(qa true)])):=by
 have hnb:nw b≠0:=λh=>hb0 (Ra h)
 have hla:=Ci a
 have hlb:=Ci b
 refine Ab (args:=[(aG (Aa a)),(aG (Aa b))]) func203 O O (Av O) (zN (sL [0,1] O) (q4 (Bb (cs:=Aa a) O λb1=>Bb (cs:=Aa b) O λb2=>al Gf O λb3=>al Gf O λb4=>asg' O (q6 (sL [2,3,4,5,6] O) (zI (q4 (BD 2 CD O ?_)))))))
 refine ck' call241 (R9 b) O (asg' O (oNl' (zB (sL [2,3,4,5,6,12] O) (zA ?_))))
 refine zM O (λhc0=>?_) (λhc0=>?_)
 ·replace hc0:=xR hc0
  exact absurd hc0 hb0
 ·replace hc0:=xQ hc0
  refine q4 (BD 3 CD O (BD 2 CD O (ck' call242 (WY a b Z Z) O (AG (Ae (c:=(decide ((DZ a b)<(0:Int)))) O O O) O (asg' O (oNl' (zB (sL [2,3,4,5,6,17] O) (zA ?_))))))))
  refine zM O (λhc1=>?_) (λhc1=>?_)
  ·replace hc1:=xR hc1
   rw [Fs] at hc1
   have e1:a/b=0:=Nat.div_eq_of_lt hc1
   have e2:a%b=a:=Nat.mod_eq_of_lt hc1
   refine zV (CQ [(0,true),(1,true),(2,false),(3,false),(4,true)] (sl (sl sr)) (Aj (v:=(aG (Aa 0))) O (AT (zs:=Aa 0) (vs:=Aa 0) (pv:=[]) (places:=[(0,1),(1,1)]) zeroValue71 underlying71 (λw=>by simp [sizeOf9,sizeOf69]) O (Md )) (EC 1 CD O (zK O (EK O sizeOf71 O (zD (sl (sl sr)) (zK O (Ax O sizeOf71 O (zD (sl (sl sr)) (pS' O (zT ?_)))))))))))
   exact zB (sL [2,3,4,5,6] O) (zA (zF (zY (zO (DD O (Ai (i:=1) (cs:=Aa 0) O O isAgg71 sizeOf71 O) (Ai (i:=0) (cs:=Aa a) O O isAgg71 sizeOf71 O) (rd_tmp (v:=(qa true)) O) (λw hw=>⟨by rw [e1,e2],hw.out⟩))))))
  ·replace hc1:=xQ hc1
   rw [Fs] at hc1
   have hba:nw b<=nw a:=DK Z
   refine q4 (AG (v:=(pP b1 1)) (AA O underlying71 O sizeOf9 O) O (Az 3 (Value.string (Bo a)) UV O (AG (Bq (c:=(decide (a<18446744073709551616))) O O C1) O (asg' O (oNl' (zB (sL [2,3,4,5,6,24] O) (zA ?_)))))))
   refine zM O (λhc2=>?_) (λhc2=>?_)
   ·replace hc2:=xR hc2
    have la:CF a=a:=Bl hc2
    have lb:CF b=b:=Bl Z
    have q1:a/b<18446744073709551616:=Nat.lt_of_le_of_lt (Nat.div_le_self _ _) hc2
    have q2:a%b<18446744073709551616:=Nat.lt_of_le_of_lt (Nat.mod_le _ _) hc2
    refine zV (CQ (Db 12++[(12,false),(13,false),(14,true)]) (sl (sl sr)) (Aj (v:=(pP b1 0)) O (AA O underlying71 O sizeOf69 O) (Be 1 (vK .u64 (CF a)) HH O (Aj (v:=(pP b2 0)) O (AA O underlying71 O sizeOf69 O) (Be 0 (vK .u64 (CF b)) HH O (Aj O (Fc (c:=(((CF a)/(CF b):Nat):Int)) O O Z (I_ (a:=CF a) (b:=CF b) Z)) (Aj (v:=(aG ([(vK .u64 ((CF a)/(CF b))),(Value.string (Bo 0))]))) O (AT (zs:=Aa 0) (vs:=[(vK .u64 ((CF a)/(CF b))),(Value.string (Bo 0))]) (pv:=[(0,(vK .u64 ((CF a)/(CF b))))]) (places:=[(0,1),(1,1)]) zeroValue71 underlying71 (λw=>by simp [sizeOf9,sizeOf69]) O O) (Aj (v:=(pP b1 0)) O (AA O underlying71 O sizeOf69 O) (Be 1 (vK .u64 (CF a)) HH O (Aj (v:=(pP b2 0)) O (AA O underlying71 O sizeOf69 O) (Be 0 (vK .u64 (CF b)) HH O ?_)))))))))))
    refine Aj O (Dh (c:=(((CF a)%(CF b):Nat):Int)) O O Z (L6 (a:=CF a) (b:=CF b))) (Aj (v:=(aG ([(vK .u64 ((CF a)%(CF b))),(Value.string (Bo 0))]))) O (AT (zs:=Aa 0) (vs:=[(vK .u64 ((CF a)%(CF b))),(Value.string (Bo 0))]) (pv:=[(0,(vK .u64 ((CF a)%(CF b))))]) (places:=[(0,1),(1,1)]) zeroValue71 underlying71 (λw=>by simp [sizeOf9,sizeOf69]) O O) (zK O (EK O sizeOf71 O (zD (sl (sl sr)) (zK O (Ax O sizeOf71 O (zD (sl (sl sr)) (pS' O (zT (zB (sL [2,3,4,5,6] O) (zA ?_)))))))))))
    exact zF (zY (zO (DD O (Ai (i:=1) (cs:=[(vK .u64 ((CF a)/(CF b))),(Value.string (Bo 0))]) O O isAgg71 sizeOf71 O) (Ai (i:=0) (cs:=[(vK .u64 ((CF a)%(CF b))),(Value.string (Bo 0))]) O O isAgg71 sizeOf71 O) (rd_tmp (v:=(qa true)) O) (λw hw=>⟨by rw [EI q1,EI q2,la,lb];rfl,hw.out⟩))))
   ·replace hc2:=xQ hc2
    refine zG (zJ (q2 (BD 2 CD O (z7 (V:=λb5=>(qw (jk b5) (nw b) ((A8 b).length))) (T:=92) (cs:=Ao (A8 b)) (AJ O) (Aw (args:=[(aG (Aa b))]) O O call187) (λw hw=>Dc b Z w) O (Av O) λb5=>asg' O (q6 (sL [2,3,4,5,6,7] O) (q4 (AM O (AG (v:=(vN (nw b))) (AC O underlying255) O (AG (BO (c:=(decide ((nw b)=1))) O O (Mf (a:=nw b) (b:=1))) O (oNl' ?_))))))))))
    refine zB (sL [2,3,4,5,6,7,44] O) (zA ?_)
    refine zM O (λhc3=>?_) (λhc3=>?_)
    ·replace hc3:=xR hc3
     obtain ⟨hy,hy2⟩:=YU hc3
     refine zV (CQ [(0,true),(2,true),(3,true),(4,true),(1,false),(5,false),(6,true),(7,true),(8,true),(9,true),(10,true)] sr (EC 4 CD O (BT O (Aj (v:=(pP b5 0)) O (AO (j:=0) O O underlying255 sizeOf92 O Z O) ?_))))
     have hx1:(A8 b).getD 0 0<4294967296:=W32.getD (Cm b) 0
     refine Aj O (AE (i:=0) (v:=(vK .u32 ((A8 b).getD 0 0))) O O isAgg92 (BH (xs:=A8 b) (j:=0) Z)) (zK O (z7 (V:=λb6=>(qw (jk b6) (nw a) ((A8 a).length))) (T:=92) (cs:=Ao (A8 a)) (AJ O) (Aw (args:=[(aG (Aa a))]) O O call187) (λw hw=>Dc a Z w) O (Av O) λb6=>zD (sl sr) (zK O (z7 (V:=λb7=>(Value.tuple #[(qw (jk b7) (nw a) (nw a)),(vK .u32 (a%((A8 b).getD 0 0)))])) (T:=92) (cs:=Ao (C6 (nw a) (a/((A8 b).getD 0 0)))) (AJ O) (Aw (args:=[(qw (jk b6) (nw a) ((A8 a).length)),(vK .u32 ((A8 b).getD 0 0))]) O O call188) (λw hw=>Uk a ((A8 b).getD 0 0) _ _ Z Z Z w (hw.get (i:=0) O)) O (Av O) λb7=>zD (sl (sl sr)) (BT O (Aj O (AZ (v:=(qw (jk b7) (nw a) (nw a))) O O) (Aj O (AZ (v:=(vK .u32 (a%((A8 b).getD 0 0)))) O O) (pS' O (pS' O ?_)))))))))
     refine zT (zB (sL [2,3,4,5,6,7,8,9] O) (q2 (AM O (Ct call206 (λw hw=>J0 _ (nw a) (nw a) (C6 (nw a) (a/((A8 b).getD 0 0))) (Ef _ _) (by first|omega|(rw [Bk];omega)|simp|(simp;omega)) (by first|omega|simp|(simp;omega)) (by first|omega|simp|(simp;omega)) w (hw.get (i:=0) O)) O (zC (k:=55) (u:=(aG (Aa (a/b)))) O (by rw [hy,F5 (Nat.lt_of_le_of_lt (Nat.div_le_self _ _) (Bz a))]) (AM O ?_))))))
     have hmb:a%(A8 b).getD 0 0<4294967296:=by rw [hy];exact Nat.lt_of_lt_of_le (Nat.mod_lt _ Z) Z
     exact AG (A9 (c:=((a%((A8 b).getD 0 0):Nat):Int)) O underlying92 underlying69 (BV Z)) O (AG (v:=(aG ([(vK .u64 (a%((A8 b).getD 0 0))),(Value.string (Bo 0))]))) (AT (zs:=Aa 0) (vs:=[(vK .u64 (a%((A8 b).getD 0 0))),(Value.string (Bo 0))]) (pv:=[(0,(vK .u64 (a%((A8 b).getD 0 0))))]) (places:=[(0,1),(1,1)]) zeroValue71 underlying71 (λw=>by simp [sizeOf9,sizeOf69]) O O) O (zC (k:=58) (u:=(aG (Aa (a%b)))) O (by rw [hy] at hmb ⊢;rw [EI Z];rfl) (Ek 4 (off:=0) (vs:=Aa (a/b)) (cs':=Aa (a/b)) (AJ O) O sizeOf71 O (I2 O sizeOf71 O (asg' O (oNl' (zB (sL [2,3,4,5,6,7] O) (zA (zF (zO (DD O (Ai (i:=4) (cs:=Aa (a/b)) O O isAgg71 sizeOf71 O) (Ai (i:=3) (cs:=Aa (a%b)) O O isAgg71 sizeOf71 O) (rd_tmp (v:=(qa true)) O) (λw hw=>⟨rfl,hw.out⟩))))))))))))
    ·replace hc3:=xQ hc3
     refine zG (q2 (BD 4 CD O (z7 (V:=λb6=>(qw (jk b6) (nw a) ((A8 a).length))) (T:=92) (cs:=Ao (A8 a)) (AJ O) (Aw (args:=[(aG (Aa a))]) O O call187) (λw hw=>Dc a Z w) O (Av O) λb6=>AM O (AL.callBB (V:=λb7 b8=>(Value.tuple #[(qw (jk b7) (nw a+1-nw b) (nw a+1-nw b)),(qw (jk b8) (nw a+1) (nw a+1))])) (T:=92) (cs:=Ao (C6 (nw a+1-nw b) (a/b))) (T2:=92) (cs2:=Ao (C6 (nw a+1) (a%b))) (AJ O) (Aw (args:=[(qw (jk b6) (nw a) ((A8 a).length)),(qw (jk b5) (nw b) ((A8 b).length))]) O O call243) (λw hw=>XX a b _ _ _ _ Z Z Z w (hw.get (i:=0) O) (hw.get (i:=1) O)) O (Av O) λb7 b8=>AM O (AG (AZ (v:=(qw (jk b7) (nw a+1-nw b) (nw a+1-nw b))) O O) O (AG (AZ (v:=(qw (jk b8) (nw a+1) (nw a+1))) O O) O (asg' O (asg' O (q3 (sL [2,3,4,5,6,7,10,11] O) ?_)))))))))
     refine AM O (Ct call206 (λw hw=>J0 _ (nw a+1-nw b) (nw a+1-nw b) (C6 (nw a+1-nw b) (a/b)) (Ef _ _) (by first|omega|(rw [Bk];omega)|simp|(simp;omega)) (by first|omega|simp|(simp;omega)) (by first|omega|simp|(simp;omega)) w (hw.get (i:=0) O)) O (zC (k:=67) (u:=(aG (Aa (a/b)))) O (by rw [F5 (UA Z hba)]) (AM O (Ct call206 (λw hw=>J0 _ (nw a+1) (nw a+1) (C6 (nw a+1) (a%b)) (Ef _ _) (by first|omega|(rw [Bk];omega)|simp|(simp;omega)) (by first|omega|simp|(simp;omega)) (by first|omega|simp|(simp;omega)) w (hw.get (i:=1) O)) O (zC (k:=69) (u:=(aG (Aa (a%b)))) O (by rw [F5 UE]) (Ek 5 (off:=0) (vs:=Aa (a/b)) (cs':=Aa (a/b)) (AJ O) O sizeOf71 O (Ek 4 (off:=0) (vs:=Aa (a%b)) (cs':=Aa (a%b)) (AJ O) O sizeOf71 O (asg' O (oNl' (zB (sL [2,3,4,5,6,7] O) (zA ?_)))))))))))
     exact zF (DD O (Ai (i:=5) (cs:=Aa (a/b)) O O isAgg71 sizeOf71 O) (Ai (i:=4) (cs:=Aa (a%b)) O O isAgg71 sizeOf71 O) (rd_tmp (v:=(qa true)) O) (λw hw=>⟨rfl,hw.out⟩))
theorem Z2 (a b:Nat) (ha:nw a<=1099511627776) (hb:nw b<=1099511627776) (w:World)  :Calls prog 201 #[(aG (Aa a)),(aG (Aa b))] w (Ak w (aG (Aa (Nat.gcd a b)))):=by
 refine Ab (args:=[(aG (Aa a)),(aG (Aa b))]) func201 O O (Av O) (zN (sL [0,1] O) (q4 (Bb (cs:=Aa a) O λb1=>Bb (cs:=Aa b) O λb2=>al Gf O λb3=>q6 (sL [2,3,4] O) (zI ?_))))
 refine yA (tg λ(x:Nat) (y:Nat)=>Nat.gcd x y=Nat.gcd a b/\nw x<=1099511627776/\nw y<=1099511627776) (tg λ(x:Nat) (y:Nat)=>[(2,(pP b1 0)),(3,(pP b2 0)),(4,(pP b3 0))]) (tg λ(x:Nat) (y:Nat)=>[AR b3 71 (Aa 0),AR b2 71 (Aa y),AR b1 71 (Aa x)]) (tg λ(x:Nat) (y:Nat)=>y) a b (⟨rfl,ha,hb⟩) (sF O) sr (λx y hJ=>?_)
 obtain ⟨hg,hx,hy⟩:=hJ
 refine zV (q4 (BD 1 CD O (ck' call241 (R9 y) O (AG (BQ (c:=(!(decide (y=0)))) O O) O (oNl' (zB (sL [2,3,4,10] O) (zA ?_)))))))
 refine zM O (λhc0=>?_) (λhc0=>?_)
 ·simp only [jK] at hc0
  refine zG (zA (zI (q4 (BD 2 CD O (BD 1 CD O (ck' call203 (Q_ x y Z Z Z) O (AM O (AG (AZ (v:=(aG (Aa (x/y)))) O O) O (AG (AZ (v:=(aG (Aa (x%y)))) O O) O (AG (AZ (v:=(qa true)) O O) O (al Gf O λb4=>?_)))))))))))
  refine al Gf O λb5=>EK O sizeOf71 O (Ax O sizeOf71 O (asg' O (oNl' (zB (sL [2,3,4,6] O) (zA (CQ [(1,true),(0,false),(2,false),(3,false)] (sk (sk (sk (sl (sl sr))))) (EC 0 CD O (zK O (BD 3 CD O (zD (sk (sk (sk (sl (sl sr))))) ?_))))))))))
  exact zK O (Ek 4 (off:=0) (vs:=Aa y) (cs':=Aa y) (AJ O) O sizeOf71 O (zD (sk (sk (sk (sl (sl sr))))) (zK O (I2 O sizeOf71 O (zD (sk (sk (sk (sl (sl sr))))) (zT (zB (sL [2,3,4,6] O) (zJ (zn y (x%y) (⟨by rw [<-hg,Nat.gcd_comm x y,Nat.gcd_rec y x,Nat.gcd_comm],hy,xK (DK (Nat.mod_le _ _)) hx⟩) (Nat.mod_lt _ Z) (sF O) (sl (sl sr)))))))))))
 ·simp only [jK] at hc0
  have hy0:y=0:=by omega
  have hxg:x=Nat.gcd a b:=by rw [<-hg,hy0,Nat.gcd_zero_right]
  exact zU (zP (zi (zS (q2 (BD 2 CD O (Ax O sizeOf71 O (oNl' (zB (sL [2,3,4] O) (zA (zF (ret_one O (Ai (i:=0) (cs:=Aa x) O O isAgg71 sizeOf71 O) (λw hw=>⟨by rw [hxg],hw.out⟩))))))))))))
end
def EM (neg:Bool) (n:Nat):Int:=if neg then -(n:Int) else (n:Int)
theorem VK (n:Nat):BA (EM true n)=Aa n++[.bool (!(decide (n=0)))]:=by
  simp only [BA,Aa,EM,if_true,Int.natAbs_neg,Int.natAbs_natCast,List.cons_append,List.nil_append]
  have e:decide (-(n:Int)<0)=!(decide (n=0)):=by
    by_cases h:n=0
    · subst h;rfl
    · simp [h];omega
  rw [e]
theorem WZ (n:Nat):BA (EM false n)=Aa n++[.bool false]:=by
  simp only [BA,Aa,EM,Int.natAbs_natCast,List.cons_append,List.nil_append]
  have e:decide ((n:Int)<0)=false:=by simp
  simp [e]
theorem VS (D a b:Nat):H0 prog (D+3) 73 (.agg (Aa a).toArray) (.agg (Aa b).toArray) (decide (a=b)):=by
  have h:=H0.struct (D:=D+2) (xs:=Aa a) (ys:=Aa b) underlying73 Tryz.stoodInHeld73 (Sl.agg (us:=Aa a) (bs:=Aa b) jY isAgg71 sizeOf71 rfl rfl (I1 D a b) Sl.nil)
  simpa using h
theorem A6 (neg:Bool) (n:Nat):(EM neg n).natAbs=n:=by cases neg<;>simp [EM]
theorem R7 (a:Int):EM (!(decide (a<0))) a.natAbs = -a:=by
  unfold EM
  by_cases h:a<0
  · simp [h];omega
  · simp [h];omega
theorem SF (a b:Int):EM (!(decide (a<0) == decide (b<0))) (a.natAbs*b.natAbs)=a*b:=by
  rw [<-Int.natAbs_mul]
  unfold EM
  by_cases h:a<0<;>by_cases h':b<0
  · have:=Int.mul_pos_of_neg_of_neg h h';simp [h,h'];omega
  · have:a*b<=0:=Int.mul_nonpos_of_nonpos_of_nonneg Z Z
    simp [h,h'];omega
  · have:a*b<=0:=Int.mul_nonpos_of_nonneg_of_nonpos Z Z
    simp [h,h'];omega
  · have:0<=a*b:=Int.mul_nonneg Z Z
    simp [h,h'];omega
theorem Ij {a b:Int} (h:(decide (a<0) == decide (b<0))=true):EM (decide (a<0)) (a.natAbs+b.natAbs)=a+b:=by
  unfold EM
  by_cases h1:a<0<;>by_cases h2:b<0<;>simp [h1,h2] at h ⊢<;>omega
theorem Kz {a b:Int} (h:(decide (a<0) == decide (b<0))=false) (h3:b.natAbs<=a.natAbs):EM (decide (a<0)) (a.natAbs-b.natAbs)=a+b:=by
  unfold EM
  by_cases h1:a<0<;>by_cases h2:b<0<;>simp [h1,h2] at h ⊢<;>omega
theorem L9 {a b:Int} (h:(decide (a<0) == decide (b<0))=false) (h3:¬b.natAbs<=a.natAbs):EM (decide (b<0)) (b.natAbs-a.natAbs)=a+b:=by
  unfold EM
  by_cases h1:a<0<;>by_cases h2:b<0<;>simp [h1,h2] at h ⊢<;>omega
theorem eH {z:Int} (h:z<0) (h2:-9223372036854775808<=z):IntKind.u64.wrap (-(IntKind.u64.wrap z))=((z.natAbs:Nat):Int):=by
  simp only [IntKind.wrap,IntKind.bits,IntKind.signed];simp;omega
theorem G8 {z:Int} (h:z<0):EM true z.natAbs=z:=by unfold EM;simp;omega
theorem Nk {z:Int} (h:¬z<0):EM false z.natAbs=z:=by unfold EM;simp;omega
end Go.Proofs.YtpolhpjiahbidaaGreatDoor
