import Derived.Test.YtpolhpjiahbidaaGreatDoorPart12
namespace Go.Proofs.YtpolhpjiahbidaaGreatDoor
open Go Go.RowKit Go.Proofs.Tryz
set_option linter.unusedVariables false
set_option linter.unusedSimpArgs false
theorem Hp {b:Nat} (h:0<nw b):4294967296^(nw b-1)<=b:=by
  rcases Nat.lt_or_ge b (4294967296^(nw b-1)) with h1|h1
  · have:=CW.2 h1;omega
  · exact h1
theorem NQ {b:Nat} (h:0<nw b):(AN b).getD (nw b-1) 0=b/4294967296^(nw b-1)/\0<(AN b).getD (nw b-1) 0/\(AN b).getD (nw b-1) 0<4294967296:=by
  have h1:=Hp h
  have h2:=Bh b
  have h3:b/4294967296^(nw b-1)<4294967296:=by
    rw [Nat.div_lt_iff_lt_mul (Nat.pow_pos Z)]
    have:4294967296^nw b=4294967296*4294967296^(nw b-1):=by rw [<-Nat.pow_succ',show (nw b-1).succ=nw b by omega]
    omega
  have h4:0<b/4294967296^(nw b-1):=Nat.div_pos h1 (Nat.pow_pos Z)
  have h5:(AN b).getD (nw b-1) 0=b/4294967296^(nw b-1):=by rw [HF,Nat.mod_eq_of_lt h3]
  exact ⟨h5,by rw [h5];exact h4,by rw [h5];exact h3⟩
theorem XP {b s:Nat} (h:0<nw b) (hs:s=32-bl ((AN b).getD (nw b-1) 0)):s<32/\2147483648*4294967296^(nw b-1)<=b*2^s/\b*2^s<4294967296^nw b:=by
  obtain ⟨h1,h2,h3⟩:=NQ h
  obtain ⟨k1,k2,k3,k4⟩:=Rf h2 h3
  rw [<-hs] at k3 k4
  have hs32:s<32:=by omega
  have hp:0<4294967296^(nw b-1):=Nat.pow_pos Z
  have e:4294967296^nw b=4294967296*4294967296^(nw b-1):=by rw [<-Nat.pow_succ',show (nw b-1).succ=nw b by omega]
  rw [e]
  rw [h1] at k3 k4
  have m:=Nat.div_add_mod b (4294967296^(nw b-1))
  have ml:=Nat.mod_lt b hp
  generalize b/4294967296^(nw b-1)=y at *
  generalize b%4294967296^(nw b-1)=r at *
  generalize 4294967296^(nw b-1)=p at *
  have h32:(4294967296:Nat)=2^(32-s)*2^s:=by rw [<-Nat.pow_add,show 32-s+s=32 by omega]
  have k5:(y+1)*2^s<=4294967296:=by
    rw [h32] at k4 ⊢
    exact Nat.mul_le_mul_right _ (Nat.lt_of_mul_lt_mul_right k4)
  refine ⟨hs32,?_,?_⟩
  · have:2147483648*p<=y*2^s*p:=Nat.mul_le_mul_right _ k3
    have e2:b*2^s=y*2^s*p+r*2^s:=by rw [<-m];grind
    omega
  · have:(y+1)*2^s*p<=4294967296*p:=Nat.mul_le_mul_right _ k5
    have e2:b<(y+1)*p:=by rw [Nat.add_mul,Nat.one_mul,Nat.mul_comm y];omega
    have e3:b*2^s<(y+1)*p*2^s:=Nat.mul_lt_mul_of_pos_right e2 (Nat.pow_pos Z)
    have e4:(y+1)*p*2^s=(y+1)*2^s*p:=by rw [Nat.mul_right_comm]
    omega
theorem Qu {xs:List Nat} {j:Nat} (h:W32 xs):xs.getD (j+1) 0*4294967296+xs.getD j 0=val xs/4294967296^j%18446744073709551616:=by
  rw [GT xs _ h,GT xs _ h,Nat.pow_succ,<-Nat.div_div_eq_div_mul]
  omega
theorem QA {xs:List Nat} {j:Nat} (h:W32 xs) (hv:val xs<4294967296^(j+2)):xs.getD (j+1) 0*4294967296+xs.getD j 0=val xs/4294967296^j:=by
  rw [Qu h,Nat.mod_eq_of_lt]
  rw [Nat.div_lt_iff_lt_mul (Nat.pow_pos Z)]
  rw [Nat.pow_succ,Nat.pow_succ] at hv
  omega
structure PI (vb:List Nat) (n V:Nat):Prop where
  w32:W32 vb
  len:vb.length=n+1
  two:2<=n
  val_:val vb=V
  low:2147483648*4294967296^(n-1)<=V
  high:V<4294967296^n
theorem PI.take {vb:List Nat} {n V:Nat} (h:PI vb n V):val (vb.take n)=V:=by rw [Je (by rw [h.val_];exact h.high),h.val_]
theorem PI.top {vb:List Nat} {n V:Nat} (h:PI vb n V):vb.getD (n-1) 0*4294967296+vb.getD (n-2) 0=V/4294967296^(n-2)/\2147483648<=vb.getD (n-1) 0/\vb.getD (n-1) 0<4294967296:=by
  have h2:=h.two
  have e:=QA (j:=n-2) h.w32 (by rw [show n-2+2=n by omega,h.val_];exact h.high)
  rw [show n-2+1=n-1 by omega,h.val_] at e
  refine ⟨e,?_,h.w32.getD _⟩
  rw [GT _ _ h.w32,h.val_,Nat.mod_eq_of_lt]
  · rw [Nat.le_div_iff_mul_le (Nat.pow_pos Z)];exact h.low
  · rw [Nat.div_lt_iff_lt_mul (Nat.pow_pos Z)]
    have:4294967296^n=4294967296*4294967296^(n-1):=by rw [<-Nat.pow_succ',show (n-1).succ=n by omega]
    have:=h.high
    omega
theorem PI.parts {vb:List Nat} {n V:Nat} (h:PI vb n V):V=(vb.getD (n-1) 0*4294967296+vb.getD (n-2) 0)*4294967296^(n-2)+V%4294967296^(n-2)/\V%4294967296^(n-2)<4294967296^(n-2):=by
  rw [h.top.1]
  refine ⟨?_,Nat.mod_lt _ (Nat.pow_pos Z)⟩
  have:=Nat.div_add_mod V (4294967296^(n-2))
  rw [Nat.mul_comm];omega
structure U_ (us:List Nat) (V k n W top u2:Nat):Prop where
  w:W=val us/4294967296^k
  lt:W<V*4294967296
  low:(top*4294967296+u2)*4294967296^(n-2)<=W
  high:W<(top*4294967296+u2+1)*4294967296^(n-2)
  topb:top<18446744073709551616
  fits:val us<4294967296^(k+n+1)
theorem X9 {us vb:List Nat} {V k n:Nat} (hn:PI vb n V) (hu:W32 us) (hR:val us<V*4294967296^(k+1)) :
    U_ us V k n (val us/4294967296^k) (us.getD (k+n) 0*4294967296+us.getD (k+n-1) 0) (us.getD (k+n-2) 0):=by
  have h2:=hn.two
  have hp:0<4294967296^k:=Nat.pow_pos Z
  have hfit:val us<4294967296^(k+n+1):=by
    have h1:V*4294967296^(k+1)<4294967296^n*4294967296^(k+1):=Nat.mul_lt_mul_of_pos_right hn.high (Nat.pow_pos Z)
    rw [<-Nat.pow_add,show n+(k+1)=k+n+1 by omega] at h1
    omega
  have e1:=QA (xs:=us) (j:=k+n-1) hu (by rw [show k+n-1+2=k+n+1 by omega];exact hfit)
  rw [show k+n-1+1=k+n by omega] at e1
  have e3:us.getD (k+n-2) 0=val us/4294967296^(k+n-2)%4294967296:=GT _ _ hu
  have e4:val us/4294967296^(k+n-1)=val us/4294967296^(k+n-2)/4294967296:=by
    rw [Nat.div_div_eq_div_mul,<-Nat.pow_succ,show (k+n-2).succ=k+n-1 by omega]
  have e5:(us.getD (k+n) 0*4294967296+us.getD (k+n-1) 0)*4294967296+us.getD (k+n-2) 0=val us/4294967296^k/4294967296^(n-2):=by
    have e6:val us/4294967296^k/4294967296^(n-2)=val us/4294967296^(k+n-2):=by rw [Nat.div_div_eq_div_mul,<-Nat.pow_add,show k+(n-2)=k+n-2 by omega]
    rw [e1,e3,e4,e6]
    exact Nat.div_add_mod' _ _
  have w1:=hu.getD (k+n)
  have w2:=hu.getD (k+n-1)
  refine ⟨rfl,?_,?_,?_,Z,hfit⟩
  · rw [Nat.div_lt_iff_lt_mul hp]
    rw [Nat.pow_succ] at hR
    have:V*(4294967296^k*4294967296)=V*4294967296*4294967296^k:=by grind
    omega
  · rw [e5];exact Nat.div_mul_le_self _ _
  · rw [e5,Nat.mul_comm];exact Nat.lt_mul_div_succ _ (Nat.pow_pos Z)
theorem U_.quo_lt {us:List Nat} {V k n W top u2:Nat} (h:U_ us V k n W top u2) (hV:0<V):W/V<4294967296:=by
  rw [Nat.div_lt_iff_lt_mul hV,Nat.mul_comm];exact h.lt
theorem PI.pos {vb:List Nat} {n V:Nat} (h:PI vb n V):0<V:=by
  have:=h.low
  have:=Nat.pow_pos (n:=n-1) (show 0<4294967296 by omega)
  omega
theorem NH {us vb:List Nat} {V k n W top u2:Nat} (hn:PI vb n V) (h:U_ us V k n W top u2) (hu2:u2<4294967296):Hr V W (vb.getD (n-1) 0) top (top/vb.getD (n-1) 0) (top%vb.getD (n-1) 0):=by
  have hp:0<4294967296^(n-2):=Nat.pow_pos Z
  refine PZ (p:=4294967296^(n-2)) (v2:=vb.getD (n-2) 0) (u2:=u2) hp hn.parts.1 (hn.w32.getD _) hn.parts.2 ?_ (by have:=hn.top;omega)
  have h1:=h.high
  have h2:(top*4294967296+u2+1)*4294967296^(n-2)<=((top+1)*4294967296)*4294967296^(n-2):=Nat.mul_le_mul_right _ Z
  rw [<-Nat.mul_assoc]
  omega
theorem KY {us vb:List Nat} {V k n W top u2 d r:Nat} (hn:PI vb n V) (h:U_ us V k n W top u2) (hg:Hr V W (vb.getD (n-1) 0) top d r) (ht:¬(d<=4294967295/\d*vb.getD (n-2) 0<=r*4294967296+u2)) :
    Hr V W (vb.getD (n-1) 0) top (d-1) (r+vb.getD (n-1) 0)/\0<d :=
  OU hg (Nat.pow_pos Z) hn.parts.1 (by have:=hn.top;omega) h.high (h.quo_lt hn.pos) ht
theorem Jq {us vb:List Nat} {V k n W top u2 d r:Nat} (hn:PI vb n V) (h:U_ us V k n W top u2) (hg:Hr V W (vb.getD (n-1) 0) top d r) (he:4294967295<r\/(d<=4294967295/\d*vb.getD (n-2) 0<=r*4294967296+u2)) :
    d<=4294967295/\(d=W/V\/d=W/V+1) :=
  PS hg (Nat.pow_pos Z) hn.parts.1 hn.parts.2 (by have:=hn.top;omega) (hn.w32.getD _) h.low h.lt (hn.w32.getD _) he
theorem PJ {us vb:List Nat} {V k n W top u2 d:Nat} (hn:PI vb n V) (h:U_ us V k n W top u2) (hd:d=W/V\/d=W/V+1) (hl:¬val us<d*V*4294967296^k):d=W/V/\val us+0-d*V*4294967296^k=val us-W/V*V*4294967296^k:=by
  have e:d=W/V:=by
    rcases hd with hd|hd
    · exact hd
    · exfalso
      refine hl ?_
      have h1:W<d*V:=by rw [hd];exact (Nat.div_lt_iff_lt_mul hn.pos).1 (Nat.lt_succ_self _)
      have h2:val us<(W+1)*4294967296^k:=by
        rw [h.w,Nat.mul_comm];exact Nat.lt_mul_div_succ _ (Nat.pow_pos Z)
      have h3:(W+1)*4294967296^k<=d*V*4294967296^k:=Nat.mul_le_mul_right _ h1
      omega
  exact ⟨e,by rw [e];rfl⟩
theorem Ow {us vb:List Nat} {V k n W top u2:Nat} (h:U_ us V k n W top u2):W/V*V*4294967296^k<=val us:=by
  have h1:W/V*V*4294967296^k<=W*4294967296^k:=Nat.mul_le_mul_right _ (Nat.div_mul_le_self _ _)
  have h2:W*4294967296^k<=val us:=by rw [h.w];exact Nat.div_mul_le_self _ _
  omega
theorem PQ {us vb:List Nat} {V k n W top u2 d:Nat} (h:U_ us V k n W top u2) (hd:d=W/V\/d=W/V+1) (hl:val us<d*V*4294967296^k):d=W/V+1/\d*V*4294967296^k=W/V*V*4294967296^k+V*4294967296^k:=by
  have hq:=Ow (vb:=vb) h
  have e:d=W/V+1:=by
    rcases hd with hd|hd
    · subst hd;omega
    · exact hd
  exact ⟨e,by rw [e,Nat.add_mul,Nat.add_mul,Nat.one_mul]⟩
theorem Q8 {os vb:List Nat} {U i k n c:Nat} (hl:os.length=n) (hi:k+i<n) (hv:val os+c*4294967296^(k+i)=U+val (vb.take i)*4294967296^k) :
    val (os.set (k+i) ((os.getD (k+i) 0+vb.getD i 0+c)%4294967296))+(os.getD (k+i) 0+vb.getD i 0+c)/4294967296*4294967296^(k+(i+1))=U+val (vb.take (i+1))*4294967296^k:=by
  have e:=E2 (xs:=os) (i:=k+i) Z ((os.getD (k+i) 0+vb.getD i 0+c)%4294967296)
  have t:=BS vb i
  have hm:=Nat.div_add_mod (os.getD (k+i) 0+vb.getD i 0+c) 4294967296
  rw [t,show k+(i+1)=k+i+1 by omega,Nat.pow_succ]
  rw [Nat.pow_add] at *
  generalize os.getD (k+i) 0=o at *
  generalize vb.getD i 0=y at *
  generalize (o+y+c)/4294967296=q at *
  generalize (o+y+c)%4294967296=r at *
  generalize 4294967296^i=p at *
  generalize 4294967296^k=p' at *
  generalize val (vb.take i)=v at *
  have hm2:(4294967296*q+r)*(p'*p)=(o+y+c)*(p'*p):=by rw [hm]
  grind
theorem Rj {os:List Nat} {T P p N c:Nat} (hl:os.length=N) (hp:p<N) (hw:W32 os) (hc:c<=1) (hz:∀j,p+1<=j->os.getD j 0=0) (hP:P=4294967296^(p+1)) (hv:val os+c*4294967296^p=T+P) (hT:T<P) :
    val (os.set p ((os.getD p 0+c)%4294967296))=T:=by
  have e:=E2 (xs:=os) (i:=p) Z ((os.getD p 0+c)%4294967296)
  have hw2:W32 (os.set p ((os.getD p 0+c)%4294967296)):=hw.set Z _
  have ho:=hw.getD p
  have hlt:∀xs:List Nat,W32 xs->xs.length=N->(∀j,p+1<=j->xs.getD j 0=0)->val xs<P:=λxs hx hxl hxz=>by
    have h1:=Eg xs (p+1) Z
    have h2:val (xs.drop (p+1))=0:=by
      have:xs.drop (p+1)=List.replicate (N-(p+1)) 0:=by
        apply List.ext_getElem (by simp [hxl])
        intro j h1 h2
        have:=hxz (p+1+j) Z
        simp [List.getD_eq_getElem?_getD] at this h1
        simp
        have h3:p+1+j<xs.length:=by omega
        simpa [h3] using this
      rw [this,Dw]
    rw [h2] at h1
    have h3:=GA (hx.take (p+1))
    rw [List.length_take,Nat.min_eq_left Z] at h3
    omega
  have b2:=hlt _ hw2 (by rw [List.length_set];exact hl) (FS hz Z)
  rw [hP,Nat.pow_succ] at *
  generalize val (os.set p ((os.getD p 0+c)%4294967296))=v' at *
  generalize os.getD p 0=o at *
  generalize 4294967296^p=z at *
  by_cases h:o+c<4294967296
  · rw [Nat.mod_eq_of_lt h,Nat.add_mul] at e
    omega
  · have h1:o+c=4294967296:=by omega
    rw [h1,Nat.mod_self] at e
    have h2:o*z+c*z=4294967296*z:=by rw [<-Nat.add_mul,h1]
    omega
theorem Pe {us us2 vb qs:List Nat} {V k n W top u2 A m:Nat} (hn:PI vb n V) (h:U_ us V k n W top u2) (hv2:val us2=val us-W/V*V*4294967296^k) (hA:A=val qs*V+val us) (hl:qs.length=m) (hk:k<m) (h0:qs.getD k 0=0) :
    val us2<V*4294967296^k/\A=val (qs.set k (W/V))*V+val us2:=by
  have hq:=Ow (vb:=vb) h
  have hm:=Nat.div_add_mod W V
  have hml:=Nat.mod_lt W hn.pos
  have hp:0<4294967296^k:=Nat.pow_pos Z
  have hk1:=Nat.div_add_mod (val us) (4294967296^k)
  have hk2:=Nat.mod_lt (val us) hp
  rw [<-h.w] at hk1
  constructor
  · have h1:(W%V+1)*4294967296^k<=V*4294967296^k:=Nat.mul_le_mul_right _ hml
    have h2:W*4294967296^k=W/V*V*4294967296^k+W%V*4294967296^k:=by
      rw [<-Nat.add_mul,Nat.mul_comm (W/V)]
      rw [hm]
    rw [Nat.add_mul,Nat.one_mul] at h1
    rw [Nat.mul_comm] at hk1
    omega
  · rw [HT hl hk h0,Nat.add_mul,hA,hv2]
    have:W/V*4294967296^k*V=W/V*V*4294967296^k:=by rw [Nat.mul_right_comm]
    omega
theorem RO {a b s q r:Nat} (hb:0<b) (h:a*2^s=q*(b*2^s)+r) (hr:r<b*2^s):q=a/b/\r=a%b*2^s:=by
  have hp:0<2^s:=Nat.pow_pos Z
  have h1:a*2^s/(b*2^s)=q/\a*2^s%(b*2^s)=r:=by
    have e:a*2^s=r+b*2^s*q:=by rw [h,Nat.mul_comm q];omega
    rw [e]
    constructor
    · rw [Nat.add_mul_div_left _ _ Z,Nat.div_eq_of_lt hr];omega
    · rw [Nat.add_mul_mod_self_left,Nat.mod_eq_of_lt hr]
  rw [Nat.mul_div_mul_right _ _ hp,Nat.mul_mod_mul_right] at h1
  exact ⟨h1.1.symm,h1.2.symm⟩
theorem O9 {a b s n m:Nat} (hn:n=nw b) (hb:0<nw b) (hs:s<32) (hV:2147483648*4294967296^(nw b-1)<=b*2^s) (hm:m=nw a+1-nw b) (hba:nw b<=nw a):a*2^s<b*2^s*4294967296^m:=by
  have h1:=Bh a
  have h2:(2:Nat)^s<=2^31:=Nat.pow_le_pow_right Z Z
  have h3:a*2^s<=a*2147483648:=Nat.mul_le_mul_left _ h2
  have h4:a*2147483648<4294967296^nw a*2147483648:=Nat.mul_lt_mul_of_pos_right h1 Z
  have h5:2147483648*4294967296^(nw b-1)*4294967296^m<=b*2^s*4294967296^m:=Nat.mul_le_mul_right _ hV
  have h6:2147483648*4294967296^(nw b-1)*4294967296^m=4294967296^nw a*2147483648:=by
    rw [Nat.mul_assoc,<-Nat.pow_add,show nw b-1+m=nw a by omega,Nat.mul_comm]
  omega
theorem BD.apart {w0:A_} {w:World} {L:List As} (h:BD w0 w L) {i j b b':Nat} {T T':TypeId} {cs cs':List Value} (hij:i<j) (hi:L[i]?=some (AU b T cs)) (hj:L[j]?=some (AU b' T' cs')):b≠b':=by
  have hp:=h.2.2
  obtain ⟨h1,e1⟩:=List.getElem?_eq_some_iff.1 hi
  obtain ⟨h2,e2⟩:=List.getElem?_eq_some_iff.1 hj
  have:=(List.pairwise_iff_getElem.1 hp i j h1 h2 hij).resolve_left (λk=>by have:=k.1;rw [e1] at this;cases this) b (by rw [e1])
  rw [e2] at this
  exact λe=>this (by rw [e])
end Go.Proofs.YtpolhpjiahbidaaGreatDoor
