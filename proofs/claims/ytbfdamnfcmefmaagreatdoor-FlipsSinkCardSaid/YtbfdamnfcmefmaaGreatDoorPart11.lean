import Derived.Test.YtbfdamnfcmefmaaGreatDoorPart10
namespace Go.Proofs.YtbfdamnfcmefmaaGreatDoor
open Go Go.RowKit Go.Proofs.Tryz
open Go.Value renaming slice→qz,bool→qa
set_option linter.unusedVariables false
set_option linter.unusedSimpArgs false
theorem Is {b:Nat} (h:0<nw b):4294967296^(nw b-1)<=b:=by
  rcases Nat.lt_or_ge b (4294967296^(nw b-1)) with h1|h1
  · have:=Cx.2 h1;omega
  · exact h1
theorem Pe {b:Nat} (h:0<nw b):(AN b).getD (nw b-1) 0=b/4294967296^(nw b-1)/\0<(AN b).getD (nw b-1) 0/\(AN b).getD (nw b-1) 0<4294967296:=by
  have h1:=Is h
  have h2:=CE b
  have h3:b/4294967296^(nw b-1)<4294967296:=by
    rw [Nat.div_lt_iff_lt_mul (Nat.pow_pos Z)]
    have:4294967296^nw b=4294967296*4294967296^(nw b-1):=by rw [<-Nat.pow_succ',show (nw b-1).succ=nw b by omega]
    omega
  have h4:0<b/4294967296^(nw b-1):=Nat.div_pos h1 (Nat.pow_pos Z)
  have h5:(AN b).getD (nw b-1) 0=b/4294967296^(nw b-1):=by rw [IP,Nat.mod_eq_of_lt h3]
  exact ⟨h5,by rw [h5];exact h4,by rw [h5];exact h3⟩
theorem aB {b s:Nat} (h:0<nw b) (hs:s=32-bl ((AN b).getD (nw b-1) 0)):s<32/\2147483648*4294967296^(nw b-1)<=b*2^s/\b*2^s<4294967296^nw b:=by
  obtain ⟨h1,h2,h3⟩:=Pe h
  obtain ⟨k1,k2,k3,k4⟩:=Ss h2 h3
  rw [<-hs] at k3 k4
  have hs32:s<32:=by omega
  have hp:0<4294967296^(nw b-1):=Nat.pow_pos Z
  have e:4294967296^nw b=4294967296*4294967296^(nw b-1):=by rw [<-Nat.pow_succ',show (nw b-1).succ=nw b by omega]
  rw [e]
  rw [h1] at k3 k4
  have m:=Nat.div_add_mod b (4294967296^(nw b-1))
  have ml:=Nat.mod_lt b hp
  generalize b/4294967296^(nw b-1)=y at *
  generalize b%4294967296^(nw b-1)=r at *
  generalize 4294967296^(nw b-1)=p at *
  have h32:(4294967296:Nat)=2^(32-s)*2^s:=by rw [<-Nat.pow_add,show 32-s+s=32 by omega]
  have k5:(y+1)*2^s<=4294967296:=by
    rw [h32] at k4 ⊢
    exact Nat.mul_le_mul_right _ (Nat.lt_of_mul_lt_mul_right k4)
  refine ⟨hs32,?_,?_⟩
  · have:2147483648*p<=y*2^s*p:=Nat.mul_le_mul_right _ k3
    have e2:b*2^s=y*2^s*p+r*2^s:=by rw [<-m];grind
    omega
  · have:(y+1)*2^s*p<=4294967296*p:=Nat.mul_le_mul_right _ k5
    have e2:b<(y+1)*p:=by rw [Nat.add_mul,Nat.one_mul,Nat.mul_comm y];omega
    have e3:b*2^s<(y+1)*p*2^s:=Nat.mul_lt_mul_of_pos_right e2 (Nat.pow_pos Z)
    have e4:(y+1)*p*2^s=(y+1)*2^s*p:=by rw [Nat.mul_right_comm]
    omega
theorem TW {xs:List Nat} {j:Nat} (h:W32 xs):xs.getD (j+1) 0*4294967296+xs.getD j 0=val xs/4294967296^j%18446744073709551616:=by
  rw [HF xs _ h,HF xs _ h,Nat.pow_succ,<-Nat.div_div_eq_div_mul]
  omega
theorem R_ {xs:List Nat} {j:Nat} (h:W32 xs) (hv:val xs<4294967296^(j+2)):xs.getD (j+1) 0*4294967296+xs.getD j 0=val xs/4294967296^j:=by
  rw [TW h,Nat.mod_eq_of_lt]
  rw [Nat.div_lt_iff_lt_mul (Nat.pow_pos Z)]
  rw [Nat.pow_succ,Nat.pow_succ] at hv
  omega
structure P0 (vb:List Nat) (n V:Nat):Prop where
  w32:W32 vb
  len:vb.length=n+1
  two:2<=n
  val_:val vb=V
  low:2147483648*4294967296^(n-1)<=V
  high:V<4294967296^n
theorem P0.take {vb:List Nat} {n V:Nat} (h:P0 vb n V):val (vb.take n)=V:=by rw [MH (by rw [h.val_];exact h.high),h.val_]
theorem P0.top {vb:List Nat} {n V:Nat} (h:P0 vb n V):vb.getD (n-1) 0*4294967296+vb.getD (n-2) 0=V/4294967296^(n-2)/\2147483648<=vb.getD (n-1) 0/\vb.getD (n-1) 0<4294967296:=by
  have h2:=h.two
  have e:=R_ (j:=n-2) h.w32 (by rw [show n-2+2=n by omega,h.val_];exact h.high)
  rw [show n-2+1=n-1 by omega,h.val_] at e
  refine ⟨e,?_,h.w32.getD _⟩
  rw [HF _ _ h.w32,h.val_,Nat.mod_eq_of_lt]
  · rw [Nat.le_div_iff_mul_le (Nat.pow_pos Z)];exact h.low
  · rw [Nat.div_lt_iff_lt_mul (Nat.pow_pos Z)]
    have:4294967296^n=4294967296*4294967296^(n-1):=by rw [<-Nat.pow_succ',show (n-1).succ=n by omega]
    have:=h.high
    omega
theorem P0.parts {vb:List Nat} {n V:Nat} (h:P0 vb n V):V=(vb.getD (n-1) 0*4294967296+vb.getD (n-2) 0)*4294967296^(n-2)+V%4294967296^(n-2)/\V%4294967296^(n-2)<4294967296^(n-2):=by
  rw [h.top.1]
  refine ⟨?_,Nat.mod_lt _ (Nat.pow_pos Z)⟩
  have:=Nat.div_add_mod V (4294967296^(n-2))
  rw [Nat.mul_comm];omega
structure W7 (us:List Nat) (V k n W top u2:Nat):Prop where
  w:W=val us/4294967296^k
  lt:W<V*4294967296
  low:(top*4294967296+u2)*4294967296^(n-2)<=W
  high:W<(top*4294967296+u2+1)*4294967296^(n-2)
  topb:top<18446744073709551616
  fits:val us<4294967296^(k+n+1)
theorem ay {us vb:List Nat} {V k n:Nat} (hn:P0 vb n V) (hu:W32 us) (hR:val us<V*4294967296^(k+1)) :
    W7 us V k n (val us/4294967296^k) (us.getD (k+n) 0*4294967296+us.getD (k+n-1) 0) (us.getD (k+n-2) 0):=by
  have h2:=hn.two
  have hp:0<4294967296^k:=Nat.pow_pos Z
  have hfit:val us<4294967296^(k+n+1):=by
    have h1:V*4294967296^(k+1)<4294967296^n*4294967296^(k+1):=Nat.mul_lt_mul_of_pos_right hn.high (Nat.pow_pos Z)
    rw [<-Nat.pow_add,show n+(k+1)=k+n+1 by omega] at h1
    omega
  have e1:=R_ (xs:=us) (j:=k+n-1) hu (by rw [show k+n-1+2=k+n+1 by omega];exact hfit)
  rw [show k+n-1+1=k+n by omega] at e1
  have e3:us.getD (k+n-2) 0=val us/4294967296^(k+n-2)%4294967296:=HF _ _ hu
  have e4:val us/4294967296^(k+n-1)=val us/4294967296^(k+n-2)/4294967296:=by
    rw [Nat.div_div_eq_div_mul,<-Nat.pow_succ,show (k+n-2).succ=k+n-1 by omega]
  have e5:(us.getD (k+n) 0*4294967296+us.getD (k+n-1) 0)*4294967296+us.getD (k+n-2) 0=val us/4294967296^k/4294967296^(n-2):=by
    have e6:val us/4294967296^k/4294967296^(n-2)=val us/4294967296^(k+n-2):=by rw [Nat.div_div_eq_div_mul,<-Nat.pow_add,show k+(n-2)=k+n-2 by omega]
    rw [e1,e3,e4,e6]
    exact Nat.div_add_mod' _ _
  have w1:=hu.getD (k+n)
  have w2:=hu.getD (k+n-1)
  refine ⟨rfl,?_,?_,?_,Z,hfit⟩
  · rw [Nat.div_lt_iff_lt_mul hp]
    rw [Nat.pow_succ] at hR
    have:V*(4294967296^k*4294967296)=V*4294967296*4294967296^k:=by grind
    omega
  · rw [e5];exact Nat.div_mul_le_self _ _
  · rw [e5,Nat.mul_comm];exact Nat.lt_mul_div_succ _ (Nat.pow_pos Z)
theorem W7.quo_lt {us:List Nat} {V k n W top u2:Nat} (h:W7 us V k n W top u2) (hV:0<V):W/V<4294967296:=by
  rw [Nat.div_lt_iff_lt_mul hV,Nat.mul_comm];exact h.lt
theorem P0.pos {vb:List Nat} {n V:Nat} (h:P0 vb n V):0<V:=by
  have:=h.low
  have:=Nat.pow_pos (n:=n-1) (show 0<4294967296 by omega)
  omega
theorem O9 {us vb:List Nat} {V k n W top u2:Nat} (hn:P0 vb n V) (h:W7 us V k n W top u2) (hu2:u2<4294967296):IW V W (vb.getD (n-1) 0) top (top/vb.getD (n-1) 0) (top%vb.getD (n-1) 0):=by
  have hp:0<4294967296^(n-2):=Nat.pow_pos Z
  refine QK (p:=4294967296^(n-2)) (v2:=vb.getD (n-2) 0) (u2:=u2) hp hn.parts.1 (hn.w32.getD _) hn.parts.2 ?_ (by have:=hn.top;omega)
  have h1:=h.high
  have h2:(top*4294967296+u2+1)*4294967296^(n-2)<=((top+1)*4294967296)*4294967296^(n-2):=Nat.mul_le_mul_right _ Z
  rw [<-Nat.mul_assoc]
  omega
theorem Lf {us vb:List Nat} {V k n W top u2 d r:Nat} (hn:P0 vb n V) (h:W7 us V k n W top u2) (hg:IW V W (vb.getD (n-1) 0) top d r) (ht:¬(d<=4294967295/\d*vb.getD (n-2) 0<=r*4294967296+u2)) :
    IW V W (vb.getD (n-1) 0) top (d-1) (r+vb.getD (n-1) 0)/\0<d :=
  QL hg (Nat.pow_pos Z) hn.parts.1 (by have:=hn.top;omega) h.high (h.quo_lt hn.pos) ht
theorem LZ {us vb:List Nat} {V k n W top u2 d r:Nat} (hn:P0 vb n V) (h:W7 us V k n W top u2) (hg:IW V W (vb.getD (n-1) 0) top d r) (he:4294967295<r\/(d<=4294967295/\d*vb.getD (n-2) 0<=r*4294967296+u2)) :
    d<=4294967295/\(d=W/V\/d=W/V+1) :=
  QJ hg (Nat.pow_pos Z) hn.parts.1 hn.parts.2 (by have:=hn.top;omega) (hn.w32.getD _) h.low h.lt (hn.w32.getD _) he
theorem QT {us vb:List Nat} {V k n W top u2 d:Nat} (hn:P0 vb n V) (h:W7 us V k n W top u2) (hd:d=W/V\/d=W/V+1) (hl:¬val us<d*V*4294967296^k):d=W/V/\val us+0-d*V*4294967296^k=val us-W/V*V*4294967296^k:=by
  have e:d=W/V:=by
    rcases hd with hd|hd
    · exact hd
    · exfalso
      refine hl ?_
      have h1:W<d*V:=by rw [hd];exact (Nat.div_lt_iff_lt_mul hn.pos).1 (Nat.lt_succ_self _)
      have h2:val us<(W+1)*4294967296^k:=by
        rw [h.w,Nat.mul_comm];exact Nat.lt_mul_div_succ _ (Nat.pow_pos Z)
      have h3:(W+1)*4294967296^k<=d*V*4294967296^k:=Nat.mul_le_mul_right _ h1
      omega
  exact ⟨e,by rw [e];rfl⟩
theorem Ql {us vb:List Nat} {V k n W top u2:Nat} (h:W7 us V k n W top u2):W/V*V*4294967296^k<=val us:=by
  have h1:W/V*V*4294967296^k<=W*4294967296^k:=Nat.mul_le_mul_right _ (Nat.div_mul_le_self _ _)
  have h2:W*4294967296^k<=val us:=by rw [h.w];exact Nat.div_mul_le_self _ _
  omega
theorem QU {us vb:List Nat} {V k n W top u2 d:Nat} (h:W7 us V k n W top u2) (hd:d=W/V\/d=W/V+1) (hl:val us<d*V*4294967296^k):d=W/V+1/\d*V*4294967296^k=W/V*V*4294967296^k+V*4294967296^k:=by
  have hq:=Ql (vb:=vb) h
  have e:d=W/V+1:=by
    rcases hd with hd|hd
    · subst hd;omega
    · exact hd
  exact ⟨e,by rw [e,Nat.add_mul,Nat.add_mul,Nat.one_mul]⟩
theorem SO {os vb:List Nat} {U i k n c:Nat} (hl:os.length=n) (hi:k+i<n) (hv:val os+c*4294967296^(k+i)=U+val (vb.take i)*4294967296^k) :
    val (os.set (k+i) ((os.getD (k+i) 0+vb.getD i 0+c)%4294967296))+(os.getD (k+i) 0+vb.getD i 0+c)/4294967296*4294967296^(k+(i+1))=U+val (vb.take (i+1))*4294967296^k:=by
  have e:=Fg (xs:=os) (i:=k+i) Z ((os.getD (k+i) 0+vb.getD i 0+c)%4294967296)
  have t:=BY vb i
  have hm:=Nat.div_add_mod (os.getD (k+i) 0+vb.getD i 0+c) 4294967296
  rw [t,show k+(i+1)=k+i+1 by omega,Nat.pow_succ]
  rw [Nat.pow_add] at *
  generalize os.getD (k+i) 0=o at *
  generalize vb.getD i 0=y at *
  generalize (o+y+c)/4294967296=q at *
  generalize (o+y+c)%4294967296=r at *
  generalize 4294967296^i=p at *
  generalize 4294967296^k=p' at *
  generalize val (vb.take i)=v at *
  have hm2:(4294967296*q+r)*(p'*p)=(o+y+c)*(p'*p):=by rw [hm]
  grind
theorem SN {os:List Nat} {T P p N c:Nat} (hl:os.length=N) (hp:p<N) (hw:W32 os) (hc:c<=1) (hz:∀j,p+1<=j->os.getD j 0=0) (hP:P=4294967296^(p+1)) (hv:val os+c*4294967296^p=T+P) (hT:T<P) :
    val (os.set p ((os.getD p 0+c)%4294967296))=T:=by
  have e:=Fg (xs:=os) (i:=p) Z ((os.getD p 0+c)%4294967296)
  have hw2:W32 (os.set p ((os.getD p 0+c)%4294967296)):=hw.set Z _
  have ho:=hw.getD p
  have hlt:∀xs:List Nat,W32 xs->xs.length=N->(∀j,p+1<=j->xs.getD j 0=0)->val xs<P:=λxs hx hxl hxz=>by
    have h1:=E8 xs (p+1) Z
    have h2:val (xs.drop (p+1))=0:=by
      have:xs.drop (p+1)=List.replicate (N-(p+1)) 0:=by
        apply List.ext_getElem (by simp [hxl])
        intro j h1 h2
        have:=hxz (p+1+j) Z
        simp [List.getD_eq_getElem?_getD] at this h1
        simp
        have h3:p+1+j<xs.length:=by omega
        simpa [h3] using this
      rw [this,EU]
    rw [h2] at h1
    have h3:=HG (hx.take (p+1))
    rw [List.length_take,Nat.min_eq_left Z] at h3
    omega
  have b2:=hlt _ hw2 (by rw [List.length_set];exact hl) (F7 hz Z)
  rw [hP,Nat.pow_succ] at *
  generalize val (os.set p ((os.getD p 0+c)%4294967296))=v' at *
  generalize os.getD p 0=o at *
  generalize 4294967296^p=z at *
  by_cases h:o+c<4294967296
  · rw [Nat.mod_eq_of_lt h,Nat.add_mul] at e
    omega
  · have h1:o+c=4294967296:=by omega
    rw [h1,Nat.mod_self] at e
    have h2:o*z+c*z=4294967296*z:=by rw [<-Nat.add_mul,h1]
    omega
theorem QA {us us2 vb qs:List Nat} {V k n W top u2 A m:Nat} (hn:P0 vb n V) (h:W7 us V k n W top u2) (hv2:val us2=val us-W/V*V*4294967296^k) (hA:A=val qs*V+val us) (hl:qs.length=m) (hk:k<m) (h0:qs.getD k 0=0) :
    val us2<V*4294967296^k/\A=val (qs.set k (W/V))*V+val us2:=by
  have hq:=Ql (vb:=vb) h
  have hm:=Nat.div_add_mod W V
  have hml:=Nat.mod_lt W hn.pos
  have hp:0<4294967296^k:=Nat.pow_pos Z
  have hk1:=Nat.div_add_mod (val us) (4294967296^k)
  have hk2:=Nat.mod_lt (val us) hp
  rw [<-h.w] at hk1
  constructor
  · have h1:(W%V+1)*4294967296^k<=V*4294967296^k:=Nat.mul_le_mul_right _ hml
    have h2:W*4294967296^k=W/V*V*4294967296^k+W%V*4294967296^k:=by
      rw [<-Nat.add_mul,Nat.mul_comm (W/V)]
      rw [hm]
    rw [Nat.add_mul,Nat.one_mul] at h1
    rw [Nat.mul_comm] at hk1
    omega
  · rw [Io hl hk h0,Nat.add_mul,hA,hv2]
    have:W/V*4294967296^k*V=W/V*V*4294967296^k:=by rw [Nat.mul_right_comm]
    omega
theorem Sr {a b s q r:Nat} (hb:0<b) (h:a*2^s=q*(b*2^s)+r) (hr:r<b*2^s):q=a/b/\r=a%b*2^s:=by
  have hp:0<2^s:=Nat.pow_pos Z
  have h1:a*2^s/(b*2^s)=q/\a*2^s%(b*2^s)=r:=by
    have e:a*2^s=r+b*2^s*q:=by rw [h,Nat.mul_comm q];omega
    rw [e]
    constructor
    · rw [Nat.add_mul_div_left _ _ Z,Nat.div_eq_of_lt hr];omega
    · rw [Nat.add_mul_mod_self_left,Nat.mod_eq_of_lt hr]
  rw [Nat.mul_div_mul_right _ _ hp,Nat.mul_mod_mul_right] at h1
  exact ⟨h1.1.symm,h1.2.symm⟩
theorem QY {a b s n m:Nat} (hn:n=nw b) (hb:0<nw b) (hs:s<32) (hV:2147483648*4294967296^(nw b-1)<=b*2^s) (hm:m=nw a+1-nw b) (hba:nw b<=nw a):a*2^s<b*2^s*4294967296^m:=by
  have h1:=CE a
  have h2:(2:Nat)^s<=2^31:=Nat.pow_le_pow_right Z Z
  have h3:a*2^s<=a*2147483648:=Nat.mul_le_mul_left _ h2
  have h4:a*2147483648<4294967296^nw a*2147483648:=Nat.mul_lt_mul_of_pos_right h1 Z
  have h5:2147483648*4294967296^(nw b-1)*4294967296^m<=b*2^s*4294967296^m:=Nat.mul_le_mul_right _ hV
  have h6:2147483648*4294967296^(nw b-1)*4294967296^m=4294967296^nw a*2147483648:=by
    rw [Nat.mul_assoc,<-Nat.pow_add,show nw b-1+m=nw a by omega,Nat.mul_comm]
  omega
theorem BI.apart {w0:BF} {w:World} {L:List As} (h:BI w0 w L) {i j b b':Nat} {T T':TypeId} {cs cs':List Value} (hij:i<j) (hi:L[i]?=some (AX b T cs)) (hj:L[j]?=some (AX b' T' cs')):b≠b':=by
  have hp:=h.2.2
  obtain ⟨h1,e1⟩:=List.getElem?_eq_some_iff.1 hi
  obtain ⟨h2,e2⟩:=List.getElem?_eq_some_iff.1 hj
  have:=(List.pairwise_iff_getElem.1 hp i j h1 h2 hij).resolve_left (λk=>by have:=k.1;rw [e1] at this;cases this) b (by rw [e1])
  rw [e2] at this
  exact λe=>this (by rw [e])
section
set_option maxRecDepth 100000
theorem P4 {R P D Q X:Nat} (h1:D=Q+X) (h2:Q<=R) (h3:R<P) (h4:R<D) (h5:X<=P):R+P-D+X=R-Q+P:=by omega
theorem YM (a b p q c1 c2:Nat) (ha:nw a<=1099511627776) (hb2:2<=nw b) (hba:nw b<=nw a) (w:World) (hp:w.heap[p]?=some (.cells (Am (Ax a)).toArray 89 (0,0))) (hq:w.heap[q]?=some (.cells (Am (Ax b)).toArray 89 (0,0))):Calls prog 224 #[(qz (jk p) (nw a) c1),(qz (jk q) (nw b) c2)] w (λe w'=>∃b1 b2,e=.returned (.tuple #[.slice (jk b1) (nw a+1-nw b) (nw a+1-nw b),.slice (jk b2) (nw a+1) (nw a+1)])/\Ht w.heap.size w w'/\w.heap.size<=b1/\w.heap.size<=b2/\b1≠b2/\w'.heap[b1]?=some (.cells (Am (Co (nw a+1-nw b) (a/b))).toArray 89 (0,0))/\w'.heap[b2]?=some (.cells (Am (Co (nw a+1) (a%b))).toArray 89 (0,0))):=by
 have hla:=CV a
 have hlb:=CV b
 have hb0:0<b:=Nat.pos_of_ne_zero (λh=>by rw [h,OG] at hb2;omega)
 obtain ⟨s,hs⟩:∃s,s=32-bl ((AN b).getD (nw b-1) 0):=⟨_,rfl⟩
 obtain ⟨hs32,hlow,hhigh⟩:=aB Z hs
 obtain ⟨m,hm⟩:∃m,m=nw a+1-nw b:=⟨_,rfl⟩
 obtain ⟨V,hV⟩:∃V,V=b*2^s:=⟨_,rfl⟩
 obtain ⟨vb,hvb⟩:∃vb,vb=Co (nw b+1) (b*2^s):=⟨_,rfl⟩
 have hbig:b*2^s<4294967296^(nw b+1):=Nat.lt_of_lt_of_le hhigh (Nat.pow_le_pow_right Z Z)
 have hN:P0 vb (nw b) V:=⟨by rw [hvb];exact EA _ _,by rw [hvb];exact Bi _ _,hb2,by rw [hvb,hV];exact FQ _ _ hbig,by rw [hV];exact hlow,by rw [hV];exact hhigh⟩
 have hst:=QY rfl Z hs32 hlow hm hba
 have hA:val (Co (nw a+1) (a*2^s))=a*2^s:=FQ _ _ (by rw [Nat.pow_succ];exact Nat.mul_lt_mul_of_lt_of_le (CE a) (xN (Nat.pow_le_pow_right Z (show s<=32 by omega)) jY) Z)
 have hvlen:=hN.len
 have htop:=hN.top
 have htw:=(Pe (b:=b) Z).2.2
 refine AW (args:=[(qz (jk p) (nw a) c1),(qz (jk q) (nw b) c2)]) func224 O O (BE O) (zM (sL [0,1] O) (q4 (asg' O (asg' O (oNl' (q2 (AM O (AM O (AC (v:=(vN (nw b))) (AE O underlying220) O (AC (Bp (c:=(((nw b)-1:Nat):Int)) O O (Bz (a:=nw b) (b:=1) Z Z)) O (AC (v:=(pP q ((nw b)-1))) (AH (j:=(nw b)-1) O O underlying220 sizeOf89 O Z jX) O ?_)))))))))))
 have hx1:(Ax b).getD ((nw b)-1) 0<4294967296:=W32.getD (Ca b) ((nw b)-1)
 refine AC (Bc (v:=(vK .u32 ((Ax b).getD ((nw b)-1) 0))) O (λw' hw=>CA.at0 (hw.oldCA jX (FA hq)) (BH (xs:=Ax b) (j:=((nw b)-1)) Z)) isAgg89) O (zK (k:=22) (u:=(vK .u32 ((AN b).getD (nw b-1) 0))) O (by rw [Dq Z]) (ck' call260 (YQ ((AN b).getD (nw b-1) 0) Z) O (zK (k:=23) (u:=(vN s)) O (by rw [hs]) (asg' O (q6 (sL [0,1,4,5,6] O) (C_ [(0,true),(1,true),(3,true),(4,true),(6,true),(7,true),(2,false),(5,false),(8,true),(9,true),(10,true)] sr (Bx O (Bx O (Bx O (Bx O (Bx O ?_)))))))))))
 refine Aj (v:=(vN (nw b))) O (AE O underlying220) (zN O (z8 (V:=λb1=>(qz (jk b1) (nw a+1) (nw a+1))) (T:=89) (cs:=Am (Co (nw a+1) (a*2^s))) (AK O) (Ao (args:=[(qz (jk p) (nw a) c1),(vN s)]) O O call261) (λw hw=>(by have h:=Lu p (nw a) c1 s (Ax a) (Ca a) hla Z hs32 w (hw.old jX hp);rw [Iy] at h;exact h)) O (BE O) λb1=>zG (sl sr) (zN O (z8 (V:=λb2=>(qz (jk b2) (nw b+1) (nw b+1))) (T:=89) (cs:=Am vb) (AK O) (Ao (args:=[(qz (jk q) (nw b) c2),(vN s)]) O O call261) (λw hw=>(by have h:=Lu q (nw b) c2 s (Ax b) (Ca b) hlb Z hs32 w (hw.old jX hq);rw [Iy,<-hvb] at h;exact h)) O (BE O) λb2=>zG (sl (sl sr)) (Aj (v:=(qz (jk b2) (nw b) (nw b+1))) O (Jl (m:=nw b) O O underlying220 sizeOf89 Z) (pS' O (pS' O (zQ (zB (sL [1,4,5,6,7,8] O) ?_)))))))))
 refine q2 (AM O (AC (v:=(vN (nw b))) (AE O underlying220) O (asg' O (q3 (sL [1,4,5,6,7,8,9] O) (AM O (AC (v:=(vN (nw a+1))) (AE O underlying220) O (AM O (AC (Bp (c:=(((nw a+1)-(nw b):Nat):Int)) O O (Bz (a:=nw a+1) (b:=nw b) Z Z)) O (zK (k:=38) (u:=(vN m)) O (by rw [hm]) (ze (V:=λb3=>(qz (jk b3) m m)) (T:=89) (cs:=Am (List.replicate m 0)) (AK O) (DQ (m:=m) (c:=m) O O Z Z) O (BE O) λb3=>asg' O ?_))))))))))
 refine q6 (sL [1,4,5,6,7,8,9] O) (q4 (AM O (AC (v:=(vN m)) (AE O underlying220) O (AC (Bp (c:=(((m:Nat):Int)-1)) O O (BL Z Z)) O (asg' O (oNl' (zB (sL [1,4,5,6,7,8,9,10] O) (zA (zI ?_)))))))))
 refine yQ (tg λ(k0:Nat) (us:List Nat) (qs:List Nat)=>k0<=m/\us.length=nw a+1/\W32 us/\qs.length=m/\W32 qs/\(∀j,j<k0->qs.getD j 0=0)/\val us<V*4294967296^k0/\a*2^s=val qs*V+val us) (tg λ(k0:Nat) (us:List Nat) (qs:List Nat)=>[(4,(qz (jk b3) m m)),(5,jj),(6,(vN s)),(7,(qz (jk b1) (nw a+1) (nw a+1))),(8,(qz (jk b2) (nw b) (nw b+1))),(9,(vN (nw b))),(10,(vI (((k0:Nat):Int)-1)))]) (tg λ(k0:Nat) (us:List Nat) (qs:List Nat)=>[AX b3 89 (Am qs),AX b2 89 (Am vb),AX b1 89 (Am us)]) (tg λ(k0:Nat) (us:List Nat) (qs:List Nat)=>k0) m (Co (nw a+1) (a*2^s)) (List.replicate m 0) (⟨Nat.le_refl _,Bi _ _,EA _ _,by simp,W32.zeros _,λj _=>by simp [List.getD_eq_getElem?_getD,List.getElem?_replicate];split<;>rfl,by rw [hA,hV];exact hst,by rw [hA,EU];simp⟩) (sF O) sr (λk0 us qs hJ=>?_)
 obtain ⟨hk0,hul,huw,hql,hqw,hqz,hlt,hAeq⟩:=hJ
 refine zY (q4 (AM O (AC (D5 (c:=(decide ((0:Int)<=(((k0:Nat):Int)-1)))) O O O) O (oNl' (zB (sL [4,5,6,7,8,9,10,44] O) (zA ?_))))))
 refine zL O (λhc0=>?_) (λhc0=>?_)
 ·replace hc0:=xU hc0
  obtain ⟨k,rfl⟩:∃k,k0=k+1:=⟨k0-1,Z⟩
  obtain ⟨top,htp⟩:∃t,t=us.getD (k+nw b) 0*4294967296+us.getD (k+nw b-1) 0:=⟨_,rfl⟩
  obtain ⟨W,hWd⟩:∃x,x=val us/4294967296^k:=⟨_,rfl⟩
  have hWin:=ay hN huw hlt
  rw [<-htp,<-hWd] at hWin
  have hu2:=huw.getD (k+nw b-2)
  have hG0:=O9 hN hWin hu2
  have htb:=hWin.topb
  have hq32:=hWin.quo_lt hN.pos
  refine yN (k:=10) (u:=(vN k)) O (by congr 1;omega) (zC (q1 (zI (OkC.scope (zY (C_ (Ek 18) sr (Bx O (Bx O (Bx O (Aj O (AR (c:=((k+(nw b):Nat):Int)) O O (AS (a:=k) (b:=nw b) Z)) (Aj (v:=(pP b1 (k+(nw b)))) O (AH (j:=k+(nw b)) O O underlying220 sizeOf89 O Z jX) ?_)))))))))))
  have hx2:us.getD (k+(nw b)) 0<4294967296:=W32.getD huw (k+(nw b))
  refine Aj O (AD (i:=2) (v:=(vK .u32 (us.getD (k+(nw b)) 0))) O O isAgg89 (BH (xs:=us) (j:=(k+(nw b))) Z)) (Aj O (Ar (c:=((us.getD (k+(nw b)) 0:Nat):Int)) O underlying89 underlying60 (BW Z)) (Aj (v:=(vK .u64 (us.getD (k+nw b) 0*4294967296))) O (Gv (s:=32) O O O jY (G5 (s:=32) Z)) (Bx O (Bx O (Bx O (Aj O (AR (c:=((k+(nw b):Nat):Int)) O O (AS (a:=k) (b:=nw b) Z)) (Aj O (Bp (c:=(((k+(nw b))-1:Nat):Int)) O O (Bz (a:=k+(nw b)) (b:=1) Z Z)) (Aj (v:=(pP b1 ((k+(nw b))-1))) O (AH (j:=(k+(nw b))-1) O O underlying220 sizeOf89 O Z jX) ?_))))))))
  have hx3:us.getD ((k+(nw b))-1) 0<4294967296:=W32.getD huw ((k+(nw b))-1)
  refine Aj O (AD (i:=2) (v:=(vK .u32 (us.getD ((k+(nw b))-1) 0))) O O isAgg89 (BH (xs:=us) (j:=((k+(nw b))-1)) Z)) (Aj O (Ar (c:=((us.getD ((k+(nw b))-1) 0:Nat):Int)) O underlying89 underlying60 (BW Z)) (Aj O (Jk (c:=((top:Nat):Int)) O O (KX Z Z (((Nat.or_comm _ _).trans ((IB (s:=32) Z).trans (Nat.add_comm _ _))).trans htp.symm))) (pS' O (zQ (zB (sL [4,5,6,7,8,9,10,11] O) (q1 (C_ (Ek 18) sr (Bx O (Bx O (Bx O (Aj O (Bp (c:=(((nw b)-1:Nat):Int)) O O (Bz (a:=nw b) (b:=1) Z Z)) ?_)))))))))))
  refine Aj (v:=(pP b2 ((nw b)-1))) O (AH (j:=(nw b)-1) O O underlying220 sizeOf89 O Z jX) ?_
  have hx4:vb.getD ((nw b)-1) 0<4294967296:=W32.getD hN.w32 ((nw b)-1)
  refine Aj O (AD (i:=1) (v:=(vK .u32 (vb.getD ((nw b)-1) 0))) O O isAgg89 (BH (xs:=vb) (j:=((nw b)-1)) Z)) (Aj O (Ar (c:=((vb.getD ((nw b)-1) 0:Nat):Int)) O underlying89 underlying60 (BW Z)) (Aj O (Gu (c:=((top/(vb.getD ((nw b)-1) 0):Nat):Int)) O O Z (Lr (a:=top) (b:=vb.getD ((nw b)-1) 0) Z)) (Bx O (Bx O (Bx O (Aj O (Bp (c:=(((nw b)-1:Nat):Int)) O O (Bz (a:=nw b) (b:=1) Z Z)) (Aj (v:=(pP b2 ((nw b)-1))) O (AH (j:=(nw b)-1) O O underlying220 sizeOf89 O Z jX) ?_)))))))
  have hx5:vb.getD ((nw b)-1) 0<4294967296:=W32.getD hN.w32 ((nw b)-1)
  refine Aj O (AD (i:=1) (v:=(vK .u32 (vb.getD ((nw b)-1) 0))) O O isAgg89 (BH (xs:=vb) (j:=((nw b)-1)) Z)) (Aj O (Ar (c:=((vb.getD ((nw b)-1) 0:Nat):Int)) O underlying89 underlying60 (BW Z)) (Aj O (B7 (c:=((top%(vb.getD ((nw b)-1) 0):Nat):Int)) O O Z (IE (a:=top) (b:=vb.getD ((nw b)-1) 0))) (pS' O (pS' O (zQ (zB (sL [4,5,6,7,8,9,10,12,13] O) (q1 (OkC.label (q1 ?_)))))))))
  refine yF (tg λ(d:Nat)=>d<=4294967295/\(d=W/V\/d=W/V+1)) (tg λ(d:Nat)=>[(4,(qz (jk b3) m m)),(5,jj),(6,(vN s)),(7,(qz (jk b1) (nw a+1) (nw a+1))),(8,(qz (jk b2) (nw b) (nw b+1))),(9,(vN (nw b))),(10,(vN k)),(12,(vK .u64 d))]) (tg λ(d:Nat)=>[AX b3 89 (Am qs),AX b2 89 (Am vb),AX b1 89 (Am us)]) ?_ ?_
  ·refine zI ?_
   refine yG (tg λ(d:Nat) (r:Nat)=>IW V W (vb.getD (nw b-1) 0) top d r/\r<8589934592/\d<8589934593) (tg λ(d:Nat) (r:Nat)=>[(4,(qz (jk b3) m m)),(5,jj),(6,(vN s)),(7,(qz (jk b1) (nw a+1) (nw a+1))),(8,(qz (jk b2) (nw b) (nw b+1))),(9,(vN (nw b))),(10,(vN k)),(12,(vK .u64 d)),(13,(vK .u64 r))]) (tg λ(d:Nat) (r:Nat)=>[AX b3 89 (Am qs),AX b2 89 (Am vb),AX b1 89 (Am us)]) (tg λ(d:Nat) (r:Nat)=>d) (top/vb.getD (nw b-1) 0) (top%vb.getD (nw b-1) 0) (⟨hG0,by have:=Nat.mod_lt top (show vb.getD (nw b-1) 0>0 by omega);omega,Nat.div_lt_of_lt_mul Z⟩) (sF O) sr (λd r hJ=>?_)
   obtain ⟨hG,hr2,hd2⟩:=hJ
   refine zY (q4 (AM O (AC (JA (c:=(decide (r<=4294967295))) O O (YJ (a:=r) (b:=4294967295))) O (oNl' (zB (sL [4,5,6,7,8,9,10,12,13,81] O) (zA ?_))))))
   refine zL O (λhc1=>?_) (λhc1=>?_)
   ·replace hc1:=xU hc1
    refine zC (zA (zI (zY (zY ?_))))
    by_cases hsp:d<=4294967295
    ·have hv2:=hN.w32.getD (nw b-2)
     have hml:=Le (a:=d) (b:=vb.getD (nw b-2) 0) Z hv2
     refine C_ (Ek 24) sr (Bx O (Aj O (JA (c:=true) O O (YJ.trans (xJ hsp))) (Bx O (zW (v:=(vK .u64 d)) O (AY O) (DD O) O O (zW (v:=(qz (jk b2) (nw b) (nw b+1))) O (AY O) (DD O) O O (zW (v:=(vN (nw b))) O (AY O) (DD O) O O (zW (v:=(vN ((nw b)-2))) O (AY O) (Bp (c:=(((nw b)-2:Nat):Int)) O O (Bz (a:=nw b) (b:=2) Z Z)) O O (zW (v:=(pP b2 ((nw b)-2))) O (AY O) (AH (j:=(nw b)-2) O O underlying220 sizeOf89 O Z jX) O O ?_))))))))
     have hx6:vb.getD ((nw b)-2) 0<4294967296:=W32.getD hN.w32 ((nw b)-2)
     refine zW (v:=(vK .u32 (vb.getD ((nw b)-2) 0))) O (AY O) (AD (i:=1) (v:=(vK .u32 (vb.getD ((nw b)-2) 0))) O O isAgg89 (BH (xs:=vb) (j:=((nw b)-2)) Z)) O O (zW (v:=(vK .u64 (vb.getD ((nw b)-2) 0))) O (AY O) (Ar (c:=((vb.getD ((nw b)-2) 0:Nat):Int)) O underlying89 underlying60 (BW Z)) O O (zW (v:=(vK .u64 (d*(vb.getD ((nw b)-2) 0)))) O (AY O) (Bv (c:=((d*(vb.getD ((nw b)-2) 0):Nat):Int)) O O (FK (a:=d) (b:=vb.getD ((nw b)-2) 0) Z)) O O (zW (v:=(vK .u64 r)) O (AY O) (DD O) O O (zW (v:=(vK .u64 (r*4294967296))) O (AY O) (Gv (s:=32) O O O jY (G5 (s:=32) Z)) O O (zW (v:=(qz (jk b1) (nw a+1) (nw a+1))) O (AY O) (DD O) O O (zW (v:=(vN k)) O (AY O) (DD O) O O (zW (v:=(vN (nw b))) O (AY O) (DD O) O O (zW (v:=(vN (k+(nw b)))) O (AY O) (AR (c:=((k+(nw b):Nat):Int)) O O (AS (a:=k) (b:=nw b) Z)) O O (zW (v:=(vN ((k+(nw b))-2))) O (AY O) (Bp (c:=(((k+(nw b))-2:Nat):Int)) O O (Bz (a:=k+(nw b)) (b:=2) Z Z)) O O (zW (v:=(pP b1 ((k+(nw b))-2))) O (AY O) (AH (j:=(k+(nw b))-2) O O underlying220 sizeOf89 O Z jX) O O ?_))))))))))
     have hx7:us.getD ((k+(nw b))-2) 0<4294967296:=W32.getD huw ((k+(nw b))-2)
     refine zW (v:=(vK .u32 (us.getD ((k+(nw b))-2) 0))) O (AY O) (AD (i:=2) (v:=(vK .u32 (us.getD ((k+(nw b))-2) 0))) O O isAgg89 (BH (xs:=us) (j:=((k+(nw b))-2)) Z)) O O (zW (v:=(vK .u64 (us.getD ((k+(nw b))-2) 0))) O (AY O) (Ar (c:=((us.getD ((k+(nw b))-2) 0:Nat):Int)) O underlying89 underlying60 (BW Z)) O O (zW (v:=(vK .u64 (r*4294967296+us.getD (k+nw b-2) 0))) O (AY O) (Jk (c:=((r*4294967296+us.getD (k+nw b-2) 0:Nat):Int)) O O (KX Z Z (((Nat.or_comm _ _).trans ((IB (s:=32) Z).trans (Nat.add_comm _ _)))))) O O (zW (v:=(qa (decide ((d*(vb.getD ((nw b)-2) 0))<=(r*4294967296+us.getD (k+nw b-2) 0))))) O (AY O) (JA (c:=(decide ((d*(vb.getD ((nw b)-2) 0))<=(r*4294967296+us.getD (k+nw b-2) 0)))) O O (YJ (a:=d*(vb.getD ((nw b)-2) 0)) (b:=r*4294967296+us.getD (k+nw b-2) 0))) O O (Aj (v:=(qa (decide ((d*(vb.getD ((nw b)-2) 0))<=(r*4294967296+us.getD (k+nw b-2) 0))))) O (AQ O O) (zQ (zB (sL [4,5,6,7,8,9,10,12,13,105] O) (zA ?_)))))))
     refine zL O (λhc2=>?_) (λhc2=>?_)
     ·replace hc2:=xU hc2
      have hg:=LZ hN hWin hG (.inr ⟨hsp,hc2⟩)
      exact zU (zO (OkQ.in_exit_ne O (zm (zR (zj d (hg) (sF O) sr)))))
     ·replace hc2:=xT hc2
      obtain ⟨hng1,hng2⟩:=Lf hN hWin hG (λh=>hc2 h.2)
      refine zC (q2 (AM O (AC (Bp (c:=((d-1:Nat):Int)) O O (Ix (a:=d) (b:=1) Z Z)) O (asg' O (oNl' (zB (sL [4,5,6,7,8,9,10,12,13] O) (zA (zD (AM O (AM O (AM O ?_)))))))))))
      refine AC (Bp (c:=(((nw b)-1:Nat):Int)) O O (Bz (a:=nw b) (b:=1) Z Z)) O (AC (v:=(pP b2 ((nw b)-1))) (AH (j:=(nw b)-1) O O underlying220 sizeOf89 O Z jX) O ?_)
      have hx8:vb.getD ((nw b)-1) 0<4294967296:=W32.getD hN.w32 ((nw b)-1)
      exact AC (AD (i:=1) (v:=(vK .u32 (vb.getD ((nw b)-1) 0))) O O isAgg89 (BH (xs:=vb) (j:=((nw b)-1)) Z)) O (AC (Ar (c:=((vb.getD ((nw b)-1) 0:Nat):Int)) O underlying89 underlying60 (BW Z)) O (AC (AR (c:=((r+(vb.getD ((nw b)-1) 0):Nat):Int)) O O (Dk (a:=r) (b:=vb.getD ((nw b)-1) 0) Z)) O (asg' O (oNl' (zB (sL [4,5,6,7,8,9,10,12,13] O) (zF (zn (d-1) (r+vb.getD (nw b-1) 0) (⟨hng1,Z,Z⟩) Z (sF O) sr)))))))
    ·obtain ⟨hng1,hng2⟩:=Lf hN hWin hG (λh=>hsp h.1)
     refine C_ (Ek 24) sr (Bx O (Aj O (JA (c:=false) O O (YJ.trans (xI hsp))) (Bx O (zx O (B9 O) O O (zx O (B9 O) O O (zx O (B9 O) O O (zx O (B9 O) O O (zx O (B9 O) O O (zx O (B9 O) O O (zx O (B9 O) O O (zx O (B9 O) O O ?_)))))))))))
     refine zx O (B9 O) O O (zx O (B9 O) O O (zx O (B9 O) O O (zx O (B9 O) O O (zx O (B9 O) O O (zx O (B9 O) O O (zx O (B9 O) O O (zx O (B9 O) O O (zx O (B9 O) O O (zx O (B9 O) O O (zx O (B9 O) O O (zx O (B9 O) O O ?_)))))))))))
     refine Aj (v:=(qa false)) O (AL O O) (zQ (zB (sL [4,5,6,7,8,9,10,12,13,105] O) (zA (zP O (zC (q2 (AM O (AC (Bp (c:=((d-1:Nat):Int)) O O (Ix (a:=d) (b:=1) Z Z)) O (asg' O (oNl' (zB (sL [4,5,6,7,8,9,10,12,13] O) ?_)))))))))))
     refine zA (zD (AM O (AM O (AM O (AC (Bp (c:=(((nw b)-1:Nat):Int)) O O (Bz (a:=nw b) (b:=1) Z Z)) O (AC (v:=(pP b2 ((nw b)-1))) (AH (j:=(nw b)-1) O O underlying220 sizeOf89 O Z jX) O ?_))))))
     have hx9:vb.getD ((nw b)-1) 0<4294967296:=W32.getD hN.w32 ((nw b)-1)
     exact AC (AD (i:=1) (v:=(vK .u32 (vb.getD ((nw b)-1) 0))) O O isAgg89 (BH (xs:=vb) (j:=((nw b)-1)) Z)) O (AC (Ar (c:=((vb.getD ((nw b)-1) 0:Nat):Int)) O underlying89 underlying60 (BW Z)) O (AC (AR (c:=((r+(vb.getD ((nw b)-1) 0):Nat):Int)) O O (Dk (a:=r) (b:=vb.getD ((nw b)-1) 0) Z)) O (asg' O (oNl' (zB (sL [4,5,6,7,8,9,10,12,13] O) (zF (zn (d-1) (r+vb.getD (nw b-1) 0) (⟨hng1,Z,Z⟩) Z (sF O) sr)))))))
   ·replace hc1:=xT hc1
    have hg:=LZ hN hWin hG (.inl Z)
    exact zU (zO (zm (zR (zj d (hg) (sF O) sr))))
  ·intro d hJ
   obtain ⟨hdb,hdq⟩:=hJ
   refine q1 (q4 (AM O (AM O (AM O (AM O (AC (AR (c:=((k+(nw b):Nat):Int)) O O (AS (a:=k) (b:=nw b) Z)) O (AC (AR (c:=(((k+(nw b))+1:Nat):Int)) O O (AS (a:=k+(nw b)) (b:=1) Z)) O (AC (v:=(qz (some ⟨b1,k,none⟩) (((k+(nw b))+1)-k) ((nw a+1)-k))) (Np (i:=k) (m:=(k+(nw b))+1) O O O underlying220 sizeOf89 Z Z Z jX) O (zK (k:=122) (u:=(qz (some ⟨b1,k,none⟩) (nw b+1) ((nw a+1)-k))) O (by rw [show k+nw b+1-k=nw b+1 by omega]) (AM O (AM O ?_)))))))))))
   refine yU (v:=(qa (decide (val us<d*val (vb.take (nw b))*4294967296^k)))) (i:=2) (cs':=Am (Co (nw a+1) (val us+(if val us<d*val (vb.take (nw b))*4294967296^k then 4294967296^(k+nw b+1) else 0)-d*val (vb.take (nw b))*4294967296^k))) (L':=[AX b3 89 (Am qs),AX b2 89 (Am vb),AX b1 89 (Am (Co (nw a+1) (val us+(if val us<d*val (vb.take (nw b))*4294967296^k then 4294967296^(k+nw b+1) else 0)-d*val (vb.take (nw b))*4294967296^k)))]) (AK O) (Ao (args:=[(qz (some ⟨b1,k,none⟩) (nw b+1) ((nw a+1)-k)),(qz (jk b2) (nw b) (nw b+1)),(vK .u64 d)]) O O call262) O (λw hw=>YK _ _ k (nw b) (nw a+1) _ _ d us vb huw hul hN.w32 Z Z Z Z hWin.fits ((hw.apart (i:=1) (j:=2) jY O O)) w (hw.get (i:=2) O) (hw.get (i:=1) O)) (λd hd=>by cases hd<;>exact (BE O)) O (oNl' (zB (sL [4,5,6,7,8,9,10,12,125] O) (zA ?_)))
   refine yF (tg λ(us2:List Nat)=>us2.length=nw a+1/\W32 us2/\val us2=val us-W/V*V*4294967296^k) (tg λ(us2:List Nat)=>[(4,(qz (jk b3) m m)),(5,jj),(6,(vN s)),(7,(qz (jk b1) (nw a+1) (nw a+1))),(8,(qz (jk b2) (nw b) (nw b+1))),(9,(vN (nw b))),(10,(vN k)),(12,(vK .u64 (W/V)))]) (tg λ(us2:List Nat)=>[AX b3 89 (Am qs),AX b2 89 (Am vb),AX b1 89 (Am us2)]) ?_ ?_
   ·refine zL O (λhc3=>?_) (λhc3=>?_)
    ·replace hc3:=xU hc3
     have hP:4294967296^(k+nw b+1)<=4294967296^(nw a+1):=Nat.pow_le_pow_right Z Z
     rw [hN.take] at hc3
     obtain ⟨hde,hdS⟩:=QU (vb:=vb) hWin hdq hc3
     have hXP:V*4294967296^k<=4294967296^(k+nw b+1):=xN (Nat.mul_le_mul_right _ (Nat.le_of_lt hN.high)) (by rw [<-Nat.pow_add];exact Nat.pow_le_pow_right Z Z)
     have hqle:=Ql (vb:=vb) hWin
     have hfit:=hWin.fits
     have hd1:1<=d:=by rw [hde];exact Nat.le_add_left _ _
     have hU1:val (Co (nw a+1) (val us+(if val us<d*val (vb.take (nw b))*4294967296^k then 4294967296^(k+nw b+1) else 0)-d*val (vb.take (nw b))*4294967296^k))=val us+4294967296^(k+nw b+1)-d*V*4294967296^k:=by rw [hN.take,if_pos hc3,FQ _ _ Z]
     have hU1lt:val (Co (nw a+1) (val us+(if val us<d*val (vb.take (nw b))*4294967296^k then 4294967296^(k+nw b+1) else 0)-d*val (vb.take (nw b))*4294967296^k))<4294967296^(k+nw b+1):=by rw [hU1];omega
     refine q4 (AM O (AC (Bp (c:=((d-1:Nat):Int)) O O (Ix (a:=d) (b:=1) Z Z)) O (asg' O (q3 (sL [4,5,6,7,8,9,10,12] O) (asg' O (oNl' (q1 (q4 (AM O (AC (v:=(vN (nw b))) (AE O underlying220) O (AM O ?_)))))))))))
     refine oNl' (zA (zI ?_))
     refine yQ (tg λ(i:Nat) (os:List Nat) (c:Nat)=>i<=nw b/\os.length=nw a+1/\W32 os/\c<=1/\(∀j,k+nw b+1<=j->os.getD j 0=0)/\val os+c*4294967296^(k+i)=(val us+4294967296^(k+nw b+1)-d*V*4294967296^k)+val (vb.take i)*4294967296^k) (tg λ(i:Nat) (os:List Nat) (c:Nat)=>[(4,(qz (jk b3) m m)),(5,jj),(6,(vN s)),(7,(qz (jk b1) (nw a+1) (nw a+1))),(8,(qz (jk b2) (nw b) (nw b+1))),(9,(vN (nw b))),(10,(vN k)),(12,(vK .u64 (d-1))),(128,(qz (jk b2) (nw b) (nw b+1))),(129,(vN (nw b))),(130,(vN i)),(14,(vK .u32 c))]) (tg λ(i:Nat) (os:List Nat) (c:Nat)=>[AX b3 89 (Am qs),AX b2 89 (Am vb),AX b1 89 (Am os)]) (tg λ(i:Nat) (os:List Nat) (c:Nat)=>nw b-i) 0 (Co (nw a+1) (val us+(if val us<d*val (vb.take (nw b))*4294967296^k then 4294967296^(k+nw b+1) else 0)-d*val (vb.take (nw b))*4294967296^k)) 0 (⟨xK _,Bi _ _,EA _ _,Z,Jx hU1lt,by rw [hU1];simp [val]⟩) (sF O) sr (λi os c hJ=>?_)
     obtain ⟨hi,hl,hw32,hcc,hz,hv⟩:=hJ
     refine q4 (AC (Aa (c:=(decide (i<(nw b)))) O O (DF (a:=i) (b:=nw b))) O (oNl' (q1 ?_)))
     refine zL O (λhc4=>?_) (λhc4=>?_)
     ·replace hc4:=xU hc4
      refine zC (q1 (zI (q4 (AM O (AC (v:=(pP b2 i)) (AH (j:=i) O O underlying220 sizeOf89 O Z jX) O ?_)))))
      have hx10:vb.getD i 0<4294967296:=W32.getD hN.w32 i
      refine AC (AD (i:=1) (v:=(vK .u32 (vb.getD i 0))) O O isAgg89 (BH (xs:=vb) (j:=i) Z)) O (asg' O (asg' O (oNl' (zB (sL [4,5,6,7,8,9,10,12,128,129,130,14,15,16] O) (zA (zD (AM O (AM O (AM O (AC (AR (c:=((k+i:Nat):Int)) O O (AS (a:=k) (b:=i) Z)) O (AM O ?_)))))))))))
      refine AM O (AM O (AC (AR (c:=((k+i:Nat):Int)) O O (AS (a:=k) (b:=i) Z)) O (AC (v:=(pP b1 (k+i))) (AH (j:=k+i) O O underlying220 sizeOf89 O Z jX) O ?_)))
      have hx11:os.getD (k+i) 0<4294967296:=W32.getD hw32 (k+i)
      refine AC (AD (i:=2) (v:=(vK .u32 (os.getD (k+i) 0))) O O isAgg89 (BH (xs:=os) (j:=(k+i)) Z)) O (AM O (AM O (ck' call207 (Km (os.getD (k+i) 0) (vb.getD i 0) c Z Z Z) O (AM O (AC (AJ (v:=(vK .u32 (((os.getD (k+i) 0)+(vb.getD i 0)+c)%4294967296))) O O) O (AC (AJ (v:=(vK .u32 (((os.getD (k+i) 0)+(vb.getD i 0)+c)/4294967296))) O O) O (AC (v:=(pP b1 (k+i))) (AH (j:=k+i) O O underlying220 sizeOf89 O Z jX) O (zo (i:=2) (off:=(k+i)) (vs:=[(vK .u32 (((os.getD (k+i) 0)+(vb.getD i 0)+c)%4294967296))]) (cs':=Am (os.set (k+i) (((os.getD (k+i) 0)+(vb.getD i 0)+c)%4294967296))) (L':=[AX b3 89 (Am qs),AX b2 89 (Am vb),AX b1 89 (Am (os.set (k+i) (((os.getD (k+i) 0)+(vb.getD i 0)+c)%4294967296)))]) (AK O) O O O O O sizeOf89 O (Cq (BR _) Z) (CN Z) O (asg' O (oNl' (zB (sL [4,5,6,7,8,9,10,12,128,129,130,14] O) ?_)))))))))))
      exact zF (zA (zD (AC (AR (c:=((i+1:Nat):Int)) O O (AS (a:=i) (b:=1) Z)) O (AM O (oNl' (zB (sL [4,5,6,7,8,9,10,12,128,129,130,14] O) (yL (i+1) (os.set (k+i) ((os.getD (k+i) 0+vb.getD i 0+c)%4294967296)) ((os.getD (k+i) 0+vb.getD i 0+c)/4294967296) (⟨Z,by rw [List.length_set];exact hl,W32.set hw32 Z _,Z,F7 hz Z,SO hl Z hv⟩) Z (sF O) sr)))))))
     ·replace hc4:=xT hc4
      have hib:i=nw b:=by omega
      have hv3:=hv
      rw [hib,hN.take] at hv3
      have hbk:=SN (T:=val us-W/V*V*4294967296^k) (P:=4294967296^(k+nw b+1)) hl Z hw32 hcc hz rfl (hv3.trans (P4 hdS hqle hfit hc3 hXP)) (Nat.lt_of_le_of_lt (Nat.sub_le _ _) hfit)
      refine zU (zO (yA (zR (zA (zD (AM O (AM O (AM O (AC (AR (c:=((k+(nw b):Nat):Int)) O O (AS (a:=k) (b:=nw b) Z)) O (AC (v:=(pP b1 (k+(nw b)))) (AH (j:=k+(nw b)) O O underlying220 sizeOf89 O Z jX) O ?_))))))))))
      have hx12:os.getD (k+(nw b)) 0<4294967296:=W32.getD hw32 (k+(nw b))
      exact AC (AD (i:=2) (v:=(vK .u32 (os.getD (k+(nw b)) 0))) O O isAgg89 (BH (xs:=os) (j:=(k+(nw b))) Z)) O (AM O (AC (AR (c:=(((os.getD (k+nw b) 0+c)%4294967296:Nat):Int)) O O UH) O (AC (v:=(pP b1 (k+(nw b)))) (AH (j:=k+(nw b)) O O underlying220 sizeOf89 O Z jX) O (zo (i:=2) (off:=(k+(nw b))) (vs:=[(vK .u32 ((os.getD (k+nw b) 0+c)%4294967296))]) (cs':=Am (os.set (k+(nw b)) ((os.getD (k+nw b) 0+c)%4294967296))) (L':=[AX b3 89 (Am qs),AX b2 89 (Am vb),AX b1 89 (Am (os.set (k+(nw b)) ((os.getD (k+nw b) 0+c)%4294967296)))]) (AK O) O O O O O sizeOf89 O (Cq (BR _) Z) (CN Z) O (oNl' (zB (sL [4,5,6,7,8,9,10,12,128,129,130,14] O) (yS (k:=12) (u:=Value.int .u64 ((W/V:Nat):Int)) O (by rw [hde,Nat.add_sub_cancel]) (zj (os.set (k+(nw b)) ((os.getD (k+nw b) 0+c)%4294967296)) (⟨by rw [List.length_set];exact hl,W32.set hw32 Z _,hbk⟩) (sF O) sr))))))))
    ·replace hc3:=xT hc3
     have hP:4294967296^(k+nw b+1)<=4294967296^(nw a+1):=Nat.pow_le_pow_right Z Z
     rw [hN.take] at hc3
     obtain ⟨hde,hdS⟩:=QT hN hWin hdq hc3
     have hfit:=hWin.fits
     have hU1:val (Co (nw a+1) (val us+(if val us<d*val (vb.take (nw b))*4294967296^k then 4294967296^(k+nw b+1) else 0)-d*val (vb.take (nw b))*4294967296^k))=val us-W/V*V*4294967296^k:=by rw [hN.take,if_neg hc3,FQ _ _ Z];exact hdS
     exact zC (yS (k:=12) (u:=Value.int .u64 ((W/V:Nat):Int)) O (by rw [hde]) (zj (Co (nw a+1) (val us+(if val us<d*val (vb.take (nw b))*4294967296^k then 4294967296^(k+nw b+1) else 0)-d*val (vb.take (nw b))*4294967296^k)) (⟨Bi _ _,EA _ _,hU1⟩) (sF O) sr))
   ·intro us2 hJ
    obtain ⟨hu2l,hu2w,hu2v⟩:=hJ
    refine zA (zD (AM O (AM O (AM O (AC (Ar (c:=((W/V:Nat):Int)) O underlying60 underlying89 (Cg (by exact hq32))) O (AC (v:=(pP b3 k)) (AH (j:=k) O O underlying220 sizeOf89 O Z jX) O (zo (i:=0) (off:=k) (vs:=[(vK .u32 (W/V))]) (cs':=Am (qs.set k (W/V))) (L':=[AX b3 89 (Am (qs.set k (W/V))),AX b2 89 (Am vb),AX b1 89 (Am us2)]) (AK O) O O O O O sizeOf89 O (Cq (BR _) Z) (CN Z) O (oNl' (zB (sL [4,5,6,7,8,9,10,12] O) (OkQ.scope_normal (zF ?_)))))))))))
    refine zA (zD (AM O (AC (Bp (c:=(((k:Nat):Int)-1)) O O (BL Z Z)) O (asg' O (oNl' (zB (sL [4,5,6,7,8,9,10,12] O) ?_))))))
    have hdd:=QA hN hWin hu2v hAeq hql Z (hqz k Z)
    exact yL k us2 (qs.set k (W/V)) (⟨Z,hu2l,hu2w,by rw [List.length_set];exact hql,W32.set hqw hq32 _,λj hj=>by rw [Ju Z];exact hqz j Z,hdd.1,hdd.2⟩) Z (sF O) sr
 ·replace hc0:=xT hc0
  have hk00:k0=0:=by omega
  have hlt0:=hlt
  rw [hk00,Nat.pow_zero,Nat.mul_one] at hlt0
  have hfin:=Sr (a:=a) (b:=b) (s:=s) (q:=val qs) (r:=val us) hb0 (by rw [<-hV];exact hAeq) (by rw [<-hV];exact hlt0)
  refine zU (zO (yA (zR (q1 (q4 (AM O (AM O (oNl' (zA (zI ?_))))))))))
  refine yG (tg λ(i:Nat) (us3:List Nat)=>i<=s/\us3.length=nw a+1/\W32 us3/\val us3=a%b*2^s/2^i) (tg λ(i:Nat) (us3:List Nat)=>[(4,(qz (jk b3) m m)),(5,jj),(7,(qz (jk b1) (nw a+1) (nw a+1))),(167,(vN s)),(168,(vN i))]) (tg λ(i:Nat) (us3:List Nat)=>[AX b3 89 (Am qs),AX b2 89 (Am vb),AX b1 89 (Am us3)]) (tg λ(i:Nat) (us3:List Nat)=>s-i) 0 us (⟨xK _,hul,huw,by rw [hfin.2];simp⟩) (sF O) sr (λi us3 hJ=>?_)
  obtain ⟨hi,hl3,hw3,hv3⟩:=hJ
  refine q4 (AC (Aa (c:=(decide (i<s))) O O (DF (a:=i) (b:=s))) O (oNl' (q1 ?_)))
  refine zL O (λhc5=>?_) (λhc5=>?_)
  ·replace hc5:=xU hc5
   refine zC (q1 (zI (zD (AM O (yU (v:=(Value.tuple #[])) (i:=2) (cs':=Am (Co (nw a+1) (val us3/2))) (L':=[AX b3 89 (Am qs),AX b2 89 (Am vb),AX b1 89 (Am (Co (nw a+1) (val us3/2)))]) (AK O) (Ao (args:=[(qz (jk b1) (nw a+1) (nw a+1))]) O O call263) O (λw hw=>X1 _ (nw a+1) _ us3 hw3 hl3 Z w (hw.get (i:=2) O)) (λd hd=>by cases hd<;>exact (BE O)) O (oNl' (zB (sL [4,5,7,167,168] O) (zF (zA (zD (AC (AR (c:=((i+1:Nat):Int)) O O (AS (a:=i) (b:=1) Z)) O ?_)))))))))))
   refine AM O (oNl' (zB (sL [4,5,7,167,168] O) ?_))
   have hb3:val us3/2<4294967296^(nw a+1):=Nat.lt_of_le_of_lt (Nat.div_le_self _ _) (by have:=HG hw3;rw [hl3] at this;exact this)
   exact zn (i+1) (Co (nw a+1) (val us3/2)) (⟨Z,Bi _ _,EA _ _,by rw [FQ _ _ hb3,hv3,Nat.div_div_eq_div_mul,<-Nat.pow_succ]⟩) Z (sF O) sr
  ·replace hc5:=xT hc5
   have his:i=s:=by omega
   have hr:val us3=a%b:=by rw [hv3,his,Nat.mul_div_cancel _ (Nat.pow_pos Z)]
   have hr1:=IF hw3 hl3 hr
   have hq1:=IF hqw hql hfin.1
   refine zU (zO (zm (zR (q2 (AM O (AM O (asg' O (asg' O (oNl' (zB (sL [4,5,7,167,168] O) (zA ?_)))))))))))
   exact zH (Bu O (rd_tmp (v:=(qz (jk b3) m m)) O) (rd_tmp (v:=(qz (jk b1) (nw a+1) (nw a+1))) O) (λw hw=>⟨b3,b1,by rw [hm],hw.out,hw.fresh (i:=0) O,hw.fresh (i:=2) O,(hw.apart (i:=0) (j:=2) jY O O),by rw [<-hm,<-hq1];exact hw.get (i:=0) O,by rw [<-hr1];exact hw.get (i:=2) O⟩))
end
end Go.Proofs.YtbfdamnfcmefmaaGreatDoor
