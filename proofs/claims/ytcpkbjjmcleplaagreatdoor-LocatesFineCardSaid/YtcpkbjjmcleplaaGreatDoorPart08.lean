import Derived.Laws.Externs
import Derived.Test.YtcpkbjjmcleplaaGreatDoorPart05
import Derived.Test.YtcpkbjjmcleplaaGreatDoorPart06
import Derived.Test.YtcpkbjjmcleplaaGreatDoorPart07
namespace Go.Proofs.YtcpkbjjmcleplaaGreatDoor
open Go Go.RowKit Go.Proofs.Tryz
open Go.Value renaming slice→qz,bool→qa
set_option linter.unusedVariables false
set_option linter.unusedSimpArgs false
section
section
variable {w0:Ay} {L:List As}
theorem A_.addRo {w w':World} {a:As} (h:A_ w0 w L) (hb:GB w.heap.size w w') (hr:a.ro=true) (hh:Holds w' a) (hs:∀b,a.foot=some b->w.heap.size<=b\/∃y∈L,y.ro=true/\y.foot=some b):A_ w0 w' (a::L):=by
  have h1:=h.below hb
  refine ⟨h1.1,λz hz b e=>?_,List.pairwise_cons.2 ⟨λz hz=>?_,h1.2.2⟩⟩
  · rcases xL.1 hz with rfl|hz
    · exact ⟨.inl hr,hh b e⟩
    · exact h1.2.1 z hz b e
  · cases hf:a.foot with
    | none=>exact .inr λb e=>by cases e
    | some b =>
      rcases hs b hf with h2|⟨y,hy,hyr,hyf⟩
      · refine .inr λb' e e2=>?_
        injection e with e;subst e
        exact absurd (h.lt hz e2) Z
      · have h3:=Hf hr hyr hf hyf (G9 h.2.2 y hy z hz)
        rw [<-hf];exact h3
end
class Cl (α:Type) where
  val:α->Value
  rows:α->List As
  ro:∀a,∀y∈rows a,y.ro=true
def Ro (S:Nat->Prop) (w:World) {α:Type} [Cl α] (a:α):Prop:=∀y∈Cl.rows a,Holds w y/\∀b,y.foot=some b->S b
def Aj (α:Type) [Cl α] (S:Nat->Prop) (W:World) (e:Ending) (w:World):Prop :=
  ∃a:α,e=.returned (Cl.val a)/\GB W.heap.size W w/\Ro (λb=>W.heap.size<=b\/S b) w a
def Nw (w0:Ay) (S:Nat->Prop) (b:Nat):Prop:=w0.w.heap.size<=b\/S b
def SL (w0:Ay) (S:Nat->Prop) (L:List As) (b:Nat):Prop:=(∃y∈L,y.ro=true/\y.foot=some b)/\Nw w0 S b
def At (w0:Ay) (S:Nat->Prop) {α:Type} [Cl α] (a:α):Prop:=∀y∈Cl.rows a,∀b,y.foot=some b->Nw w0 S b
section
variable {w0:Ay} {S:Nat->Prop} {w W:World} {L:List As} {α:Type} [Cl α]
theorem inS (hw:A_ w0 w L) (i:Nat) {a:α} (hi:(L.drop i).take (Cl.rows a).length=Cl.rows a) (ha:At w0 S a):Ro (SL w0 S L) w a:=λy hy=>by
  have hm:y∈L:=List.mem_of_mem_drop (i:=i) (List.mem_of_mem_take (i:=(Cl.rows a).length) (by rw [hi];exact hy))
  exact ⟨λb e=>(hw.2.1 y hm b e).2,λb e=>⟨⟨y,hm,Cl.ro a y hy,e⟩,ha y hy b e⟩⟩
theorem Ro.mono {S':Nat->Prop} {a:α} (h:Ro S w a) (hs:∀b,S b->S' b):Ro S' w a:=λy hy=>⟨(h y hy).1,λb e=>hs b ((h y hy).2 b e)⟩
theorem Bx {a:α} (h:Ro S w a):At ⟨W,none⟩ S a:=λy hy b e=>.inr ((h y hy).2 b e)
theorem DU {a:α} {v:Value} (hw:A_ ⟨W,none⟩ w L) (h:Ro (SL ⟨W,none⟩ S L) w a) (hv:v=Cl.val a):Aj α S W (.returned v) w:=⟨a,by rw [hv],hw.out,h.mono λb h=>h.2⟩
theorem Aj.cast {ι:Type} {T:ι->Type} [∀i,Cl (T i)] {i j:ι} (h:i=j) {f:FuncId} {P:Program} {args:Array Value} (k:Calls P f args W (Aj (T i) S W)):Calls P f args W (Aj (T j) S W):=h▸k
theorem GT {a:α} (h:Ro S w a) (t:∀y∈L,y.ro=true/\Holds w y):∀y∈Cl.rows a++L,y.ro=true/\Holds w y:=λy hy=>(List.mem_append.1 hy).elim (λk=>⟨Cl.ro a y k,(h y k).1⟩) (t y)
end
theorem A_.addRos {w0:Ay} {w w':World} {L:List As} (h:A_ w0 w L) (hb:GB w.heap.size w w'):∀(xs:List As),(∀x∈xs,x.ro=true/\Holds w' x/\∀b,x.foot=some b->w.heap.size<=b\/∃y∈L,y.ro=true/\y.foot=some b)->A_ w0 w' (xs++L)
  | [],_=>h.below hb
  | x::xs,hx=>by
    have h1:=A_.addRos h hb xs λy hy=>hx y (List.mem_cons_of_mem _ hy)
    obtain ⟨hr,hh,hs⟩:=hx x List.mem_cons_self
    have h2:=h.addRo hb hr hh hs
    refine ⟨h1.1,λy hy=>(xL.1 hy).elim (λe=>h2.2.1 y (e▸List.mem_cons_self)) (λe=>h1.2.1 y e),List.pairwise_cons.2 ⟨λy hy=>?_,h1.2.2⟩⟩
    rcases List.mem_append.1 hy with hy|hy
    · exact .inl ⟨hr,(hx y (List.mem_cons_of_mem _ hy)).1⟩
    · exact (List.pairwise_cons.1 h2.2.2).1 y hy
section
variable {P:Program} {ops:Array Oper} {rest:List Oper} {Q:Exit->Act->World->Prop} {n d:Nat} {F:List (Nat×Value)} {w0:Ay} {S:Nat->Prop} {L:List As} {t:TypeId} {p:String} {af:Array Edge} {y:Operand} {f:FuncId} {xs:List Operand} {args:List Value} {ts:Array TypeId}
theorem AP.callRg {α:Type} [Cl α] {g:Option (Nat×Bool)} (hw:Wt ops n F ⟨some d,.call { callee:=.value y,args:=xs.toArray,argTypes:=ts },t,p,af,g⟩) (hc:∀args w,(callFunc f args).run P w=.ok (.enter f args) w) (h:∀w,A_ w0 w L->Calls P f args.toArray w (Aj α (SL w0 S L) w))
    (hf:evF F y=some (.func (.func f) #[] #[])) (hargs:xs.map (evF F)=args.map some) (hd:Nat.ble (d+1) n=true) (next:∀a:α,At w0 S a->AP P ops rest Q n ((d,Cl.val a)::F) w0 (Cl.rows a++L)) :
    AP P ops (⟨some d,.call { callee:=.value y,args:=xs.toArray,argTypes:=ts },t,p,af,g⟩::rest) Q n F w0 L:=λa w ha hW=>by
  unfold wpList
  rw [if_pos (hw a ha)]
  left
  unfold Oper.wp
  rw [Ag hf hargs hc a w ha hW,Oper.upon_enter]
  refine (h w hW).mono ?_
  rintro e w' ⟨v,rfl,hb,hr⟩
  exact next v (λy hy b e=>((hr y hy).2 b e).elim (λh=>.inl (xK hW.1.size h)) λh=>h.2) _ _ (ha.put (CO hd)) (hW.addRos hb _ λx hx=>⟨Cl.ro v x hx,(hr x hx).1,λb e=>((hr x hx).2 b e).imp_right λh=>h.1⟩)
theorem zw {α:Type} [Cl α] (hc:∀args w,(callFunc f args).run P w=.ok (.enter f args) w) (h:∀w,A_ w0 w L->Calls P f args.toArray w (Aj α (SL w0 S L) w))
    (hf:evF F y=some (.func (.func f) #[] #[])) (hargs:xs.map (evF F)=args.map some) (hd:Nat.ble (d+1) n=true) (next:∀a:α,At w0 S a->AP P ops rest Q n ((d,Cl.val a)::F) w0 (Cl.rows a++L)) :
    AP P ops (⟨some d,.call { callee:=.value y,args:=xs.toArray,argTypes:=ts },t,p,af,none⟩::rest) Q n F w0 L:=AP.callRg (AG rfl) hc h hf hargs hd next
theorem EW {ops:Array Oper} {o:Oper} {j t:Nat} {b:Bool} (h:o.guard=some (j,b)) (hj:(ops[j]?).bind (·.dst)=some t) (ht:F.lookup t=some undef):∀a,Cg n a F->Region.wanted o (yielded ops a.tmps)=false:=λa ha=>by
  have h1:=ha.2.2 t _ ht
  simp [Region.wanted,h,yielded,hj,h1,undef]
end
end
def Ej (bs:List Nat):Nat->Nat
  | 0=>0
  | m+1=>if bs.getD m 0=0 then Ej bs m else m+1
theorem Nc {bs:List Nat} {k:Nat} (h:0<k) (h0:bs.getD (k-1) 0=0):Ej bs k=Ej bs (k-1):=by
  obtain ⟨j,rfl⟩:∃j,k=j+1:=⟨k-1,Z⟩
  simp only [Ej];rw [if_pos (by simpa using h0)];simp
theorem Nd {bs:List Nat} {k:Nat} (h:¬(0<k/\bs.getD (k-1) 0=0)):Ej bs k=k:=by
  cases k with
  | zero=>rfl
  | succ j=>simp only [Ej];rw [if_neg (by simpa using h)]
theorem Kx (bs:List Nat):∀m,Ej bs m<=m
  | 0=>Nat.le_refl _
  | m+1=>by
    simp only [Ej]
    split
    · have:=Kx bs m;omega
    · exact Nat.le_refl _
theorem Nb (bs:List Nat):∀m,Ej bs m≠0->bs.getD (Ej bs m-1) 0≠0
  | 0,h=>absurd rfl h
  | m+1,h=>by
    simp only [Ej] at h ⊢
    split
    · rename_i h0;rw [if_pos h0] at h;exact Nb bs m h
    · rename_i h0;simpa using h0
theorem Mu (bs:List Nat):∀m,val (bs.take (Ej bs m))=val (bs.take m)
  | 0=>rfl
  | m+1=>by
    simp only [Ej]
    split
    · rename_i h0;rw [Mu bs m,Bj,h0];omega
    · rfl
theorem KA {bs:List Nat} (hb:W32 bs) {m:Nat} (hm:m<=bs.length):AL (val (bs.take m))=bs.take (Ej bs m):=by
  rw [<-Mu]
  refine O9 (hb.take _) λx hx=>?_
  have hle:=Kx bs m
  have hne:Ej bs m≠0:=λh0=>by rw [h0] at hx;simp at hx
  have hl:(bs.take (Ej bs m)).getLast?=some (bs.getD (Ej bs m-1) 0):=by
    rw [List.getLast?_eq_getElem?]
    have h1:(bs.take (Ej bs m)).length-1=Ej bs m-1:=by simp;omega
    rw [h1,List.getElem?_take,if_pos Z]
    have h2:Ej bs m-1<bs.length:=by omega
    simp [h2]
  rw [hl] at hx
  injection hx with hx
  rw [<-hx]
  exact Nb bs m hne
theorem Rn {bs:List Nat} (hb:W32 bs) {m:Nat} (hm:m<=bs.length):nw (val (bs.take m))=Ej bs m:=by
  unfold nw
  rw [KA hb hm,List.length_take]
  have:=Kx bs m
  omega
theorem Io {v:Nat} (h:v<18446744073709551616):small v=true:=by simp [small,h]
theorem KX {v:Nat} (h:¬v<18446744073709551616):small v=false:=by simp [small,h]
theorem Ed {v:Nat} (h:v<18446744073709551616):AW v=[.int .u64 (v:Nat),.string ByteArray.empty]:=by
  simp [AW,CM,Bw,Io h]
theorem Bp {v:Nat} (h:v<18446744073709551616):CM v=v:=by simp [CM,Io h]
def bytesN (xs:List Nat):List Nat:=xs.flatMap λx=>[x%256,x/256%256,x/65536%256,x/16777216%256]
theorem CP (xs:List Nat):(bytesN xs).length=4*xs.length:=by
  induction xs with
  | nil=>rfl
  | cons x xs ih=>simp [bytesN] at ih ⊢;omega
theorem M9 (xs ys:List Nat):bytesN (xs++ys)=bytesN xs++bytesN ys:=by simp [bytesN]
theorem NU (xs:List Nat):EA (bytesN xs)=⟨(xs.flatMap Vz).toArray⟩:=by
  unfold EA
  congr 2
  induction xs with
  | nil=>rfl
  | cons x xs ih =>
    simp only [bytesN,List.flatMap_cons,List.map_append] at ih ⊢
    rw [ih]
    rfl
theorem Wy {v:Nat} (h:¬v<18446744073709551616):AW v=[.int .u64 (0:Nat),.string (EA (bytesN (AL v)))]:=by
  simp [AW,CM,Bw,KX h,NU]
theorem IZ {v:Nat} (h:v<18446744073709551616):Bw v=ByteArray.empty:=by simp [Bw,Io h]
theorem Fz {v:Nat} (h:¬v<18446744073709551616):Bw v=EA (bytesN (AL v)):=by simp [Bw,KX h,NU]
theorem Mg (xs:List Nat):(EA xs).size=xs.length:=by simp [EA,ByteArray.size]
theorem U_ {xs:List Nat} {j:Nat} (h:j<xs.length):(EA xs)[j]?=some (UInt8.ofNat (xs.getD j 0)):=by
  have h1:j<(EA xs).size:=by rw [Mg];exact h
  rw [getElem?_pos (EA xs) j h1]
  congr 1
  show (EA xs).data[j]'h1=_
  simp [EA,h]
theorem Gy:∀(xs:List Nat) (i k:Nat),i<xs.length->k<4->(bytesN xs).getD (4*i+k) 0=xs.getD i 0/256^k%256
  | [],i,k,h,_=>by simp at h
  | x::xs,0,k,_,hk=>by
    rcases k with _|_|_|_|k
    · simp [bytesN]
    · simp [bytesN]
    · simp [bytesN]
    · simp [bytesN]
    · omega
  | x::xs,i+1,k,h,hk=>by
    have ih:=Gy xs i k (by simpa using h) hk
    have e:4*(i+1)+k=(4*i+k)+4:=by omega
    rw [e,List.getD_cons_succ,<-ih]
    simp [bytesN]
theorem Rm {v:Nat} (h:¬v<18446744073709551616):2<nw v:=by
  rcases Nat.lt_or_ge 2 (nw v) with h1|h1
  · exact h1
  · exact absurd (Cp.1 h1) Z
theorem Cv {v:Nat}:((Bw v).toList == (ByteArray.mk #[]).toList)=decide (v<18446744073709551616):=by
  by_cases h:v<18446744073709551616
  · rw [IZ h];simp [h]
  · have h1:=Rm h
    rw [ByteArray.toList_eq,ByteArray.toList_eq]
    have h2:(Bw v).data.toList≠[]:=λe=>by
      have h3:(Bw v).data.toList.length=0:=by rw [e];rfl
      rw [Fz h] at h3
      simp [EA,CP] at h3
      unfold nw at h1
      omega
    have h4:((Bw v).data.toList == [])=false:=by
      cases hl:(Bw v).data.toList with
      | nil=>exact absurd hl h2
      | cons=>rfl
    rw [show (ByteArray.mk #[]).data.toList=[] from rfl,h4]
    simp [h]
def Ax (v:Nat):List Nat:=if v<18446744073709551616 then [v%4294967296,v/4294967296] else AL v
theorem Ci (v:Nat):W32 (Ax v):=by
  unfold Ax
  split
  · exact W32.cons Z (W32.cons Z W32.nil)
  · exact B7 v
theorem Z4 {v:Nat} (h:v<18446744073709551616):W32 [v%4294967296,v/4294967296]:=W32.cons Z (W32.cons Z W32.nil)
theorem Cd (v:Nat):nw v<=(Ax v).length:=by
  unfold Ax
  split
  · rename_i h;exact JF h
  · exact Nat.le_refl _
theorem JJ (v:Nat):(Ax v).take (nw v)=AL v:=by
  unfold Ax
  split
  · rename_i h
    have e:v=val ([v%4294967296,v/4294967296].take 2):=by simp [val];omega
    have hw:W32 [v%4294967296,v/4294967296]:=W32.cons Z (W32.cons Z W32.nil)
    have h1:=KA hw (m:=2) jX
    have h2:=Rn hw (m:=2) jX
    rw [<-e] at h1 h2
    rw [h2,<-h1]
  · exact List.take_of_length_le (Nat.le_refl _)
theorem Tb (v:Nat):val (Ax v)=v:=by
  unfold Ax
  split
  · simp [val];omega
  · exact C6 v
theorem Il {a b s:Nat} (ha:a<2^s):a ||| b*2^s=a+b*2^s:=by
  rw [Nat.or_comm,Nat.mul_comm,<-Nat.two_pow_add_eq_or_of_lt ha];omega
theorem K6 {a b:Nat} (ha:a<18446744073709551616) (hb:b<18446744073709551616) {c:Nat} (hc:a ||| b=c):IntKind.u64.wrap ((BitVec.ofInt IntKind.u64.bits (a:Int) ||| BitVec.ofInt IntKind.u64.bits (b:Int)).toNat:Int)=(c:Int):=by
  have e:(BitVec.ofInt IntKind.u64.bits (a:Int) ||| BitVec.ofInt IntKind.u64.bits (b:Int)).toNat=a ||| b:=by
    show (BitVec.ofInt 64 (a:Int) ||| BitVec.ofInt 64 (b:Int)).toNat=_
    rw [BitVec.toNat_or,BitVec.ofInt_natCast,BitVec.ofInt_natCast,BitVec.toNat_ofNat,BitVec.toNat_ofNat,Nat.mod_eq_of_lt (show a<2^64 by omega),Nat.mod_eq_of_lt (show b<2^64 by omega)]
  rw [e,hc]
  have h2:a ||| b<2^64:=Nat.or_lt_two_pow ha hb
  exact ED Z Z
theorem K5 {a b:Nat} (ha:a<4294967296) (hb:b<4294967296) {c:Nat} (hc:a ||| b=c):IntKind.u32.wrap ((BitVec.ofInt IntKind.u32.bits (a:Int) ||| BitVec.ofInt IntKind.u32.bits (b:Int)).toNat:Int)=(c:Int):=by
  have e:(BitVec.ofInt IntKind.u32.bits (a:Int) ||| BitVec.ofInt IntKind.u32.bits (b:Int)).toNat=a ||| b:=by
    show (BitVec.ofInt 32 (a:Int) ||| BitVec.ofInt 32 (b:Int)).toNat=_
    rw [BitVec.toNat_or,BitVec.ofInt_natCast,BitVec.ofInt_natCast,BitVec.toNat_ofNat,BitVec.toNat_ofNat,Nat.mod_eq_of_lt (show a<2^32 by omega),Nat.mod_eq_of_lt (show b<2^32 by omega)]
  rw [e,hc]
  have h2:a ||| b<2^32:=Nat.or_lt_two_pow ha hb
  exact H5 Z Z
theorem Hx {a s:Nat} (h:a*2^s<18446744073709551616):IntKind.u64.wrap ((a:Int)*2^s)=((a*2^s:Nat):Int):=by
  have e:(a:Int)*2^s=((a*2^s:Nat):Int):=by simp
  rw [e,ED Z Z]
theorem Xm {a s:Nat} (h:a*2^s<4294967296):IntKind.u32.wrap ((a:Int)*2^s)=((a*2^s:Nat):Int):=by
  have e:(a:Int)*2^s=((a*2^s:Nat):Int):=by simp
  rw [e,H5 Z Z]
theorem N1 {a s:Nat}:IntKind.u32.wrap ((a:Int)*2^s)=((a*2^s%4294967296:Nat):Int):=by
  have e:(a:Int)*2^s=((a*2^s:Nat):Int):=by simp
  rw [e];exact FT
theorem XM (k:Nat):(256:Nat)^k=2^(8*k):=by rw [show (256:Nat)=2^8 from rfl,<-Nat.pow_mul]
theorem Sf {w k:Nat} (hk:k<4):w/256^k%256*2^(8*k)<4294967296:=by
  rcases k with _|_|_|_|k
  · simp;omega
  · simp;omega
  · simp;omega
  · simp;omega
  · omega
theorem Tp {w k x:Nat} (hx:x=w%256^k):x ||| w/256^k%256*2^(8*k)=w%256^(k+1):=by
  subst hx
  rw [Il (by rw [<-XM];exact Nat.mod_lt _ (Nat.pow_pos Z)),<-XM,Nat.mod_pow_succ,Nat.mul_comm]
theorem SQ {os ws xs:List Nat} {n i:Nat} (hl:os.length=n) (hn:ws.length=n) (hi:i<n) (ht:os.take i=ws.take i) (h0:∀j,i<=j->os.getD j 0=0) (hx:xs=os.set i (ws.getD i 0)) :
    xs.length=n/\xs.take (i+1)=ws.take (i+1)/\∀j,i+1<=j->xs.getD j 0=0:=by
  subst hx
  refine ⟨by simp [hl],?_,λj hj=>?_⟩
  · have e1:i<os.length:=by omega
    have e2:i<ws.length:=by omega
    rw [List.take_add_one,List.take_add_one,List.take_set_of_le (Nat.le_refl _),ht]
    simp [e1,e2]
  · have:=h0 j Z
    rw [List.getD_eq_getElem?_getD,List.getElem?_set_ne Z,<-List.getD_eq_getElem?_getD]
    exact this
theorem Xi {os:List Nat} {i:Nat} (h:os.getD i 0=0):os=os.set i 0:=by
  apply List.ext_getElem jX
  intro j h1 h2
  by_cases e:i=j
  · subst e;simpa [h1] using h
  · simp [e]
theorem bV (k:Nat):(4294967296:Nat)^k=2^(32*k):=by rw [show (4294967296:Nat)=2^32 from rfl,<-Nat.pow_mul]
theorem Xl {x i:Nat} (hx:x<4294967296) (hi:i<2):x*2^(32*i)<18446744073709551616:=by
  rcases i with _|_|i
  · simp;omega
  · simp;omega
  · omega
theorem U9 {n i:Nat} (h:n<4294967296^i) (hi:i<2):n<18446744073709551616:=by
  rcases i with _|_|i
  · simp at h;omega
  · simp at h;omega
  · omega
theorem RC {bs:List Nat} {i K:Nat} (hi:i<K) (hK:K<=bs.length) :
    I7 (Kr (bytesN (bs.take i)++List.replicate (4*(K-i)) 0)) (4*i) (Kr [bs.getD i 0%256,bs.getD i 0/256%256,bs.getD i 0/65536%256,bs.getD i 0/16777216%256])=Kr (bytesN (bs.take (i+1))++List.replicate (4*(K-(i+1))) 0):=by
  have hib:i<bs.length:=by omega
  have e1:bs.take (i+1)=bs.take i++[bs.getD i 0]:=by rw [List.take_add_one];simp [hib]
  have hl:(bytesN (bs.take i)).length=4*i:=by rw [CP,List.length_take];omega
  have e2:List.replicate (4*(K-i)) 0=List.replicate 4 0++List.replicate (4*(K-(i+1))) 0:=by rw [List.replicate_append_replicate];congr 1;omega
  have e3:bytesN [bs.getD i 0]=[bs.getD i 0%256,bs.getD i 0/256%256,bs.getD i 0/65536%256,bs.getD i 0/16777216%256]:=by simp [bytesN]
  rw [e1,M9,e3,e2]
  unfold I7 Kr
  simp only [List.map_append]
  rw [List.take_append_of_le_length (by simp [hl]),List.take_of_length_le (by simp [hl])]
  rw [show 4*i+(List.map (λx=>Value.int IntKind.u8 (x:Nat)) [bs.getD i 0%256,bs.getD i 0/256%256,bs.getD i 0/65536%256,bs.getD i 0/16777216%256]).length=4*i+4 from rfl]
  rw [List.drop_append,List.drop_of_length_le (by simp [hl])]
  simp [hl]
theorem Xf {os ws:List Nat} {n i:Nat} (hl:os.length=n) (hn:ws.length=n) (hi:¬i<n) (ht:os.take i=ws.take i):os=ws:=by
  rwa [List.take_of_length_le Z,List.take_of_length_le Z] at ht
section
theorem Wo {a:Nat}:IntKind.u64.wrap (a:Int)=((a%18446744073709551616:Nat):Int):=by
  simp only [IntKind.wrap,IntKind.bits,IntKind.signed];simp
theorem Wq {a b:Nat}:IntKind.u64.wrap ((a:Int)*(b:Int))=((a*b%18446744073709551616:Nat):Int):=by
  rw [<-Int.natCast_mul];exact Wo
theorem Vo {a b:Nat}:IntKind.u32.wrap ((a:Int)+(b:Int))=(((a+b)%4294967296:Nat):Int):=by
  rw [<-Int.natCast_add];exact FT
theorem QZ {a b:Nat} (h:b<=4294967296):IntKind.u32.wrap ((a:Int)-(b:Int))=(((a+(4294967296-b))%4294967296:Nat):Int):=by
  simp only [IntKind.wrap,IntKind.bits,IntKind.signed];simp;omega
theorem N6 {a:Nat} (h:a<18446744073709551616):(BitVec.ofInt IntKind.u64.bits (a:Int)).toNat=a:=by
  show (BitVec.ofInt 64 (a:Int)).toNat=_
  rw [BitVec.ofInt_natCast,BitVec.toNat_ofNat,Nat.mod_eq_of_lt Z]
theorem IH {a:Nat} (h:a<4294967296):(BitVec.ofInt IntKind.u32.bits (a:Int)).toNat=a:=by
  show (BitVec.ofInt 32 (a:Int)).toNat=_
  rw [BitVec.ofInt_natCast,BitVec.toNat_ofNat,Nat.mod_eq_of_lt Z]
theorem Vq {a b:Nat} (ha:a<18446744073709551616) (hb:b<18446744073709551616):IntKind.u64.wrap ((BitVec.ofInt IntKind.u64.bits (a:Int) &&& BitVec.ofInt IntKind.u64.bits (b:Int)).toNat:Int)=((a &&& b:Nat):Int):=by
  rw [BitVec.toNat_and,N6 ha,N6 hb]
  have:a &&& b<=a:=Nat.and_le_left
  exact ED Z Z
theorem Jt {a:Nat} (ha:a<18446744073709551616):IntKind.u64.wrap ((BitVec.ofInt IntKind.u64.bits (a:Int) &&& BitVec.ofInt IntKind.u64.bits ((4294967295:Nat):Int)).toNat:Int)=((a%4294967296:Nat):Int):=by
  rw [Vq ha Z,show (4294967295:Nat)=2^32-1 from rfl,Nat.and_two_pow_sub_one_eq_mod]
theorem PY {a b:Nat} (ha:a<4294967296) (hb:b<4294967296):IntKind.u32.wrap ((BitVec.ofInt IntKind.u32.bits (a:Int) &&& BitVec.ofInt IntKind.u32.bits (b:Int)).toNat:Int)=((a &&& b:Nat):Int):=by
  rw [BitVec.toNat_and,IH ha,IH hb]
  have:a &&& b<=a:=Nat.and_le_left
  exact H5 Z Z
theorem Qp {a b:Nat} (ha:a<4294967296) (hb:b<4294967296):IntKind.u32.wrap ((BitVec.ofInt IntKind.u32.bits (a:Int) ^^^ BitVec.ofInt IntKind.u32.bits (b:Int)).toNat:Int)=((a ^^^ b:Nat):Int):=by
  rw [BitVec.toNat_xor,IH ha,IH hb]
  have:a ^^^ b<2^32:=Nat.xor_lt_two_pow ha hb
  exact H5 Z Z
theorem Pl {a:Nat} (ha:a<4294967296):IntKind.u32.wrap ((BitVec.ofInt IntKind.u32.bits (if IntKind.u32.signed then -1 else IntKind.u32.max) ^^^ BitVec.ofInt IntKind.u32.bits (a:Int)).toNat:Int)=((4294967295 ^^^ a:Nat):Int):=by
  rw [show (if IntKind.u32.signed then -1 else IntKind.u32.max)=((4294967295:Nat):Int) from rfl]
  exact Qp Z ha
def KG (x y:Nat):Nat:=if x<y then 1 else 0
theorem fp {r:Nat} (h:r<4294967296):r/2147483648=if r.testBit 31 then 1 else 0:=by
  have e:r.testBit 31=decide (r/2147483648%2=1):=Nat.testBit_eq_decide_div_mod_eq ..
  rw [e]
  by_cases h1:r/2147483648%2=1
  · rw [if_pos (by simpa using h1)];omega
  · rw [if_neg (by simpa using h1)];omega
theorem Se {x:Nat} (h:x<4294967296):x.testBit 31=decide (2147483648<=x):=by
  rw [Nat.testBit_eq_decide_div_mod_eq]
  exact decide_eq_decide.2 Z
theorem Vx {x y c:Nat} (hx:x<4294967296) (hy:y<4294967296) (hc:c<=1) {d:Nat} (hd:d=(x+(4294967296-y)+(4294967296-c))%4294967296) :
    ((4294967295 ^^^ x) &&& y ||| (4294967295 ^^^ (x ^^^ y)) &&& d)/2147483648=KG x (y+c):=by
  have hd':d<4294967296:=by omega
  have h1:((4294967295 ^^^ x) &&& y ||| (4294967295 ^^^ (x ^^^ y)) &&& d)<2^32:=by
    refine Nat.or_lt_two_pow ?_ ?_
    · exact Nat.lt_of_le_of_lt Nat.and_le_right hy
    · exact Nat.lt_of_le_of_lt Nat.and_le_right hd'
  rw [fp Z]
  simp only [Nat.testBit_or,Nat.testBit_and,Nat.testBit_xor,Se hx,Se hy,Se hd',Se (show 4294967295<4294967296 by omega)]
  unfold KG
  by_cases h2:2147483648<=x<;>by_cases h3:2147483648<=y<;>by_cases h4:2147483648<=d<;>simp [h2,h3,h4]<;>omega
theorem Wp (x y:Nat):x/4294967296*(y/4294967296)+(x/4294967296*(y%4294967296)+x%4294967296*(y%4294967296)/4294967296)/4294967296+((x/4294967296*(y%4294967296)+x%4294967296*(y%4294967296)/4294967296)%4294967296+x%4294967296*(y/4294967296))/4294967296=x*y/18446744073709551616:=by
  have e:x*y=x%4294967296*(y%4294967296)+4294967296*(x/4294967296*(y%4294967296)+x%4294967296*(y/4294967296))+18446744073709551616*(x/4294967296*(y/4294967296)):=by
    have hx:x=x%4294967296+4294967296*(x/4294967296):=by omega
    have hy:y=y%4294967296+4294967296*(y/4294967296):=by omega
    generalize x%4294967296=a at *
    generalize x/4294967296=b at *
    generalize y%4294967296=c at *
    generalize y/4294967296=d at *
    subst hx;subst hy
    grind
  rw [e]
  generalize x%4294967296*(y%4294967296)=p
  generalize x/4294967296*(y%4294967296)=q
  generalize x%4294967296*(y/4294967296)=r
  generalize x/4294967296*(y/4294967296)=t
  omega
theorem L6 {a b:Nat} (ha:a<4294967296) (hb:b<4294967296):a*b<=18446744065119617025:=Nat.mul_le_mul (show a<=4294967295 by omega) (show b<=4294967295 by omega)
def bl (x:Nat):Nat:=if x=0 then 0 else Nat.log2 x+1
theorem Ri {x k:Nat} (h:2^k<=x):Nat.log2 x=Nat.log2 (x/2^k)+k:=by
  have hx:x≠0:=by have:=Nat.pow_pos (n:=k) (show 0<2 by omega);omega
  have hq:x/2^k≠0:=by
    have:=Nat.div_pos h (Nat.pow_pos (n:=k) (show 0<2 by omega));omega
  have h1:=(Nat.log2_eq_iff hq).1 rfl
  rw [Nat.log2_eq_iff hx]
  have hm:=Nat.div_add_mod x (2^k)
  have hlt:=Nat.mod_lt x (Nat.pow_pos (n:=k) (show 0<2 by omega))
  constructor
  · rw [Nat.pow_add,Nat.mul_comm]
    exact xK (Nat.mul_le_mul_left _ h1.1) (Nat.mul_div_le x _)
  · rw [show (x/2^k).log2+k+1=((x/2^k).log2+1)+k by omega,Nat.pow_add]
    exact (Nat.div_lt_iff_lt_mul (Nat.pow_pos Z)).1 h1.2
theorem Pb {x k:Nat} (h:2^k<=x):bl x=bl (x/2^k)+k:=by
  have hx:x≠0:=by have:=Nat.pow_pos (n:=k) (show 0<2 by omega);omega
  have hq:x/2^k≠0:=by
    have:=Nat.div_pos h (Nat.pow_pos (n:=k) (show 0<2 by omega));omega
  simp only [bl,hx,hq,if_false,Ri h]
  omega
theorem Vw {x k:Nat} (h:x<2^k):bl x<=k:=by
  unfold bl
  split
  · omega
  · rename_i hx
    have:=(Nat.log2_lt hx).2 h
    omega
theorem UV {y:Nat} (h0:0<y) (h:y<4294967296):bl y<=32/\0<bl y/\2147483648<=y*2^(32-bl y)/\y*2^(32-bl y)<4294967296:=by
  have hy:y≠0:=by omega
  have h1:=(Nat.log2_eq_iff hy).1 rfl
  have h2:=Vw (k:=32) (show y<2^32 by omega)
  have hb:bl y=y.log2+1:=by simp [bl,hy]
  refine ⟨h2,Z,?_,?_⟩
  · rw [hb] at h2 ⊢
    calc 2147483648=2^y.log2*2^(32-(y.log2+1)):=by rw [<-Nat.pow_add,show y.log2+(32-(y.log2+1))=31 by omega]
      _<=_:=Nat.mul_le_mul_right _ h1.1
  · rw [hb] at h2 ⊢
    calc y*2^(32-(y.log2+1))<2^(y.log2+1)*2^(32-(y.log2+1)):=Nat.mul_lt_mul_of_pos_right h1.2 (Nat.pow_pos Z)
      _=4294967296:=by rw [<-Nat.pow_add,show y.log2+1+(32-(y.log2+1))=32 by omega]
theorem df {s:ByteArray} (h:((List.range 256).all λj=>s[j]? == some (UInt8.ofNat (bl j)))=true) {j:Nat} (hj:j<256):s[j]?=some (UInt8.ofNat (bl j)):=by
  simpa using List.all_eq_true.1 h j (List.mem_range.2 hj)
theorem bt {x:Nat} (h:256<=x):bl x=bl (x/256)+8:=Pb (k:=8) h
theorem Xo (z:Int):(if (if z<1 then z else 1) > -1 then (if z<1 then z else 1) else -1)=z.sign:=by
  rcases Int.lt_trichotomy z 0 with h|h|h
  · rw [Int.sign_eq_neg_one_of_neg h,if_pos (show z<1 by omega)];split<;>omega
  · subst h;rfl
  · rw [Int.sign_eq_one_of_pos h,if_neg (show ¬z<1 by omega)];rfl
section
variable {P:Program} {n:Nat} {F:List (Nat×Value)} {w0:Ay} {L:List As} {x y:Operand} {d:Option Tmp} {t:TypeId} {p:String} {af:Array Edge} {g:Option (Nat×Bool)}
theorem Fk {s:ByteArray} {k:IntKind} {j m:Nat} {tx:TypeId} (hx:evF F x=some (.string s)) (hy:evF F y=some (.int k ((j:Nat):Int))) (hu:P.underlying tx=some .string) (hb:s[j]?=some (UInt8.ofNat m)) (hm:m<256):Ex P n F w0 L ⟨d,.index tx x y,t,p,af,g⟩ (.int .u8 ((m:Nat):Int)):=by
  have h:=HQ (P:=P) (n:=n) (F:=F) (w0:=w0) (L:=L) (d:=d) (t:=t) (p:=p) (af:=af) (g:=g) hx hy hu rfl hb
  have e:(UInt8.ofNat m).toNat=m:=by simp;omega
  rwa [e] at h
theorem UB {f:FuncId} {xs:List Operand} {args:List Value} {ts:Array TypeId} {v:Value} (hf:evF F x=some (.func (.func f) #[] #[])) (hargs:xs.map (evF F)=args.map some)
    (hc:∀w,(callFunc f args.toArray).run P w=.ok (.value v) w):Ex P n F w0 L ⟨d,.call { callee:=.value x,args:=xs.toArray,argTypes:=ts },t,p,af,g⟩ v:=λA w ha _=>by
  have e1:xs.toArray.map A.eval=args.toArray:=by rw [<-Lh ha hargs];simp
  simp [execOp,resolve,ha.ev hf,Deferred.ofValue,e1,invoke,hc]
theorem U4 {f : FuncId} {fn : Func} (hf : P.funcs[f]? = some fn) (hname : (fn.name == "runtime.NumGoroutine") = false) (hb : fn.body.isNone = true) (hn : Extern.findNext fn = none) (he : Extern.find fn = some add64Entry) (x y c : Nat) (hc : c ≤ 1) (w : World) :
    (callFunc f #[.int .u64 x,.int .u64 y,.int .u64 c]).run P w=.ok (.value (.tuple #[.int .u64 (((x+y+c)%18446744073709551616:Nat):Int),.int .u64 (((x+y+c)/18446744073709551616:Nat):Int)])) w:=by
  rw [run_callFunc_extern hf hname hb hn he,run_add64 x y c Z Z Z Z]
  simp only [Result.andThen]
  congr 5<;>omega
end
theorem A_.fresh {W w:World} {L:List As} (h:A_ ⟨W,none⟩ w L) {i b:Nat} {T:TypeId} {cs:List Value} (hi:L[i]?=some (AO b T cs)):W.heap.size<=b:=by
  rcases (h.2.1 _ (List.mem_of_getElem? hi) b rfl).1 with h1|h1|h1
  · cases h1
  · exact h1
  · cases h1
end
section
set_option maxRecDepth 100000
theorem M6:Fy prog 2:=⟨isAgg2⟩
theorem Dc:Fy prog 3:=⟨isAgg3⟩
theorem Mj:Fy prog 4:=⟨isAgg4⟩
theorem VT:Fy prog 5:=⟨isAgg5⟩
theorem VD:Fy prog 9:=⟨isAgg9⟩
theorem Ez:Fy prog 23:=⟨isAgg23⟩
theorem iI:Fy prog 24:=⟨isAgg24⟩
theorem ff:Fy prog 27:=⟨isAgg27⟩
theorem av:EG prog 29 2:=⟨isAgg29,sizeOf29⟩
theorem Hy:EG prog 31 4:=⟨isAgg31,sizeOf31⟩
theorem Kl:Fy prog 35:=⟨isAgg35⟩
theorem GQ:EG prog 37 3:=⟨isAgg37,sizeOf37⟩
theorem VC:Fy prog 39:=⟨isAgg39⟩
theorem iJ:Fy prog 40:=⟨isAgg40⟩
theorem Ey:EG prog 42 3:=⟨isAgg42,sizeOf42⟩
theorem dY:Fy prog 45:=⟨isAgg45⟩
theorem aw:Fy prog 46:=⟨isAgg46⟩
theorem Mi:EG prog 49 9:=⟨isAgg49,sizeOf49⟩
theorem Hb:Fy prog 52:=⟨isAgg52⟩
theorem CH:EG prog 54 2:=⟨isAgg54,sizeOf54⟩
theorem VB:EG prog 56 2:=⟨isAgg56,sizeOf56⟩
theorem Du:EG prog 58 3:=⟨isAgg58,sizeOf58⟩
theorem A9:EG prog 60 5:=⟨isAgg60,sizeOf60⟩
theorem BJ:EG prog 62 10:=⟨isAgg62,sizeOf62⟩
theorem Qa:EG prog 64 3:=⟨isAgg64,sizeOf64⟩
theorem O4:Fy prog 72:=⟨isAgg72⟩
theorem Qb:EG prog 75 11:=⟨isAgg75,sizeOf75⟩
theorem Gj:Fy prog 80:=⟨isAgg80⟩
theorem Qc:EG prog 82 2:=⟨isAgg82,sizeOf82⟩
theorem Br:EG prog 84 3:=⟨isAgg84,sizeOf84⟩
theorem Ar:EG prog 86 6:=⟨isAgg86,sizeOf86⟩
theorem X4:EG prog 93 7:=⟨isAgg93,sizeOf93⟩
theorem O5:Fy prog 98:=⟨isAgg98⟩
theorem fX:EG prog 100 3:=⟨isAgg100,sizeOf100⟩
theorem X3:EG prog 108 30:=⟨isAgg108,sizeOf108⟩
theorem B4:EG prog 141 2:=⟨isAgg141,sizeOf141⟩
theorem fY:EG prog 153 15:=⟨isAgg153,sizeOf153⟩
theorem gE:De prog 3 ([(vI 0)]):=⟨_,zeroValue3,rfl⟩
theorem fj:De prog 31 ([(vI 0),(Value.int .u32 (0:Int)),(vI 0),(Value.int .u32 (0:Int))]):=⟨_,zeroValue31,rfl⟩
theorem dZ:De prog 37 ([jj,jj,jj]):=⟨_,zeroValue37,rfl⟩
theorem fk:De prog 42 ([jj,jj,jj]):=⟨_,zeroValue42,rfl⟩
theorem HM:De prog 54 (AW 0):=⟨_,zeroValue54,rfl⟩
theorem fm:De prog 56 (AW 0):=⟨_,zeroValue56,rfl⟩
theorem Km:De prog 58 (A8 0):=⟨_,zeroValue58,rfl⟩
theorem Cq:De prog 60 (AC (0:Rat)):=⟨_,zeroValue60,rfl⟩
theorem Fg:De prog 62 (Ah (⟨0,0⟩:Pt)):=⟨_,zeroValue62,rfl⟩
theorem ax:De prog 64 ([(vI 0),(vI 0),(vI 0)]):=⟨_,zeroValue64,rfl⟩
theorem ay:De prog 72 ([jj]):=⟨_,zeroValue72,rfl⟩
theorem VE:De prog 82 ([(qa false),jj]):=⟨_,zeroValue82,rfl⟩
theorem Hz:De prog 84 ([(qa false),jj,jj]):=⟨_,zeroValue84,rfl⟩
theorem Ja:De prog 86 ([(qa false),jj,jj,(qa false),jj,jj]):=⟨_,zeroValue86,rfl⟩
theorem de:De prog 93 ([(vI 0),(qa false),jj,jj,(qa false),jj,jj]):=⟨_,zeroValue93,rfl⟩
theorem TW:De prog 100 ([jj,jj,jj]):=⟨_,zeroValue100,rfl⟩
theorem fg:De prog 102 ([(vI 0),(vI 0)]):=⟨_,zeroValue102,rfl⟩
theorem Qe:De prog 108 (Ah (⟨0,0⟩:Pt)++Ah (⟨0,0⟩:Pt)++Ah (⟨0,0⟩:Pt)):=⟨_,zeroValue108,rfl⟩
theorem KZ:De prog 141 ([(vI 0),(vI 0)]):=⟨_,zeroValue141,rfl⟩
theorem IU:De prog 153 (AC (0:Rat)++AC (0:Rat)++AC (0:Rat)):=⟨_,zeroValue153,rfl⟩
theorem fh:De prog 195 ([(vI 0),(vI 0),(vI 0),(vI 0)]):=⟨_,zeroValue195,rfl⟩
theorem fi:De prog 257 ([(Value.int .u8 (0:Int)),(Value.int .u8 (0:Int)),(Value.int .u8 (0:Int)),(Value.int .u8 (0:Int)),(Value.int .u8 (0:Int)),(Value.int .u8 (0:Int)),(Value.int .u8 (0:Int)),(Value.int .u8 (0:Int)),(Value.int .u8 (0:Int)),(Value.int .u8 (0:Int)),(Value.int .u8 (0:Int)),(Value.int .u8 (0:Int)),(Value.int .u8 (0:Int)),(Value.int .u8 (0:Int)),(Value.int .u8 (0:Int)),(Value.int .u8 (0:Int)),(Value.int .u8 (0:Int)),(Value.int .u8 (0:Int)),(Value.int .u8 (0:Int)),(Value.int .u8 (0:Int)),(Value.int .u8 (0:Int)),(Value.int .u8 (0:Int)),(Value.int .u8 (0:Int)),(Value.int .u8 (0:Int))]):=⟨_,zeroValue257,rfl⟩
end
end Go.Proofs.YtcpkbjjmcleplaaGreatDoor
