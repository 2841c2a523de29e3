import Derived.Laws.Externs
import Derived.Test.YtpgncndhhhllfaaGreatPart02
import Derived.Test.YtpgncndhhhllfaaGreatPart03
import Derived.Test.YtpgncndhhhllfaaGreatPart04
import Derived.Test.YtpgncndhhhllfaaGreatPart05
namespace Go.Proofs.YtpgncndhhhllfaaGreat
open Go Go.RowKit Go.Proofs.Tryz
set_option linter.unusedVariables false
set_option linter.unusedSimpArgs false
section
section
variable {w0:BL} {L:List As}
theorem BS.addRo {w w':World} {a:As} (h:BS w0 w L) (hb:GJ w.heap.size w w') (hr:a.ro=true) (hh:Holds w' a) (hs:∀b,a.foot=some b->w.heap.size<=b\/∃y∈L,y.ro=true/\y.foot=some b):BS w0 w' (a::L):=by
  have h1:=h.below hb
  refine ⟨h1.1,λz hz b e=>?_,List.pairwise_cons.2 ⟨λz hz=>?_,h1.2.2⟩⟩
  · rcases List.mem_cons.1 hz with rfl|hz
    · exact ⟨.inl hr,hh b e⟩
    · exact h1.2.1 z hz b e
  · cases hf:a.foot with
    | none=>exact .inr λb e=>by cases e
    | some b =>
      rcases hs b hf with h2|⟨y,hy,hyr,hyf⟩
      · refine .inr λb' e e2=>?_
        injection e with e;subst e
        exact absurd (h.lt hz e2) Z
      · have h3:=Nr hr hyr hf hyf (NZ h.2.2 y hy z hz)
        rw [<-hf];exact h3
end
class Cf (α:Type) where
  val:α->Value
  rows:α->List As
  ro:∀a,∀y∈rows a,y.ro=true
def Ro (S:Nat->Prop) (w:World) {α:Type} [Cf α] (a:α):Prop:=∀y∈Cf.rows a,Holds w y/\∀b,y.foot=some b->S b
def Am (α:Type) [Cf α] (S:Nat->Prop) (W:World) (e:Ending) (w:World):Prop :=
  ∃a:α,e=.returned (Cf.val a)/\GJ W.heap.size W w/\Ro (λb=>W.heap.size<=b\/S b) w a
def Nw (w0:BL) (S:Nat->Prop) (b:Nat):Prop:=w0.w.heap.size<=b\/S b
def SL (w0:BL) (S:Nat->Prop) (L:List As) (b:Nat):Prop:=(∃y∈L,y.ro=true/\y.foot=some b)/\Nw w0 S b
def At (w0:BL) (S:Nat->Prop) {α:Type} [Cf α] (a:α):Prop:=∀y∈Cf.rows a,∀b,y.foot=some b->Nw w0 S b
section
variable {w0:BL} {S:Nat->Prop} {w W:World} {L:List As} {α:Type} [Cf α]
theorem Br (hw:BS w0 w L) (i:Nat) {a:α} (hi:(L.drop i).take (Cf.rows a).length=Cf.rows a) (ha:At w0 S a):Ro (SL w0 S L) w a:=λy hy=>by
  have hm:y∈L:=List.mem_of_mem_drop (i:=i) (List.mem_of_mem_take (i:=(Cf.rows a).length) (by rw [hi];exact hy))
  exact ⟨λb e=>(hw.2.1 y hm b e).2,λb e=>⟨⟨y,hm,Cf.ro a y hy,e⟩,ha y hy b e⟩⟩
theorem Ro.mono {S':Nat->Prop} {a:α} (h:Ro S w a) (hs:∀b,S b->S' b):Ro S' w a:=λy hy=>⟨(h y hy).1,λb e=>hs b ((h y hy).2 b e)⟩
theorem Dk {a:α} (h:Ro S w a):At ⟨W,none⟩ S a:=λy hy b e=>.inr ((h y hy).2 b e)
theorem G9 {a:α} {v:Value} (hw:BS ⟨W,none⟩ w L) (h:Ro (SL ⟨W,none⟩ S L) w a) (hv:v=Cf.val a):Am α S W (.returned v) w:=⟨a,by rw [hv],hw.out,h.mono λb h=>h.2⟩
theorem Am.cast {ι:Type} {T:ι->Type} [∀i,Cf (T i)] {i j:ι} (h:i=j) {f:FuncId} {P:Program} {args:Array Value} (k:Calls P f args W (Am (T i) S W)):Calls P f args W (Am (T j) S W):=h▸k
theorem E3 {a:α} (h:Ro S w a) (t:∀y∈L,y.ro=true/\Holds w y):∀y∈Cf.rows a++L,y.ro=true/\Holds w y:=λy hy=>(List.mem_append.1 hy).elim (λk=>⟨Cf.ro a y k,(h y k).1⟩) (t y)
end
theorem BS.addRos {w0:BL} {w w':World} {L:List As} (h:BS w0 w L) (hb:GJ w.heap.size w w'):∀(xs:List As),(∀x∈xs,x.ro=true/\Holds w' x/\∀b,x.foot=some b->w.heap.size<=b\/∃y∈L,y.ro=true/\y.foot=some b)->BS w0 w' (xs++L)
  | [],_=>h.below hb
  | x::xs,hx=>by
    have h1:=BS.addRos h hb xs λy hy=>hx y (List.mem_cons_of_mem _ hy)
    obtain ⟨hr,hh,hs⟩:=hx x List.mem_cons_self
    have h2:=h.addRo hb hr hh hs
    refine ⟨h1.1,λy hy=>(List.mem_cons.1 hy).elim (λe=>h2.2.1 y (e▸List.mem_cons_self)) (λe=>h1.2.1 y e),List.pairwise_cons.2 ⟨λy hy=>?_,h1.2.2⟩⟩
    rcases List.mem_append.1 hy with hy|hy
    · exact .inl ⟨hr,(hx y (List.mem_cons_of_mem _ hy)).1⟩
    · exact (List.pairwise_cons.1 h2.2.2).1 y hy
section
variable {P:Program} {ops:Array Oper} {rest:List Oper} {Q:Exit->Act->World->Prop} {n d:Nat} {F:List (Nat×Value)} {w0:BL} {S:Nat->Prop} {L:List As} {t:TypeId} {p:String} {af:Array Edge} {y:Operand} {f:FuncId} {xs:List Operand} {args:List Value} {ts:Array TypeId}
theorem AC.callRg {α:Type} [Cf α] {g:Option (Nat×Bool)} (hw:Wt ops n F ⟨some d,.call { callee:=.value y,args:=xs.toArray,argTypes:=ts },t,p,af,g⟩) (hc:∀args w,(callFunc f args).run P w=.ok (.enter f args) w) (h:∀w,BS w0 w L->Calls P f args.toArray w (Am α (SL w0 S L) w))
    (hf:evF F y=some (.func (.func f) #[] #[])) (hargs:xs.map (evF F)=args.map some) (hd:Nat.ble (d+1) n=true) (next:∀a:α,At w0 S a->AC P ops rest Q n ((d,Cf.val a)::F) w0 (Cf.rows a++L)) :
    AC P ops (⟨some d,.call { callee:=.value y,args:=xs.toArray,argTypes:=ts },t,p,af,g⟩::rest) Q n F w0 L:=λa w ha hW=>by
  unfold wpList
  rw [if_pos (hw a ha)]
  left
  unfold Oper.wp
  rw [A_ hf hargs hc a w ha hW,Oper.upon_enter]
  refine (h w hW).mono ?_
  rintro e w' ⟨v,rfl,hb,hr⟩
  exact next v (λy hy b e=>((hr y hy).2 b e).elim (λh=>.inl (Nat.le_trans hW.1.size h)) λh=>h.2) _ _ (ha.put (Bx hd)) (hW.addRos hb _ λx hx=>⟨Cf.ro v x hx,(hr x hx).1,λb e=>((hr x hx).2 b e).imp_right λh=>h.1⟩)
theorem AC.callR {α:Type} [Cf α] (hc:∀args w,(callFunc f args).run P w=.ok (.enter f args) w) (h:∀w,BS w0 w L->Calls P f args.toArray w (Am α (SL w0 S L) w))
    (hf:evF F y=some (.func (.func f) #[] #[])) (hargs:xs.map (evF F)=args.map some) (hd:Nat.ble (d+1) n=true) (next:∀a:α,At w0 S a->AC P ops rest Q n ((d,Cf.val a)::F) w0 (Cf.rows a++L)) :
    AC P ops (⟨some d,.call { callee:=.value y,args:=xs.toArray,argTypes:=ts },t,p,af,none⟩::rest) Q n F w0 L:=AC.callRg (AP rfl) hc h hf hargs hd next
theorem Aj {ops:Array Oper} {o:Oper} {j t:Nat} {b:Bool} (h:o.guard=some (j,b)) (hj:(ops[j]?).bind (·.dst)=some t) (ht:F.lookup t=some undef):∀a,C2 n a F->Region.wanted o (yielded ops a.tmps)=false:=λa ha=>by
  have h1:=ha.2.2 t _ ht
  simp [Region.wanted,h,yielded,hj,h1,undef]
end
end
def Dp (bs:List Nat):Nat->Nat
  | 0=>0
  | m+1=>if bs.getD m 0=0 then Dp bs m else m+1
theorem TG {bs:List Nat} {k:Nat} (h:0<k) (h0:bs.getD (k-1) 0=0):Dp bs k=Dp bs (k-1):=by
  obtain ⟨j,rfl⟩:∃j,k=j+1:=⟨k-1,Z⟩
  simp only [Dp];rw [if_pos (by simpa using h0)];simp
theorem Sv {bs:List Nat} {k:Nat} (h:¬(0<k/\bs.getD (k-1) 0=0)):Dp bs k=k:=by
  cases k with
  | zero=>rfl
  | succ j=>simp only [Dp];rw [if_neg (by simpa using h)]
theorem Jd (bs:List Nat):∀m,Dp bs m<=m
  | 0=>Nat.le_refl _
  | m+1=>by
    simp only [Dp]
    split
    · have:=Jd bs m;omega
    · exact Nat.le_refl _
theorem MH (bs:List Nat):∀m,Dp bs m≠0->bs.getD (Dp bs m-1) 0≠0
  | 0,h=>absurd rfl h
  | m+1,h=>by
    simp only [Dp] at h ⊢
    split
    · rename_i h0;rw [if_pos h0] at h;exact MH bs m h
    · rename_i h0;simpa using h0
theorem KO (bs:List Nat):∀m,val (bs.take (Dp bs m))=val (bs.take m)
  | 0=>rfl
  | m+1=>by
    simp only [Dp]
    split
    · rename_i h0;rw [KO bs m,Bb,h0];omega
    · rfl
theorem IY {bs:List Nat} (hb:W32 bs) {m:Nat} (hm:m<=bs.length):AR (val (bs.take m))=bs.take (Dp bs m):=by
  rw [<-KO]
  refine Mq (hb.take _) λx hx=>?_
  have hle:=Jd bs m
  have hne:Dp bs m≠0:=λh0=>by rw [h0] at hx;simp at hx
  have hl:(bs.take (Dp bs m)).getLast?=some (bs.getD (Dp bs m-1) 0):=by
    rw [List.getLast?_eq_getElem?]
    have h1:(bs.take (Dp bs m)).length-1=Dp bs m-1:=by simp;omega
    rw [h1,List.getElem?_take,if_pos Z]
    have h2:Dp bs m-1<bs.length:=by omega
    simp [h2]
  rw [hl] at hx
  injection hx with hx
  rw [<-hx]
  exact MH bs m hne
theorem Pb {bs:List Nat} (hb:W32 bs) {m:Nat} (hm:m<=bs.length):nw (val (bs.take m))=Dp bs m:=by
  unfold nw
  rw [IY hb hm,List.length_take]
  have:=Jd bs m
  omega
theorem HT {v:Nat} (h:v<18446744073709551616):small v=true:=by simp [small,h]
theorem JF {v:Nat} (h:¬v<18446744073709551616):small v=false:=by simp [small,h]
theorem De {v:Nat} (h:v<18446744073709551616):Ag v=[.int .u64 (v:Nat),.string ByteArray.empty]:=by
  simp [Ag,CC,Bn,HT h]
theorem Bm {v:Nat} (h:v<18446744073709551616):CC v=v:=by simp [CC,HT h]
def bytesN (xs:List Nat):List Nat:=xs.flatMap λx=>[x%256,x/256%256,x/65536%256,x/16777216%256]
theorem B9 (xs:List Nat):(bytesN xs).length=4*xs.length:=by
  induction xs with
  | nil=>rfl
  | cons x xs ih=>simp [bytesN] at ih ⊢;omega
theorem LQ (xs ys:List Nat):bytesN (xs++ys)=bytesN xs++bytesN ys:=by simp [bytesN]
theorem L4 (xs:List Nat):DI (bytesN xs)=⟨(xs.flatMap WO).toArray⟩:=by
  unfold DI
  congr 2
  induction xs with
  | nil=>rfl
  | cons x xs ih =>
    simp only [bytesN,List.flatMap_cons,List.map_append] at ih ⊢
    rw [ih]
    rfl
theorem Vr {v:Nat} (h:¬v<18446744073709551616):Ag v=[.int .u64 (0:Nat),.string (DI (bytesN (AR v)))]:=by
  simp [Ag,CC,Bn,JF h,L4]
theorem Hg {v:Nat} (h:v<18446744073709551616):Bn v=ByteArray.empty:=by simp [Bn,HT h]
theorem E1 {v:Nat} (h:¬v<18446744073709551616):Bn v=DI (bytesN (AR v)):=by simp [Bn,JF h,L4]
theorem Ks (xs:List Nat):(DI xs).size=xs.length:=by simp [DI,ByteArray.size]
theorem S2 {xs:List Nat} {j:Nat} (h:j<xs.length):(DI xs)[j]?=some (UInt8.ofNat (xs.getD j 0)):=by
  have h1:j<(DI xs).size:=by rw [Ks];exact h
  rw [getElem?_pos (DI xs) j h1]
  congr 1
  show (DI xs).data[j]'h1=_
  simp [DI,h]
theorem Fs:∀(xs:List Nat) (i k:Nat),i<xs.length->k<4->(bytesN xs).getD (4*i+k) 0=xs.getD i 0/256^k%256
  | [],i,k,h,_=>by simp at h
  | x::xs,0,k,_,hk=>by
    rcases k with _|_|_|_|k
    · simp [bytesN]
    · simp [bytesN]
    · simp [bytesN]
    · simp [bytesN]
    · omega
  | x::xs,i+1,k,h,hk=>by
    have ih:=Fs xs i k (by simpa using h) hk
    have e:4*(i+1)+k=(4*i+k)+4:=by omega
    rw [e,List.getD_cons_succ,<-ih]
    simp [bytesN]
theorem QT {v:Nat} (h:¬v<18446744073709551616):2<nw v:=by
  rcases Nat.lt_or_ge 2 (nw v) with h1|h1
  · exact h1
  · exact absurd (C6.1 h1) Z
theorem Cp {v:Nat}:((Bn v).toList == (ByteArray.mk #[]).toList)=decide (v<18446744073709551616):=by
  by_cases h:v<18446744073709551616
  · rw [Hg h];simp [h]
  · have h1:=QT h
    rw [ByteArray.toList_eq,ByteArray.toList_eq]
    have h2:(Bn v).data.toList≠[]:=λe=>by
      have h3:(Bn v).data.toList.length=0:=by rw [e];rfl
      rw [E1 h] at h3
      simp [DI,B9] at h3
      unfold nw at h1
      omega
    have h4:((Bn v).data.toList == [])=false:=by
      cases hl:(Bn v).data.toList with
      | nil=>exact absurd hl h2
      | cons=>rfl
    rw [show (ByteArray.mk #[]).data.toList=[] from rfl,h4]
    simp [h]
def A8 (v:Nat):List Nat:=if v<18446744073709551616 then [v%4294967296,v/4294967296] else AR v
theorem CS (v:Nat):W32 (A8 v):=by
  unfold A8
  split
  · exact W32.cons Z (W32.cons Z W32.nil)
  · exact Bv v
theorem Yn {v:Nat} (h:v<18446744073709551616):W32 [v%4294967296,v/4294967296]:=W32.cons Z (W32.cons Z W32.nil)
theorem CO (v:Nat):nw v<=(A8 v).length:=by
  unfold A8
  split
  · rename_i h;exact Kc h
  · exact Nat.le_refl _
theorem Hj (v:Nat):(A8 v).take (nw v)=AR v:=by
  unfold A8
  split
  · rename_i h
    have e:v=val ([v%4294967296,v/4294967296].take 2):=by simp [val];omega
    have hw:W32 [v%4294967296,v/4294967296]:=W32.cons Z (W32.cons Z W32.nil)
    have h1:=IY hw (m:=2) (by simp)
    have h2:=Pb hw (m:=2) (by simp)
    rw [<-e] at h1 h2
    rw [h2,<-h1]
  · exact List.take_of_length_le (Nat.le_refl _)
theorem Qq (v:Nat):val (A8 v)=v:=by
  unfold A8
  split
  · simp [val];omega
  · exact CZ v
theorem HZ {a b s:Nat} (ha:a<2^s):a ||| b*2^s=a+b*2^s:=by
  rw [Nat.or_comm,Nat.mul_comm,<-Nat.two_pow_add_eq_or_of_lt ha];omega
theorem Jz {a b:Nat} (ha:a<18446744073709551616) (hb:b<18446744073709551616) {c:Nat} (hc:a ||| b=c):IntKind.u64.wrap ((BitVec.ofInt IntKind.u64.bits (a:Int) ||| BitVec.ofInt IntKind.u64.bits (b:Int)).toNat:Int)=(c:Int):=by
  have e:(BitVec.ofInt IntKind.u64.bits (a:Int) ||| BitVec.ofInt IntKind.u64.bits (b:Int)).toNat=a ||| b:=by
    show (BitVec.ofInt 64 (a:Int) ||| BitVec.ofInt 64 (b:Int)).toNat=_
    rw [BitVec.toNat_or,BitVec.ofInt_natCast,BitVec.ofInt_natCast,BitVec.toNat_ofNat,BitVec.toNat_ofNat,Nat.mod_eq_of_lt (show a<2^64 by omega),Nat.mod_eq_of_lt (show b<2^64 by omega)]
  rw [e,hc]
  have h2:a ||| b<2^64:=Nat.or_lt_two_pow ha hb
  exact DE Z Z
theorem Ju {a b:Nat} (ha:a<4294967296) (hb:b<4294967296) {c:Nat} (hc:a ||| b=c):IntKind.u32.wrap ((BitVec.ofInt IntKind.u32.bits (a:Int) ||| BitVec.ofInt IntKind.u32.bits (b:Int)).toNat:Int)=(c:Int):=by
  have e:(BitVec.ofInt IntKind.u32.bits (a:Int) ||| BitVec.ofInt IntKind.u32.bits (b:Int)).toNat=a ||| b:=by
    show (BitVec.ofInt 32 (a:Int) ||| BitVec.ofInt 32 (b:Int)).toNat=_
    rw [BitVec.toNat_or,BitVec.ofInt_natCast,BitVec.ofInt_natCast,BitVec.toNat_ofNat,BitVec.toNat_ofNat,Nat.mod_eq_of_lt (show a<2^32 by omega),Nat.mod_eq_of_lt (show b<2^32 by omega)]
  rw [e,hc]
  have h2:a ||| b<2^32:=Nat.or_lt_two_pow ha hb
  exact GR Z Z
theorem GC {a s:Nat} (h:a*2^s<18446744073709551616):IntKind.u64.wrap ((a:Int)*2^s)=((a*2^s:Nat):Int):=by
  have e:(a:Int)*2^s=((a*2^s:Nat):Int):=by simp
  rw [e,DE Z Z]
theorem Ue {a s:Nat} (h:a*2^s<4294967296):IntKind.u32.wrap ((a:Int)*2^s)=((a*2^s:Nat):Int):=by
  have e:(a:Int)*2^s=((a*2^s:Nat):Int):=by simp
  rw [e,GR Z Z]
theorem Lj {a s:Nat}:IntKind.u32.wrap ((a:Int)*2^s)=((a*2^s%4294967296:Nat):Int):=by
  have e:(a:Int)*2^s=((a*2^s:Nat):Int):=by simp
  rw [e];exact EN
theorem U4 (k:Nat):(256:Nat)^k=2^(8*k):=by rw [show (256:Nat)=2^8 from rfl,<-Nat.pow_mul]
theorem Q1 {w k:Nat} (hk:k<4):w/256^k%256*2^(8*k)<4294967296:=by
  rcases k with _|_|_|_|k
  · simp;omega
  · simp;omega
  · simp;omega
  · simp;omega
  · omega
theorem TX {w k x:Nat} (hx:x=w%256^k):x ||| w/256^k%256*2^(8*k)=w%256^(k+1):=by
  subst hx
  rw [HZ (by rw [<-U4];exact Nat.mod_lt _ (Nat.pow_pos Z)),<-U4,Nat.mod_pow_succ,Nat.mul_comm]
theorem Qc {os ws xs:List Nat} {n i:Nat} (hl:os.length=n) (hn:ws.length=n) (hi:i<n) (ht:os.take i=ws.take i) (h0:∀j,i<=j->os.getD j 0=0) (hx:xs=os.set i (ws.getD i 0)) :
    xs.length=n/\xs.take (i+1)=ws.take (i+1)/\∀j,i+1<=j->xs.getD j 0=0:=by
  subst hx
  refine ⟨by simp [hl],?_,λj hj=>?_⟩
  · have e1:i<os.length:=by omega
    have e2:i<ws.length:=by omega
    rw [List.take_add_one,List.take_add_one,List.take_set_of_le (Nat.le_refl _),ht]
    simp [e1,e2]
  · have:=h0 j Z
    rw [List.getD_eq_getElem?_getD,List.getElem?_set_ne Z,<-List.getD_eq_getElem?_getD]
    exact this
theorem Wn {os:List Nat} {i:Nat} (h:os.getD i 0=0):os=os.set i 0:=by
  apply List.ext_getElem (by simp)
  intro j h1 h2
  by_cases e:i=j
  · subst e;simpa [h1] using h
  · simp [e]
theorem Y3 (k:Nat):(4294967296:Nat)^k=2^(32*k):=by rw [show (4294967296:Nat)=2^32 from rfl,<-Nat.pow_mul]
theorem T_ {x i:Nat} (hx:x<4294967296) (hi:i<2):x*2^(32*i)<18446744073709551616:=by
  rcases i with _|_|i
  · simp;omega
  · simp;omega
  · omega
theorem Ss {n i:Nat} (h:n<4294967296^i) (hi:i<2):n<18446744073709551616:=by
  rcases i with _|_|i
  · simp at h;omega
  · simp at h;omega
  · omega
theorem QO {bs:List Nat} {i K:Nat} (hi:i<K) (hK:K<=bs.length) :
    IQ (JL (bytesN (bs.take i)++List.replicate (4*(K-i)) 0)) (4*i) (JL [bs.getD i 0%256,bs.getD i 0/256%256,bs.getD i 0/65536%256,bs.getD i 0/16777216%256])=JL (bytesN (bs.take (i+1))++List.replicate (4*(K-(i+1))) 0):=by
  have hib:i<bs.length:=by omega
  have e1:bs.take (i+1)=bs.take i++[bs.getD i 0]:=by rw [List.take_add_one];simp [hib]
  have hl:(bytesN (bs.take i)).length=4*i:=by rw [B9,List.length_take];omega
  have e2:List.replicate (4*(K-i)) 0=List.replicate 4 0++List.replicate (4*(K-(i+1))) 0:=by rw [List.replicate_append_replicate];congr 1;omega
  have e3:bytesN [bs.getD i 0]=[bs.getD i 0%256,bs.getD i 0/256%256,bs.getD i 0/65536%256,bs.getD i 0/16777216%256]:=by simp [bytesN]
  rw [e1,LQ,e3,e2]
  unfold IQ JL
  simp only [List.map_append]
  rw [List.take_append_of_le_length (by simp [hl]),List.take_of_length_le (by simp [hl])]
  rw [show 4*i+(List.map (λx=>Value.int IntKind.u8 (x:Nat)) [bs.getD i 0%256,bs.getD i 0/256%256,bs.getD i 0/65536%256,bs.getD i 0/16777216%256]).length=4*i+4 from rfl]
  rw [List.drop_append,List.drop_of_length_le (by simp [hl])]
  simp [hl]
theorem UM {os ws:List Nat} {n i:Nat} (hl:os.length=n) (hn:ws.length=n) (hi:¬i<n) (ht:os.take i=ws.take i):os=ws:=by
  rwa [List.take_of_length_le Z,List.take_of_length_le Z] at ht
section
theorem Vz {a:Nat}:IntKind.u64.wrap (a:Int)=((a%18446744073709551616:Nat):Int):=by
  simp only [IntKind.wrap,IntKind.bits,IntKind.signed];simp
theorem WP {a b:Nat}:IntKind.u64.wrap ((a:Int)*(b:Int))=((a*b%18446744073709551616:Nat):Int):=by
  rw [<-Int.natCast_mul];exact Vz
theorem UO {a b:Nat}:IntKind.u32.wrap ((a:Int)+(b:Int))=(((a+b)%4294967296:Nat):Int):=by
  rw [<-Int.natCast_add];exact EN
theorem N5 {a b:Nat} (h:b<=4294967296):IntKind.u32.wrap ((a:Int)-(b:Int))=(((a+(4294967296-b))%4294967296:Nat):Int):=by
  simp only [IntKind.wrap,IntKind.bits,IntKind.signed];simp;omega
theorem Lt {a:Nat} (h:a<18446744073709551616):(BitVec.ofInt IntKind.u64.bits (a:Int)).toNat=a:=by
  show (BitVec.ofInt 64 (a:Int)).toNat=_
  rw [BitVec.ofInt_natCast,BitVec.toNat_ofNat,Nat.mod_eq_of_lt Z]
theorem Gn {a:Nat} (h:a<4294967296):(BitVec.ofInt IntKind.u32.bits (a:Int)).toNat=a:=by
  show (BitVec.ofInt 32 (a:Int)).toNat=_
  rw [BitVec.ofInt_natCast,BitVec.toNat_ofNat,Nat.mod_eq_of_lt Z]
theorem Vn {a b:Nat} (ha:a<18446744073709551616) (hb:b<18446744073709551616):IntKind.u64.wrap ((BitVec.ofInt IntKind.u64.bits (a:Int) &&& BitVec.ofInt IntKind.u64.bits (b:Int)).toNat:Int)=((a &&& b:Nat):Int):=by
  rw [BitVec.toNat_and,Lt ha,Lt hb]
  have:a &&& b<=a:=Nat.and_le_left
  exact DE Z Z
theorem IT {a:Nat} (ha:a<18446744073709551616):IntKind.u64.wrap ((BitVec.ofInt IntKind.u64.bits (a:Int) &&& BitVec.ofInt IntKind.u64.bits ((4294967295:Nat):Int)).toNat:Int)=((a%4294967296:Nat):Int):=by
  rw [Vn ha Z,show (4294967295:Nat)=2^32-1 from rfl,Nat.and_two_pow_sub_one_eq_mod]
theorem OK {a b:Nat} (ha:a<4294967296) (hb:b<4294967296):IntKind.u32.wrap ((BitVec.ofInt IntKind.u32.bits (a:Int) &&& BitVec.ofInt IntKind.u32.bits (b:Int)).toNat:Int)=((a &&& b:Nat):Int):=by
  rw [BitVec.toNat_and,Gn ha,Gn hb]
  have:a &&& b<=a:=Nat.and_le_left
  exact GR Z Z
theorem OT {a b:Nat} (ha:a<4294967296) (hb:b<4294967296):IntKind.u32.wrap ((BitVec.ofInt IntKind.u32.bits (a:Int) ^^^ BitVec.ofInt IntKind.u32.bits (b:Int)).toNat:Int)=((a ^^^ b:Nat):Int):=by
  rw [BitVec.toNat_xor,Gn ha,Gn hb]
  have:a ^^^ b<2^32:=Nat.xor_lt_two_pow ha hb
  exact GR Z Z
theorem O9 {a:Nat} (ha:a<4294967296):IntKind.u32.wrap ((BitVec.ofInt IntKind.u32.bits (if IntKind.u32.signed then -1 else IntKind.u32.max) ^^^ BitVec.ofInt IntKind.u32.bits (a:Int)).toNat:Int)=((4294967295 ^^^ a:Nat):Int):=by
  rw [show (if IntKind.u32.signed then -1 else IntKind.u32.max)=((4294967295:Nat):Int) from rfl]
  exact OT Z ha
def JA (x y:Nat):Nat:=if x<y then 1 else 0
theorem bg {r:Nat} (h:r<4294967296):r/2147483648=if r.testBit 31 then 1 else 0:=by
  have e:r.testBit 31=decide (r/2147483648%2=1):=Nat.testBit_eq_decide_div_mod_eq ..
  rw [e]
  by_cases h1:r/2147483648%2=1
  · rw [if_pos (by simpa using h1)];omega
  · rw [if_neg (by simpa using h1)];omega
theorem Ra {x:Nat} (h:x<4294967296):x.testBit 31=decide (2147483648<=x):=by
  rw [Nat.testBit_eq_decide_div_mod_eq]
  exact decide_eq_decide.2 Z
theorem UG {x y c:Nat} (hx:x<4294967296) (hy:y<4294967296) (hc:c<=1) {d:Nat} (hd:d=(x+(4294967296-y)+(4294967296-c))%4294967296) :
    ((4294967295 ^^^ x) &&& y ||| (4294967295 ^^^ (x ^^^ y)) &&& d)/2147483648=JA x (y+c):=by
  have hd':d<4294967296:=by omega
  have h1:((4294967295 ^^^ x) &&& y ||| (4294967295 ^^^ (x ^^^ y)) &&& d)<2^32:=by
    refine Nat.or_lt_two_pow ?_ ?_
    · exact Nat.lt_of_le_of_lt Nat.and_le_right hy
    · exact Nat.lt_of_le_of_lt Nat.and_le_right hd'
  rw [bg Z]
  simp only [Nat.testBit_or,Nat.testBit_and,Nat.testBit_xor,Ra hx,Ra hy,Ra hd',Ra (show 4294967295<4294967296 by omega)]
  unfold JA
  by_cases h2:2147483648<=x<;>by_cases h3:2147483648<=y<;>by_cases h4:2147483648<=d<;>simp [h2,h3,h4]<;>omega
theorem Vo (x y:Nat):x/4294967296*(y/4294967296)+(x/4294967296*(y%4294967296)+x%4294967296*(y%4294967296)/4294967296)/4294967296+((x/4294967296*(y%4294967296)+x%4294967296*(y%4294967296)/4294967296)%4294967296+x%4294967296*(y/4294967296))/4294967296=x*y/18446744073709551616:=by
  have e:x*y=x%4294967296*(y%4294967296)+4294967296*(x/4294967296*(y%4294967296)+x%4294967296*(y/4294967296))+18446744073709551616*(x/4294967296*(y/4294967296)):=by
    have hx:x=x%4294967296+4294967296*(x/4294967296):=by omega
    have hy:y=y%4294967296+4294967296*(y/4294967296):=by omega
    generalize x%4294967296=a at *
    generalize x/4294967296=b at *
    generalize y%4294967296=c at *
    generalize y/4294967296=d at *
    subst hx;subst hy
    grind
  rw [e]
  generalize x%4294967296*(y%4294967296)=p
  generalize x/4294967296*(y%4294967296)=q
  generalize x%4294967296*(y/4294967296)=r
  generalize x/4294967296*(y/4294967296)=t
  omega
theorem Kg {a b:Nat} (ha:a<4294967296) (hb:b<4294967296):a*b<=18446744065119617025:=Nat.mul_le_mul (show a<=4294967295 by omega) (show b<=4294967295 by omega)
def bl (x:Nat):Nat:=if x=0 then 0 else Nat.log2 x+1
theorem QX {x k:Nat} (h:2^k<=x):Nat.log2 x=Nat.log2 (x/2^k)+k:=by
  have hx:x≠0:=by have:=Nat.pow_pos (n:=k) (show 0<2 by omega);omega
  have hq:x/2^k≠0:=by
    have:=Nat.div_pos h (Nat.pow_pos (n:=k) (show 0<2 by omega));omega
  have h1:=(Nat.log2_eq_iff hq).1 rfl
  rw [Nat.log2_eq_iff hx]
  have hm:=Nat.div_add_mod x (2^k)
  have hlt:=Nat.mod_lt x (Nat.pow_pos (n:=k) (show 0<2 by omega))
  constructor
  · rw [Nat.pow_add,Nat.mul_comm]
    exact Nat.le_trans (Nat.mul_le_mul_left _ h1.1) (Nat.mul_div_le x _)
  · rw [show (x/2^k).log2+k+1=((x/2^k).log2+1)+k by omega,Nat.pow_add]
    exact (Nat.div_lt_iff_lt_mul (Nat.pow_pos Z)).1 h1.2
theorem OI {x k:Nat} (h:2^k<=x):bl x=bl (x/2^k)+k:=by
  have hx:x≠0:=by have:=Nat.pow_pos (n:=k) (show 0<2 by omega);omega
  have hq:x/2^k≠0:=by
    have:=Nat.div_pos h (Nat.pow_pos (n:=k) (show 0<2 by omega));omega
  simp only [bl,hx,hq,if_false,QX h]
  omega
theorem US {x k:Nat} (h:x<2^k):bl x<=k:=by
  unfold bl
  split
  · omega
  · rename_i hx
    have:=(Nat.log2_lt hx).2 h
    omega
theorem TS {y:Nat} (h0:0<y) (h:y<4294967296):bl y<=32/\0<bl y/\2147483648<=y*2^(32-bl y)/\y*2^(32-bl y)<4294967296:=by
  have hy:y≠0:=by omega
  have h1:=(Nat.log2_eq_iff hy).1 rfl
  have h2:=US (k:=32) (show y<2^32 by omega)
  have hb:bl y=y.log2+1:=by simp [bl,hy]
  refine ⟨h2,Z,?_,?_⟩
  · rw [hb] at h2 ⊢
    calc 2147483648=2^y.log2*2^(32-(y.log2+1)):=by rw [<-Nat.pow_add,show y.log2+(32-(y.log2+1))=31 by omega]
      _<=_:=Nat.mul_le_mul_right _ h1.1
  · rw [hb] at h2 ⊢
    calc y*2^(32-(y.log2+1))<2^(y.log2+1)*2^(32-(y.log2+1)):=Nat.mul_lt_mul_of_pos_right h1.2 (Nat.pow_pos Z)
      _=4294967296:=by rw [<-Nat.pow_add,show y.log2+1+(32-(y.log2+1))=32 by omega]
theorem ZB {s:ByteArray} (h:((List.range 256).all λj=>s[j]? == some (UInt8.ofNat (bl j)))=true) {j:Nat} (hj:j<256):s[j]?=some (UInt8.ofNat (bl j)):=by
  simpa using List.all_eq_true.1 h j (List.mem_range.2 hj)
theorem Zx {x:Nat} (h:256<=x):bl x=bl (x/256)+8:=OI (k:=8) h
theorem UR (z:Int):(if (if z<1 then z else 1) > -1 then (if z<1 then z else 1) else -1)=z.sign:=by
  rcases Int.lt_trichotomy z 0 with h|h|h
  · rw [Int.sign_eq_neg_one_of_neg h,if_pos (show z<1 by omega)];split<;>omega
  · subst h;rfl
  · rw [Int.sign_eq_one_of_pos h,if_neg (show ¬z<1 by omega)];rfl
section
variable {P:Program} {n:Nat} {F:List (Nat×Value)} {w0:BL} {L:List As} {x y:Operand} {d:Option Tmp} {t:TypeId} {p:String} {af:Array Edge} {g:Option (Nat×Bool)}
theorem IE {s:ByteArray} {k:IntKind} {j m:Nat} {tx:TypeId} (hx:evF F x=some (.string s)) (hy:evF F y=some (.int k ((j:Nat):Int))) (hu:P.underlying tx=some .string) (hb:s[j]?=some (UInt8.ofNat m)) (hm:m<256):Ex P n F w0 L ⟨d,.index tx x y,t,p,af,g⟩ (.int .u8 ((m:Nat):Int)):=by
  have h:=JM (P:=P) (n:=n) (F:=F) (w0:=w0) (L:=L) (d:=d) (t:=t) (p:=p) (af:=af) (g:=g) hx hy hu rfl hb
  have e:(UInt8.ofNat m).toNat=m:=by simp;omega
  rwa [e] at h
theorem SA {f:FuncId} {xs:List Operand} {args:List Value} {ts:Array TypeId} {v:Value} (hf:evF F x=some (.func (.func f) #[] #[])) (hargs:xs.map (evF F)=args.map some)
    (hc:∀w,(callFunc f args.toArray).run P w=.ok (.value v) w):Ex P n F w0 L ⟨d,.call { callee:=.value x,args:=xs.toArray,argTypes:=ts },t,p,af,g⟩ v:=λA w ha _=>by
  have e1:xs.toArray.map A.eval=args.toArray:=by rw [<-N4 ha hargs];simp
  simp [execOp,resolve,ha.ev hf,Deferred.ofValue,e1,invoke,hc]
theorem S3 {f : FuncId} {fn : Func} (hf : P.funcs[f]? = some fn) (hname : (fn.name == "runtime.NumGoroutine") = false) (hb : fn.body.isNone = true) (hn : Extern.findNext fn = none) (he : Extern.find fn = some add64Entry) (x y c : Nat) (hc : c ≤ 1) (w : World) :
    (callFunc f #[.int .u64 x,.int .u64 y,.int .u64 c]).run P w=.ok (.value (.tuple #[.int .u64 (((x+y+c)%18446744073709551616:Nat):Int),.int .u64 (((x+y+c)/18446744073709551616:Nat):Int)])) w:=by
  rw [run_callFunc_extern hf hname hb hn he,run_add64 x y c Z Z Z Z]
  simp only [Result.andThen]
  congr 5<;>omega
end
theorem BS.fresh {W w:World} {L:List As} (h:BS ⟨W,none⟩ w L) {i b:Nat} {T:TypeId} {cs:List Value} (hi:L[i]?=some (Af b T cs)):W.heap.size<=b:=by
  rcases (h.2.1 _ (List.mem_of_getElem? hi) b rfl).1 with h1|h1|h1
  · cases h1
  · exact h1
  · cases h1
end
section
set_option maxRecDepth 100000
theorem LO:EV prog 2:=⟨isAgg2⟩
theorem BY:EV prog 3:=⟨isAgg3⟩
theorem PM:EV prog 4:=⟨isAgg4⟩
theorem Ti:EV prog 5:=⟨isAgg5⟩
theorem WU:EV prog 9:=⟨isAgg9⟩
theorem Zl:EV prog 22:=⟨isAgg22⟩
theorem Xq:EV prog 23:=⟨isAgg23⟩
theorem JV:DO prog 26 9:=⟨isAgg26,sizeOf26⟩
theorem Zj:EV prog 27:=⟨isAgg27⟩
theorem Bl:EV prog 28:=⟨isAgg28⟩
theorem dD:EV prog 29:=⟨isAgg29⟩
theorem DA:DO prog 31 3:=⟨isAgg31,sizeOf31⟩
theorem QA:EV prog 35:=⟨isAgg35⟩
theorem c_:EV prog 36:=⟨isAgg36⟩
theorem C7:DO prog 38 3:=⟨isAgg38,sizeOf38⟩
theorem NJ:EV prog 46:=⟨isAgg46⟩
theorem dh:DO prog 48 3:=⟨isAgg48,sizeOf48⟩
theorem a8:EV prog 50:=⟨isAgg50⟩
theorem X8:DO prog 53 2:=⟨isAgg53,sizeOf53⟩
theorem W5:DO prog 55 4:=⟨isAgg55,sizeOf55⟩
theorem G_:EV prog 56:=⟨isAgg56⟩
theorem Cq:DO prog 58 2:=⟨isAgg58,sizeOf58⟩
theorem Sk:DO prog 60 2:=⟨isAgg60,sizeOf60⟩
theorem Hw:DO prog 62 3:=⟨isAgg62,sizeOf62⟩
theorem Kj:DO prog 64 5:=⟨isAgg64,sizeOf64⟩
theorem Dj:DO prog 68 3:=⟨isAgg68,sizeOf68⟩
theorem dm:DO prog 70 3:=⟨isAgg70,sizeOf70⟩
theorem Zk:DO prog 84 3:=⟨isAgg84,sizeOf84⟩
theorem XH:EV prog 86:=⟨isAgg86⟩
theorem PQ:EV prog 93:=⟨isAgg93⟩
theorem Ze:DO prog 95 2:=⟨isAgg95,sizeOf95⟩
theorem VA:DO prog 97 3:=⟨isAgg97,sizeOf97⟩
theorem Bq:DO prog 107 2:=⟨isAgg107,sizeOf107⟩
theorem Eq:DO prog 112 2:=⟨isAgg112,sizeOf112⟩
theorem bV:DO prog 148 4:=⟨isAgg148,sizeOf148⟩
theorem Oy:DO prog 159 4:=⟨isAgg159,sizeOf159⟩
theorem Md:DO prog 172 2:=⟨isAgg172,sizeOf172⟩
theorem WF:C1 prog 31 ([(Value.slice none 0 0),(Value.slice none 0 0),(Value.slice none 0 0)]):=⟨_,zeroValue31,rfl⟩
theorem cO:C1 prog 38 ([(Value.slice none 0 0),(Value.slice none 0 0),(Value.slice none 0 0)]):=⟨_,zeroValue38,rfl⟩
theorem X1:C1 prog 48 ([(Value.slice none 0 0),(Value.slice none 0 0),(Value.slice none 0 0)]):=⟨_,zeroValue48,rfl⟩
theorem dt:C1 prog 51 ([(vI 0),(vI 0)]):=⟨_,zeroValue51,rfl⟩
theorem bb:C1 prog 55 ([(vI 0),(Value.int .u32 (0:Int)),(vI 0),(Value.int .u32 (0:Int))]):=⟨_,zeroValue55,rfl⟩
theorem GS:C1 prog 58 (Ag 0):=⟨_,zeroValue58,rfl⟩
theorem br:C1 prog 60 (Ag 0):=⟨_,zeroValue60,rfl⟩
theorem Sr:C1 prog 62 (Bi 0):=⟨_,zeroValue62,rfl⟩
theorem Na:C1 prog 64 (BM (0:Rat)):=⟨_,zeroValue64,rfl⟩
theorem bW:C1 prog 66 (Bf (⟨0,0⟩:Pt)):=⟨_,zeroValue66,rfl⟩
theorem O7:C1 prog 68 ([(vI 0),(vI 0),(vI 0)]):=⟨_,zeroValue68,rfl⟩
theorem d8:C1 prog 70 ([(vI 0),(vI 0),(vI 0)]):=⟨_,zeroValue70,rfl⟩
theorem dE:C1 prog 84 ([(vI 0),(vI 0),(vI 0)]):=⟨_,zeroValue84,rfl⟩
theorem ZH:C1 prog 95 ([(Value.bool false),(Value.slice none 0 0)]):=⟨_,zeroValue95,rfl⟩
theorem SI:C1 prog 97 ([(Value.bool false),(Value.slice none 0 0),(Value.slice none 0 0)]):=⟨_,zeroValue97,rfl⟩
theorem cv:C1 prog 99 ([(Value.bool false),(Value.slice none 0 0),(Value.slice none 0 0),(Value.bool false),(Value.slice none 0 0),(Value.slice none 0 0)]):=⟨_,zeroValue99,rfl⟩
theorem I3:C1 prog 107 ([(vI 0),(vI 0)]):=⟨_,zeroValue107,rfl⟩
theorem I4:C1 prog 112 ([(vI 0),(vI 0)]):=⟨_,zeroValue112,rfl⟩
theorem bD:C1 prog 132 ([(vI 0),(vI 0),(vI 0),(vI 0)]):=⟨_,zeroValue132,rfl⟩
theorem bU:C1 prog 148 ([(vI 0),(vI 0),(vI 0),(vI 0)]):=⟨_,zeroValue148,rfl⟩
theorem Nt:C1 prog 159 ([(vI 0),(vI 0),(vI 0),(vI 0)]):=⟨_,zeroValue159,rfl⟩
theorem Uk:C1 prog 172 ([(vI 0),(vI 0)]):=⟨_,zeroValue172,rfl⟩
end
end Go.Proofs.YtpgncndhhhllfaaGreat
