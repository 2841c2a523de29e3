import Derived.Laws.Externs
import Derived.Test.YtpolhpjiahbidaaGreatDoorPart02
import Derived.Test.YtpolhpjiahbidaaGreatDoorPart03
import Derived.Test.YtpolhpjiahbidaaGreatDoorPart05
import Derived.Test.YtpolhpjiahbidaaGreatDoorPart06
namespace Go.Proofs.YtpolhpjiahbidaaGreatDoor
open Go Go.RowKit Go.Proofs.Tryz
set_option linter.unusedVariables false
set_option linter.unusedSimpArgs false
section
section
variable {w0:A_} {L:List As}
theorem BD.addRo {w w':World} {a:As} (h:BD w0 w L) (hb:GG w.heap.size w w') (hr:a.ro=true) (hh:Holds w' a) (hs:∀b,a.foot=some b->w.heap.size<=b\/∃y∈L,y.ro=true/\y.foot=some b):BD w0 w' (a::L):=by
  have h1:=h.below hb
  refine ⟨h1.1,λz hz b e=>?_,List.pairwise_cons.2 ⟨λz hz=>?_,h1.2.2⟩⟩
  · rcases List.mem_cons.1 hz with rfl|hz
    · exact ⟨.inl hr,hh b e⟩
    · exact h1.2.1 z hz b e
  · cases hf:a.foot with
    | none=>exact .inr λb e=>by cases e
    | some b =>
      rcases hs b hf with h2|⟨y,hy,hyr,hyf⟩
      · refine .inr λb' e e2=>?_
        injection e with e;subst e
        exact absurd (h.lt hz e2) Z
      · have h3:=M2 hr hyr hf hyf (MD h.2.2 y hy z hz)
        rw [<-hf];exact h3
end
class Cc (α:Type) where
  val:α->Value
  rows:α->List As
  ro:∀a,∀y∈rows a,y.ro=true
def Ro (S:Nat->Prop) (w:World) {α:Type} [Cc α] (a:α):Prop:=∀y∈Cc.rows a,Holds w y/\∀b,y.foot=some b->S b
def Af (α:Type) [Cc α] (S:Nat->Prop) (W:World) (e:Ending) (w:World):Prop :=
  ∃a:α,e=.returned (Cc.val a)/\GG W.heap.size W w/\Ro (λb=>W.heap.size<=b\/S b) w a
def Nw (w0:A_) (S:Nat->Prop) (b:Nat):Prop:=w0.w.heap.size<=b\/S b
def SL (w0:A_) (S:Nat->Prop) (L:List As) (b:Nat):Prop:=(∃y∈L,y.ro=true/\y.foot=some b)/\Nw w0 S b
def At (w0:A_) (S:Nat->Prop) {α:Type} [Cc α] (a:α):Prop:=∀y∈Cc.rows a,∀b,y.foot=some b->Nw w0 S b
section
variable {w0:A_} {S:Nat->Prop} {w W:World} {L:List As} {α:Type} [Cc α]
theorem inS (hw:BD w0 w L) (i:Nat) {a:α} (hi:(L.drop i).take (Cc.rows a).length=Cc.rows a) (ha:At w0 S a):Ro (SL w0 S L) w a:=λy hy=>by
  have hm:y∈L:=List.mem_of_mem_drop (i:=i) (List.mem_of_mem_take (i:=(Cc.rows a).length) (by rw [hi];exact hy))
  exact ⟨λb e=>(hw.2.1 y hm b e).2,λb e=>⟨⟨y,hm,Cc.ro a y hy,e⟩,ha y hy b e⟩⟩
theorem Ro.mono {S':Nat->Prop} {a:α} (h:Ro S w a) (hs:∀b,S b->S' b):Ro S' w a:=λy hy=>⟨(h y hy).1,λb e=>hs b ((h y hy).2 b e)⟩
theorem CI {a:α} (h:Ro S w a):At ⟨W,none⟩ S a:=λy hy b e=>.inr ((h y hy).2 b e)
theorem D0 {a:α} {v:Value} (hw:BD ⟨W,none⟩ w L) (h:Ro (SL ⟨W,none⟩ S L) w a) (hv:v=Cc.val a):Af α S W (.returned v) w:=⟨a,by rw [hv],hw.out,h.mono λb h=>h.2⟩
theorem Af.cast {ι:Type} {T:ι->Type} [∀i,Cc (T i)] {i j:ι} (h:i=j) {f:FuncId} {P:Program} {args:Array Value} (k:Calls P f args W (Af (T i) S W)):Calls P f args W (Af (T j) S W):=h▸k
theorem D9 {a:α} (h:Ro S w a) (t:∀y∈L,y.ro=true/\Holds w y):∀y∈Cc.rows a++L,y.ro=true/\Holds w y:=λy hy=>(List.mem_append.1 hy).elim (λk=>⟨Cc.ro a y k,(h y k).1⟩) (t y)
end
theorem BD.addRos {w0:A_} {w w':World} {L:List As} (h:BD w0 w L) (hb:GG w.heap.size w w'):∀(xs:List As),(∀x∈xs,x.ro=true/\Holds w' x/\∀b,x.foot=some b->w.heap.size<=b\/∃y∈L,y.ro=true/\y.foot=some b)->BD w0 w' (xs++L)
  | [],_=>h.below hb
  | x::xs,hx=>by
    have h1:=BD.addRos h hb xs λy hy=>hx y (List.mem_cons_of_mem _ hy)
    obtain ⟨hr,hh,hs⟩:=hx x List.mem_cons_self
    have h2:=h.addRo hb hr hh hs
    refine ⟨h1.1,λy hy=>(List.mem_cons.1 hy).elim (λe=>h2.2.1 y (e▸List.mem_cons_self)) (λe=>h1.2.1 y e),List.pairwise_cons.2 ⟨λy hy=>?_,h1.2.2⟩⟩
    rcases List.mem_append.1 hy with hy|hy
    · exact .inl ⟨hr,(hx y (List.mem_cons_of_mem _ hy)).1⟩
    · exact (List.pairwise_cons.1 h2.2.2).1 y hy
section
variable {P:Program} {ops:Array Oper} {rest:List Oper} {Q:Exit->Act->World->Prop} {n d:Nat} {F:List (Nat×Value)} {w0:A_} {S:Nat->Prop} {L:List As} {t:TypeId} {p:String} {af:Array Edge} {y:Operand} {f:FuncId} {xs:List Operand} {args:List Value} {ts:Array TypeId}
theorem OkL.callRg {α:Type} [Cc α] {g:Option (Nat×Bool)} (hw:Wt ops n F ⟨some d,.call { callee:=.value y,args:=xs.toArray,argTypes:=ts },t,p,af,g⟩) (hc:∀args w,(callFunc f args).run P w=.ok (.enter f args) w) (h:∀w,BD w0 w L->Calls P f args.toArray w (Af α (SL w0 S L) w))
    (hf:evF F y=some (.func (.func f) #[] #[])) (hargs:xs.map (evF F)=args.map some) (hd:Nat.ble (d+1) n=true) (next:∀a:α,At w0 S a->OkL P ops rest Q n ((d,Cc.val a)::F) w0 (Cc.rows a++L)) :
    OkL P ops (⟨some d,.call { callee:=.value y,args:=xs.toArray,argTypes:=ts },t,p,af,g⟩::rest) Q n F w0 L:=λa w ha hW=>by
  unfold wpList
  rw [if_pos (hw a ha)]
  left
  unfold Oper.wp
  rw [Ap hf hargs hc a w ha hW,Oper.upon_enter]
  refine (h w hW).mono ?_
  rintro e w' ⟨v,rfl,hb,hr⟩
  exact next v (λy hy b e=>((hr y hy).2 b e).elim (λh=>.inl (Nat.le_trans hW.1.size h)) λh=>h.2) _ _ (ha.put (Bj hd)) (hW.addRos hb _ λx hx=>⟨Cc.ro v x hx,(hr x hx).1,λb e=>((hr x hx).2 b e).imp_right λh=>h.1⟩)
theorem OkL.callR {α:Type} [Cc α] (hc:∀args w,(callFunc f args).run P w=.ok (.enter f args) w) (h:∀w,BD w0 w L->Calls P f args.toArray w (Af α (SL w0 S L) w))
    (hf:evF F y=some (.func (.func f) #[] #[])) (hargs:xs.map (evF F)=args.map some) (hd:Nat.ble (d+1) n=true) (next:∀a:α,At w0 S a->OkL P ops rest Q n ((d,Cc.val a)::F) w0 (Cc.rows a++L)) :
    OkL P ops (⟨some d,.call { callee:=.value y,args:=xs.toArray,argTypes:=ts },t,p,af,none⟩::rest) Q n F w0 L:=OkL.callRg (AP rfl) hc h hf hargs hd next
theorem BP {ops:Array Oper} {o:Oper} {j t:Nat} {b:Bool} (h:o.guard=some (j,b)) (hj:(ops[j]?).bind (·.dst)=some t) (ht:F.lookup t=some undef):∀a,Cn n a F->Region.wanted o (yielded ops a.tmps)=false:=λa ha=>by
  have h1:=ha.2.2 t _ ht
  simp [Region.wanted,h,yielded,hj,h1,undef]
end
end
section
def Dx (a b:Nat):Int:=if a<b then -1 else if b<a then 1 else 0
theorem Pp {a b:Nat} (h:a<b):Dx a b = -1:=if_pos h
theorem Qa {a b:Nat} (h:¬a<b) (h2:b<a):Dx a b=1:=by rw [Dx,if_neg h,if_pos h2]
theorem P1 {a b:Nat} (h:¬a<b) (h2:¬b<a):Dx a b=0:=by rw [Dx,if_neg h,if_neg h2]
def UO (a b:Int):Int:=if a≠0 then a else if b≠0 then b else 0
section
variable {P:Program} {n:Nat} {F:List (Nat×Value)} {w0:A_} {L:List As} {d:Option Tmp} {x:Operand} {t:TypeId} {p:String} {af:Array Edge} {g:Option (Nat×Bool)}
theorem D6 {tx e:TypeId} {a:Option Addr} {len cap k:Nat} {hi mx:Operand} {ki kj:IntKind} {m:Nat} (hx:evF F x=some (.slice a len cap)) (hh:evF F hi=some (.int ki (m:Nat))) (hj:evF F mx=some (.int kj (m:Nat))) (hu:P.underlying tx=some (.slice e)) (hs:∀w,(sizeOf e).run P w=.ok k w) (hm:m<=cap) :
    Ex P n F w0 L ⟨d,.slice tx x none (some hi) (some mx),t,p,af,g⟩ (.slice a m m):=λA w ha _=>by
  simp only [execOp,ha.ev hx,Instr.sliceAt,run_underlying hu,Instr.slice,Option.map_some,Option.map_none,ha.ev hh,ha.ev hj,Instr.sliceBounds,Instr.sliceBound,asIntOf,Sem.run_bind,Result.andThen_ok,Sem.run_pure]
  have h1:(0:Int)<=(m:Int)/\(m:Int)<=(cap:Int):=⟨Z,Z⟩
  simp [h1.2,hs]
  cases a<;>simp [Addr.add]
end
section
variable {P:Program} {ops:Array Oper} {rest:List Oper} {Q:Exit->Act->World->Prop} {n:Nat} {F:List (Nat×Value)} {w0:A_} {L L':List As}
theorem OkL.subL (hs:L'.Sublist L) (h:OkL P ops rest Q n F w0 L'):OkL P ops rest Q n F w0 L:=λa w ha hw=>h a w ha (hw.weak hs)
end
end
def Do (bs:List Nat):Nat->Nat
  | 0=>0
  | m+1=>if bs.getD m 0=0 then Do bs m else m+1
theorem Rx {bs:List Nat} {k:Nat} (h:0<k) (h0:bs.getD (k-1) 0=0):Do bs k=Do bs (k-1):=by
  obtain ⟨j,rfl⟩:∃j,k=j+1:=⟨k-1,Z⟩
  simp only [Do];rw [if_pos (by simpa using h0)];simp
theorem R7 {bs:List Nat} {k:Nat} (h:¬(0<k/\bs.getD (k-1) 0=0)):Do bs k=k:=by
  cases k with
  | zero=>rfl
  | succ j=>simp only [Do];rw [if_neg (by simpa using h)]
theorem JE (bs:List Nat):∀m,Do bs m<=m
  | 0=>Nat.le_refl _
  | m+1=>by
    simp only [Do]
    split
    · have:=JE bs m;omega
    · exact Nat.le_refl _
theorem K2 (bs:List Nat):∀m,Do bs m≠0->bs.getD (Do bs m-1) 0≠0
  | 0,h=>absurd rfl h
  | m+1,h=>by
    simp only [Do] at h ⊢
    split
    · rename_i h0;rw [if_pos h0] at h;exact K2 bs m h
    · rename_i h0;simpa using h0
theorem JV (bs:List Nat):∀m,val (bs.take (Do bs m))=val (bs.take m)
  | 0=>rfl
  | m+1=>by
    simp only [Do]
    split
    · rename_i h0;rw [JV bs m,BS,h0];omega
    · rfl
theorem IP {bs:List Nat} (hb:W32 bs) {m:Nat} (hm:m<=bs.length):AN (val (bs.take m))=bs.take (Do bs m):=by
  rw [<-JV]
  refine MJ (hb.take _) λx hx=>?_
  have hle:=JE bs m
  have hne:Do bs m≠0:=λh0=>by rw [h0] at hx;simp at hx
  have hl:(bs.take (Do bs m)).getLast?=some (bs.getD (Do bs m-1) 0):=by
    rw [List.getLast?_eq_getElem?]
    have h1:(bs.take (Do bs m)).length-1=Do bs m-1:=by simp;omega
    rw [h1,List.getElem?_take,if_pos Z]
    have h2:Do bs m-1<bs.length:=by omega
    simp [h2]
  rw [hl] at hx
  injection hx with hx
  rw [<-hx]
  exact K2 bs m hne
theorem Pc {bs:List Nat} (hb:W32 bs) {m:Nat} (hm:m<=bs.length):nw (val (bs.take m))=Do bs m:=by
  unfold nw
  rw [IP hb hm,List.length_take]
  have:=JE bs m
  omega
theorem HG {v:Nat} (h:v<18446744073709551616):KE v=true:=by simp [KE,h]
theorem IX {v:Nat} (h:¬v<18446744073709551616):KE v=false:=by simp [KE,h]
theorem DU {v:Nat} (h:v<18446744073709551616):AS v=[.int .u64 (v:Nat),.string ByteArray.empty]:=by
  simp [AS,Bo,Bc,HG h]
theorem BZ {v:Nat} (h:v<18446744073709551616):Bo v=v:=by simp [Bo,HG h]
def bytesN (xs:List Nat):List Nat:=xs.flatMap λx=>[x%256,x/256%256,x/65536%256,x/16777216%256]
theorem Bq (xs:List Nat):(bytesN xs).length=4*xs.length:=by
  induction xs with
  | nil=>rfl
  | cons x xs ih=>simp [bytesN] at ih ⊢;omega
theorem Kh (xs ys:List Nat):bytesN (xs++ys)=bytesN xs++bytesN ys:=by simp [bytesN]
theorem LX (xs:List Nat):C3 (bytesN xs)=⟨(xs.flatMap UN).toArray⟩:=by
  unfold C3
  congr 2
  induction xs with
  | nil=>rfl
  | cons x xs ih =>
    simp only [bytesN,List.flatMap_cons,List.map_append] at ih ⊢
    rw [ih]
    rfl
theorem Ui {v:Nat} (h:¬v<18446744073709551616):AS v=[.int .u64 (0:Nat),.string (C3 (bytesN (AN v)))]:=by
  simp [AS,Bo,Bc,IX h,LX]
theorem HI {v:Nat} (h:v<18446744073709551616):Bc v=ByteArray.empty:=by simp [Bc,HG h]
theorem Es {v:Nat} (h:¬v<18446744073709551616):Bc v=C3 (bytesN (AN v)):=by simp [Bc,IX h,LX]
theorem Jj (xs:List Nat):(C3 xs).size=xs.length:=by simp [C3,ByteArray.size]
theorem Rn {xs:List Nat} {j:Nat} (h:j<xs.length):(C3 xs)[j]?=some (UInt8.ofNat (xs.getD j 0)):=by
  have h1:j<(C3 xs).size:=by rw [Jj];exact h
  rw [getElem?_pos (C3 xs) j h1]
  congr 1
  show (C3 xs).data[j]'h1=_
  simp [C3,h]
theorem Fm:∀(xs:List Nat) (i k:Nat),i<xs.length->k<4->(bytesN xs).getD (4*i+k) 0=xs.getD i 0/256^k%256
  | [],i,k,h,_=>by simp at h
  | x::xs,0,k,_,hk=>by
    rcases k with _|_|_|_|k
    · simp [bytesN]
    · simp [bytesN]
    · simp [bytesN]
    · simp [bytesN]
    · omega
  | x::xs,i+1,k,h,hk=>by
    have ih:=Fm xs i k (by simpa using h) hk
    have e:4*(i+1)+k=(4*i+k)+4:=by omega
    rw [e,List.getD_cons_succ,<-ih]
    simp [bytesN]
theorem Ok {v:Nat} (h:¬v<18446744073709551616):2<nw v:=by
  rcases Nat.lt_or_ge 2 (nw v) with h1|h1
  · exact h1
  · exact absurd (CW.1 h1) Z
theorem CJ {v:Nat}:((Bc v).toList == (ByteArray.mk #[]).toList)=decide (v<18446744073709551616):=by
  by_cases h:v<18446744073709551616
  · rw [HI h];simp [h]
  · have h1:=Ok h
    rw [ByteArray.toList_eq,ByteArray.toList_eq]
    have h2:(Bc v).data.toList≠[]:=λe=>by
      have h3:(Bc v).data.toList.length=0:=by rw [e];rfl
      rw [Es h] at h3
      simp [C3,Bq] at h3
      unfold nw at h1
      omega
    have h4:((Bc v).data.toList == [])=false:=by
      cases hl:(Bc v).data.toList with
      | nil=>exact absurd hl h2
      | cons=>rfl
    rw [show (ByteArray.mk #[]).data.toList=[] from rfl,h4]
    simp [h]
def Aq (v:Nat):List Nat:=if v<18446744073709551616 then [v%4294967296,v/4294967296] else AN v
theorem B8 (v:Nat):W32 (Aq v):=by
  unfold Aq
  split
  · exact W32.cons Z (W32.cons Z W32.nil)
  · exact Bi v
theorem VS {v:Nat} (h:v<18446744073709551616):W32 [v%4294967296,v/4294967296]:=W32.cons Z (W32.cons Z W32.nil)
theorem B5 (v:Nat):nw v<=(Aq v).length:=by
  unfold Aq
  split
  · rename_i h;exact Kb h
  · exact Nat.le_refl _
theorem Hq (v:Nat):(Aq v).take (nw v)=AN v:=by
  unfold Aq
  split
  · rename_i h
    have e:v=val ([v%4294967296,v/4294967296].take 2):=by simp [val];omega
    have hw:W32 [v%4294967296,v/4294967296]:=W32.cons Z (W32.cons Z W32.nil)
    have h1:=IP hw (m:=2) (by simp)
    have h2:=Pc hw (m:=2) (by simp)
    rw [<-e] at h1 h2
    rw [h2,<-h1]
  · exact List.take_of_length_le (Nat.le_refl _)
theorem QH (v:Nat):val (Aq v)=v:=by
  unfold Aq
  split
  · simp [val];omega
  · exact CF v
theorem G9 {a b s:Nat} (ha:a<2^s):a ||| b*2^s=a+b*2^s:=by
  rw [Nat.or_comm,Nat.mul_comm,<-Nat.two_pow_add_eq_or_of_lt ha];omega
theorem I6 {a b:Nat} (ha:a<18446744073709551616) (hb:b<18446744073709551616) {c:Nat} (hc:a ||| b=c):IntKind.u64.wrap ((BitVec.ofInt IntKind.u64.bits (a:Int) ||| BitVec.ofInt IntKind.u64.bits (b:Int)).toNat:Int)=(c:Int):=by
  have e:(BitVec.ofInt IntKind.u64.bits (a:Int) ||| BitVec.ofInt IntKind.u64.bits (b:Int)).toNat=a ||| b:=by
    show (BitVec.ofInt 64 (a:Int) ||| BitVec.ofInt 64 (b:Int)).toNat=_
    rw [BitVec.toNat_or,BitVec.ofInt_natCast,BitVec.ofInt_natCast,BitVec.toNat_ofNat,BitVec.toNat_ofNat,Nat.mod_eq_of_lt (show a<2^64 by omega),Nat.mod_eq_of_lt (show b<2^64 by omega)]
  rw [e,hc]
  have h2:a ||| b<2^64:=Nat.or_lt_two_pow ha hb
  exact Cz Z Z
theorem JD {a b:Nat} (ha:a<4294967296) (hb:b<4294967296) {c:Nat} (hc:a ||| b=c):IntKind.u32.wrap ((BitVec.ofInt IntKind.u32.bits (a:Int) ||| BitVec.ofInt IntKind.u32.bits (b:Int)).toNat:Int)=(c:Int):=by
  have e:(BitVec.ofInt IntKind.u32.bits (a:Int) ||| BitVec.ofInt IntKind.u32.bits (b:Int)).toNat=a ||| b:=by
    show (BitVec.ofInt 32 (a:Int) ||| BitVec.ofInt 32 (b:Int)).toNat=_
    rw [BitVec.toNat_or,BitVec.ofInt_natCast,BitVec.ofInt_natCast,BitVec.toNat_ofNat,BitVec.toNat_ofNat,Nat.mod_eq_of_lt (show a<2^32 by omega),Nat.mod_eq_of_lt (show b<2^32 by omega)]
  rw [e,hc]
  have h2:a ||| b<2^32:=Nat.or_lt_two_pow ha hb
  exact GU Z Z
theorem GW {a s:Nat} (h:a*2^s<18446744073709551616):IntKind.u64.wrap ((a:Int)*2^s)=((a*2^s:Nat):Int):=by
  have e:(a:Int)*2^s=((a*2^s:Nat):Int):=by simp
  rw [e,Cz Z Z]
theorem S4 {a s:Nat} (h:a*2^s<4294967296):IntKind.u32.wrap ((a:Int)*2^s)=((a*2^s:Nat):Int):=by
  have e:(a:Int)*2^s=((a*2^s:Nat):Int):=by simp
  rw [e,GU Z Z]
theorem LJ {a s:Nat}:IntKind.u32.wrap ((a:Int)*2^s)=((a*2^s%4294967296:Nat):Int):=by
  have e:(a:Int)*2^s=((a*2^s:Nat):Int):=by simp
  rw [e];exact D_
theorem TE (k:Nat):(256:Nat)^k=2^(8*k):=by rw [show (256:Nat)=2^8 from rfl,<-Nat.pow_mul]
theorem P7 {w k:Nat} (hk:k<4):w/256^k%256*2^(8*k)<4294967296:=by
  rcases k with _|_|_|_|k
  · simp;omega
  · simp;omega
  · simp;omega
  · simp;omega
  · omega
theorem R4 {w k x:Nat} (hx:x=w%256^k):x ||| w/256^k%256*2^(8*k)=w%256^(k+1):=by
  subst hx
  rw [G9 (by rw [<-TE];exact Nat.mod_lt _ (Nat.pow_pos Z)),<-TE,Nat.mod_pow_succ,Nat.mul_comm]
theorem PM {os ws xs:List Nat} {n i:Nat} (hl:os.length=n) (hn:ws.length=n) (hi:i<n) (ht:os.take i=ws.take i) (h0:∀j,i<=j->os.getD j 0=0) (hx:xs=os.set i (ws.getD i 0)) :
    xs.length=n/\xs.take (i+1)=ws.take (i+1)/\∀j,i+1<=j->xs.getD j 0=0:=by
  subst hx
  refine ⟨by simp [hl],?_,λj hj=>?_⟩
  · have e1:i<os.length:=by omega
    have e2:i<ws.length:=by omega
    rw [List.take_add_one,List.take_add_one,List.take_set_of_le (Nat.le_refl _),ht]
    simp [e1,e2]
  · have:=h0 j Z
    rw [List.getD_eq_getElem?_getD,List.getElem?_set_ne Z,<-List.getD_eq_getElem?_getD]
    exact this
theorem TA {os:List Nat} {i:Nat} (h:os.getD i 0=0):os=os.set i 0:=by
  apply List.ext_getElem (by simp)
  intro j h1 h2
  by_cases e:i=j
  · subst e;simpa [h1] using h
  · simp [e]
theorem W9 (k:Nat):(4294967296:Nat)^k=2^(32*k):=by rw [show (4294967296:Nat)=2^32 from rfl,<-Nat.pow_mul]
theorem T8 {x i:Nat} (hx:x<4294967296) (hi:i<2):x*2^(32*i)<18446744073709551616:=by
  rcases i with _|_|i
  · simp;omega
  · simp;omega
  · omega
theorem Rk {n i:Nat} (h:n<4294967296^i) (hi:i<2):n<18446744073709551616:=by
  rcases i with _|_|i
  · simp at h;omega
  · simp at h;omega
  · omega
theorem O7 {bs:List Nat} {i K:Nat} (hi:i<K) (hK:K<=bs.length) :
    F6 (I0 (bytesN (bs.take i)++List.replicate (4*(K-i)) 0)) (4*i) (I0 [bs.getD i 0%256,bs.getD i 0/256%256,bs.getD i 0/65536%256,bs.getD i 0/16777216%256])=I0 (bytesN (bs.take (i+1))++List.replicate (4*(K-(i+1))) 0):=by
  have hib:i<bs.length:=by omega
  have e1:bs.take (i+1)=bs.take i++[bs.getD i 0]:=by rw [List.take_add_one];simp [hib]
  have hl:(bytesN (bs.take i)).length=4*i:=by rw [Bq,List.length_take];omega
  have e2:List.replicate (4*(K-i)) 0=List.replicate 4 0++List.replicate (4*(K-(i+1))) 0:=by rw [List.replicate_append_replicate];congr 1;omega
  have e3:bytesN [bs.getD i 0]=[bs.getD i 0%256,bs.getD i 0/256%256,bs.getD i 0/65536%256,bs.getD i 0/16777216%256]:=by simp [bytesN]
  rw [e1,Kh,e3,e2]
  unfold F6 I0
  simp only [List.map_append]
  rw [List.take_append_of_le_length (by simp [hl]),List.take_of_length_le (by simp [hl])]
  rw [show 4*i+(List.map (λx=>Value.int IntKind.u8 (x:Nat)) [bs.getD i 0%256,bs.getD i 0/256%256,bs.getD i 0/65536%256,bs.getD i 0/16777216%256]).length=4*i+4 from rfl]
  rw [List.drop_append,List.drop_of_length_le (by simp [hl])]
  simp [hl]
theorem Uz {os ws:List Nat} {n i:Nat} (hl:os.length=n) (hn:ws.length=n) (hi:¬i<n) (ht:os.take i=ws.take i):os=ws:=by
  rwa [List.take_of_length_le Z,List.take_of_length_le Z] at ht
section
theorem SP {a:Nat}:IntKind.u64.wrap (a:Int)=((a%18446744073709551616:Nat):Int):=by
  simp only [IntKind.wrap,IntKind.bits,IntKind.signed];simp
theorem SS {a b:Nat}:IntKind.u64.wrap ((a:Int)*(b:Int))=((a*b%18446744073709551616:Nat):Int):=by
  rw [<-Int.natCast_mul];exact SP
theorem TD {a b:Nat}:IntKind.u32.wrap ((a:Int)+(b:Int))=(((a+b)%4294967296:Nat):Int):=by
  rw [<-Int.natCast_add];exact D_
theorem Nx {a b:Nat} (h:b<=4294967296):IntKind.u32.wrap ((a:Int)-(b:Int))=(((a+(4294967296-b))%4294967296:Nat):Int):=by
  simp only [IntKind.wrap,IntKind.bits,IntKind.signed];simp;omega
theorem LG {a:Nat} (h:a<18446744073709551616):(BitVec.ofInt IntKind.u64.bits (a:Int)).toNat=a:=by
  show (BitVec.ofInt 64 (a:Int)).toNat=_
  rw [BitVec.ofInt_natCast,BitVec.toNat_ofNat,Nat.mod_eq_of_lt Z]
theorem Gc {a:Nat} (h:a<4294967296):(BitVec.ofInt IntKind.u32.bits (a:Int)).toNat=a:=by
  show (BitVec.ofInt 32 (a:Int)).toNat=_
  rw [BitVec.ofInt_natCast,BitVec.toNat_ofNat,Nat.mod_eq_of_lt Z]
theorem TH {a b:Nat} (ha:a<18446744073709551616) (hb:b<18446744073709551616):IntKind.u64.wrap ((BitVec.ofInt IntKind.u64.bits (a:Int) &&& BitVec.ofInt IntKind.u64.bits (b:Int)).toNat:Int)=((a &&& b:Nat):Int):=by
  rw [BitVec.toNat_and,LG ha,LG hb]
  have:a &&& b<=a:=Nat.and_le_left
  exact Cz Z Z
theorem H8 {a:Nat} (ha:a<18446744073709551616):IntKind.u64.wrap ((BitVec.ofInt IntKind.u64.bits (a:Int) &&& BitVec.ofInt IntKind.u64.bits ((4294967295:Nat):Int)).toNat:Int)=((a%4294967296:Nat):Int):=by
  rw [TH ha Z,show (4294967295:Nat)=2^32-1 from rfl,Nat.and_two_pow_sub_one_eq_mod]
theorem NR {a b:Nat} (ha:a<4294967296) (hb:b<4294967296):IntKind.u32.wrap ((BitVec.ofInt IntKind.u32.bits (a:Int) &&& BitVec.ofInt IntKind.u32.bits (b:Int)).toNat:Int)=((a &&& b:Nat):Int):=by
  rw [BitVec.toNat_and,Gc ha,Gc hb]
  have:a &&& b<=a:=Nat.and_le_left
  exact GU Z Z
theorem OH {a b:Nat} (ha:a<4294967296) (hb:b<4294967296):IntKind.u32.wrap ((BitVec.ofInt IntKind.u32.bits (a:Int) ^^^ BitVec.ofInt IntKind.u32.bits (b:Int)).toNat:Int)=((a ^^^ b:Nat):Int):=by
  rw [BitVec.toNat_xor,Gc ha,Gc hb]
  have:a ^^^ b<2^32:=Nat.xor_lt_two_pow ha hb
  exact GU Z Z
theorem N6 {a:Nat} (ha:a<4294967296):IntKind.u32.wrap ((BitVec.ofInt IntKind.u32.bits (if IntKind.u32.signed then -1 else IntKind.u32.max) ^^^ BitVec.ofInt IntKind.u32.bits (a:Int)).toNat:Int)=((4294967295 ^^^ a:Nat):Int):=by
  rw [show (if IntKind.u32.signed then -1 else IntKind.u32.max)=((4294967295:Nat):Int) from rfl]
  exact OH Z ha
def Im (x y:Nat):Nat:=if x<y then 1 else 0
theorem Yk {r:Nat} (h:r<4294967296):r/2147483648=if r.testBit 31 then 1 else 0:=by
  have e:r.testBit 31=decide (r/2147483648%2=1):=Nat.testBit_eq_decide_div_mod_eq ..
  rw [e]
  by_cases h1:r/2147483648%2=1
  · rw [if_pos (by simpa using h1)];omega
  · rw [if_neg (by simpa using h1)];omega
theorem QP {x:Nat} (h:x<4294967296):x.testBit 31=decide (2147483648<=x):=by
  rw [Nat.testBit_eq_decide_div_mod_eq]
  exact decide_eq_decide.2 Z
theorem UC {x y c:Nat} (hx:x<4294967296) (hy:y<4294967296) (hc:c<=1) {d:Nat} (hd:d=(x+(4294967296-y)+(4294967296-c))%4294967296) :
    ((4294967295 ^^^ x) &&& y ||| (4294967295 ^^^ (x ^^^ y)) &&& d)/2147483648=Im x (y+c):=by
  have hd':d<4294967296:=by omega
  have h1:((4294967295 ^^^ x) &&& y ||| (4294967295 ^^^ (x ^^^ y)) &&& d)<2^32:=by
    refine Nat.or_lt_two_pow ?_ ?_
    · exact Nat.lt_of_le_of_lt Nat.and_le_right hy
    · exact Nat.lt_of_le_of_lt Nat.and_le_right hd'
  rw [Yk Z]
  simp only [Nat.testBit_or,Nat.testBit_and,Nat.testBit_xor,QP hx,QP hy,QP hd',QP (show 4294967295<4294967296 by omega)]
  unfold Im
  by_cases h2:2147483648<=x<;>by_cases h3:2147483648<=y<;>by_cases h4:2147483648<=d<;>simp [h2,h3,h4]<;>omega
theorem US (x y:Nat):x/4294967296*(y/4294967296)+(x/4294967296*(y%4294967296)+x%4294967296*(y%4294967296)/4294967296)/4294967296+((x/4294967296*(y%4294967296)+x%4294967296*(y%4294967296)/4294967296)%4294967296+x%4294967296*(y/4294967296))/4294967296=x*y/18446744073709551616:=by
  have e:x*y=x%4294967296*(y%4294967296)+4294967296*(x/4294967296*(y%4294967296)+x%4294967296*(y/4294967296))+18446744073709551616*(x/4294967296*(y/4294967296)):=by
    have hx:x=x%4294967296+4294967296*(x/4294967296):=by omega
    have hy:y=y%4294967296+4294967296*(y/4294967296):=by omega
    generalize x%4294967296=a at *
    generalize x/4294967296=b at *
    generalize y%4294967296=c at *
    generalize y/4294967296=d at *
    subst hx;subst hy
    grind
  rw [e]
  generalize x%4294967296*(y%4294967296)=p
  generalize x/4294967296*(y%4294967296)=q
  generalize x%4294967296*(y/4294967296)=r
  generalize x/4294967296*(y/4294967296)=t
  omega
theorem KQ {a b:Nat} (ha:a<4294967296) (hb:b<4294967296):a*b<=18446744065119617025:=Nat.mul_le_mul (show a<=4294967295 by omega) (show b<=4294967295 by omega)
def bl (x:Nat):Nat:=if x=0 then 0 else Nat.log2 x+1
theorem Oa {x k:Nat} (h:2^k<=x):Nat.log2 x=Nat.log2 (x/2^k)+k:=by
  have hx:x≠0:=by have:=Nat.pow_pos (n:=k) (show 0<2 by omega);omega
  have hq:x/2^k≠0:=by
    have:=Nat.div_pos h (Nat.pow_pos (n:=k) (show 0<2 by omega));omega
  have h1:=(Nat.log2_eq_iff hq).1 rfl
  rw [Nat.log2_eq_iff hx]
  have hm:=Nat.div_add_mod x (2^k)
  have hlt:=Nat.mod_lt x (Nat.pow_pos (n:=k) (show 0<2 by omega))
  constructor
  · rw [Nat.pow_add,Nat.mul_comm]
    exact Nat.le_trans (Nat.mul_le_mul_left _ h1.1) (Nat.mul_div_le x _)
  · rw [show (x/2^k).log2+k+1=((x/2^k).log2+1)+k by omega,Nat.pow_add]
    exact (Nat.div_lt_iff_lt_mul (Nat.pow_pos Z)).1 h1.2
theorem Nl {x k:Nat} (h:2^k<=x):bl x=bl (x/2^k)+k:=by
  have hx:x≠0:=by have:=Nat.pow_pos (n:=k) (show 0<2 by omega);omega
  have hq:x/2^k≠0:=by
    have:=Nat.div_pos h (Nat.pow_pos (n:=k) (show 0<2 by omega));omega
  simp only [bl,hx,hq,if_false,Oa h]
  omega
theorem Uq {x k:Nat} (h:x<2^k):bl x<=k:=by
  unfold bl
  split
  · omega
  · rename_i hx
    have:=(Nat.log2_lt hx).2 h
    omega
theorem Rf {y:Nat} (h0:0<y) (h:y<4294967296):bl y<=32/\0<bl y/\2147483648<=y*2^(32-bl y)/\y*2^(32-bl y)<4294967296:=by
  have hy:y≠0:=by omega
  have h1:=(Nat.log2_eq_iff hy).1 rfl
  have h2:=Uq (k:=32) (show y<2^32 by omega)
  have hb:bl y=y.log2+1:=by simp [bl,hy]
  refine ⟨h2,Z,?_,?_⟩
  · rw [hb] at h2 ⊢
    calc 2147483648=2^y.log2*2^(32-(y.log2+1)):=by rw [<-Nat.pow_add,show y.log2+(32-(y.log2+1))=31 by omega]
      _<=_:=Nat.mul_le_mul_right _ h1.1
  · rw [hb] at h2 ⊢
    calc y*2^(32-(y.log2+1))<2^(y.log2+1)*2^(32-(y.log2+1)):=Nat.mul_lt_mul_of_pos_right h1.2 (Nat.pow_pos Z)
      _=4294967296:=by rw [<-Nat.pow_add,show y.log2+1+(32-(y.log2+1))=32 by omega]
theorem YG {s:ByteArray} (h:((List.range 256).all λj=>s[j]? == some (UInt8.ofNat (bl j)))=true) {j:Nat} (hj:j<256):s[j]?=some (UInt8.ofNat (bl j)):=by
  simpa using List.all_eq_true.1 h j (List.mem_range.2 hj)
theorem Xq {x:Nat} (h:256<=x):bl x=bl (x/256)+8:=Nl (k:=8) h
theorem Ub (z:Int):(if (if z<1 then z else 1) > -1 then (if z<1 then z else 1) else -1)=z.sign:=by
  rcases Int.lt_trichotomy z 0 with h|h|h
  · rw [Int.sign_eq_neg_one_of_neg h,if_pos (show z<1 by omega)];split<;>omega
  · subst h;rfl
  · rw [Int.sign_eq_one_of_pos h,if_neg (show ¬z<1 by omega)];rfl
section
variable {P:Program} {n:Nat} {F:List (Nat×Value)} {w0:A_} {L:List As} {x y:Operand} {d:Option Tmp} {t:TypeId} {p:String} {af:Array Edge} {g:Option (Nat×Bool)}
theorem HY {s:ByteArray} {k:IntKind} {j m:Nat} {tx:TypeId} (hx:evF F x=some (.string s)) (hy:evF F y=some (.int k ((j:Nat):Int))) (hu:P.underlying tx=some .string) (hb:s[j]?=some (UInt8.ofNat m)) (hm:m<256):Ex P n F w0 L ⟨d,.index tx x y,t,p,af,g⟩ (.int .u8 ((m:Nat):Int)):=by
  have h:=Iw (P:=P) (n:=n) (F:=F) (w0:=w0) (L:=L) (d:=d) (t:=t) (p:=p) (af:=af) (g:=g) hx hy hu rfl hb
  have e:(UInt8.ofNat m).toNat=m:=by simp;omega
  rwa [e] at h
theorem RJ {f:FuncId} {xs:List Operand} {args:List Value} {ts:Array TypeId} {v:Value} (hf:evF F x=some (.func (.func f) #[] #[])) (hargs:xs.map (evF F)=args.map some)
    (hc:∀w,(callFunc f args.toArray).run P w=.ok (.value v) w):Ex P n F w0 L ⟨d,.call { callee:=.value x,args:=xs.toArray,argTypes:=ts },t,p,af,g⟩ v:=λA w ha _=>by
  have e1:xs.toArray.map A.eval=args.toArray:=by rw [<-Nb ha hargs];simp
  simp [execOp,resolve,ha.ev hf,Deferred.ofValue,e1,invoke,hc]
theorem Qv {f : FuncId} {fn : Func} (hf : P.funcs[f]? = some fn) (hname : (fn.name == "runtime.NumGoroutine") = false) (hb : fn.body.isNone = true) (hn : Extern.findNext fn = none) (he : Extern.find fn = some add64Entry) (x y c : Nat) (hc : c ≤ 1) (w : World) :
    (callFunc f #[.int .u64 x,.int .u64 y,.int .u64 c]).run P w=.ok (.value (.tuple #[.int .u64 (((x+y+c)%18446744073709551616:Nat):Int),.int .u64 (((x+y+c)/18446744073709551616:Nat):Int)])) w:=by
  rw [run_callFunc_extern hf hname hb hn he,run_add64 x y c Z Z Z Z]
  simp only [Result.andThen]
  congr 5<;>omega
end
theorem BD.fresh {W w:World} {L:List As} (h:BD ⟨W,none⟩ w L) {i b:Nat} {T:TypeId} {cs:List Value} (hi:L[i]?=some (AU b T cs)):W.heap.size<=b:=by
  rcases (h.2.1 _ (List.mem_of_getElem? hi) b rfl).1 with h1|h1|h1
  · cases h1
  · exact h1
  · cases h1
end
section
set_option maxRecDepth 100000
theorem Zj:FF prog 2:=⟨isAgg2⟩
theorem BL:FF prog 3:=⟨isAgg3⟩
theorem Kx:FF prog 4:=⟨isAgg4⟩
theorem SB:FF prog 9:=⟨isAgg9⟩
theorem OD:FF prog 22:=⟨isAgg22⟩
theorem CU:FF prog 23:=⟨isAgg23⟩
theorem D4:FF prog 24:=⟨isAgg24⟩
theorem UD:DC prog 26 3:=⟨isAgg26,sizeOf26⟩
theorem DE:FF prog 28:=⟨isAgg28⟩
theorem Dn:DC prog 30 3:=⟨isAgg30,sizeOf30⟩
theorem Fj:FF prog 36:=⟨isAgg36⟩
theorem Gt:FF prog 37:=⟨isAgg37⟩
theorem DA:DC prog 39 3:=⟨isAgg39,sizeOf39⟩
theorem MP:DC prog 49 4:=⟨isAgg49,sizeOf49⟩
theorem VT:DC prog 50 4:=⟨isAgg50,sizeOf50⟩
theorem GZ:FF prog 69:=⟨isAgg69⟩
theorem By:DC prog 71 2:=⟨isAgg71,sizeOf71⟩
theorem Qz:DC prog 73 2:=⟨isAgg73,sizeOf73⟩
theorem EE:DC prog 75 3:=⟨isAgg75,sizeOf75⟩
theorem Cq:DC prog 77 5:=⟨isAgg77,sizeOf77⟩
theorem FY:FF prog 79:=⟨isAgg79⟩
theorem My:DC prog 81 2:=⟨isAgg81,sizeOf81⟩
theorem Dc:DC prog 83 3:=⟨isAgg83,sizeOf83⟩
theorem YM:FF prog 92:=⟨isAgg92⟩
theorem Qt:DC prog 94 2:=⟨isAgg94,sizeOf94⟩
theorem Yx:DC prog 96 4:=⟨isAgg96,sizeOf96⟩
theorem Ha:DC prog 99 10:=⟨isAgg99,sizeOf99⟩
theorem ET:DC prog 105 3:=⟨isAgg105,sizeOf105⟩
theorem Jb:DC prog 110 3:=⟨isAgg110,sizeOf110⟩
theorem Yo:DC prog 119 3:=⟨isAgg119,sizeOf119⟩
theorem Ll:DC prog 121 6:=⟨isAgg121,sizeOf121⟩
theorem K_:DC prog 240 2:=⟨isAgg240,sizeOf240⟩
theorem IW:DN prog 30 ([(Value.slice none 0 0),(Value.slice none 0 0),(Value.slice none 0 0)]):=⟨_,zeroValue30,rfl⟩
theorem PK:DN prog 39 ([(Value.slice none 0 0),(Value.slice none 0 0),(Value.slice none 0 0)]):=⟨_,zeroValue39,rfl⟩
theorem L0:DN prog 49 ([(vI 0),(vI 0),(vI 0),(vI 0)]):=⟨_,zeroValue49,rfl⟩
theorem X1:DN prog 50 ([(vI 0),(vI 0),(vI 0),(vI 0)]):=⟨_,zeroValue50,rfl⟩
theorem Fi:DN prog 71 (AS 0):=⟨_,zeroValue71,rfl⟩
theorem ZG:DN prog 73 (AS 0):=⟨_,zeroValue73,rfl⟩
theorem Kg:DN prog 75 (A9 0):=⟨_,zeroValue75,rfl⟩
theorem IV:DN prog 77 (AZ (0:Rat)):=⟨_,zeroValue77,rfl⟩
theorem RF:DN prog 81 ([(Value.bool false),(Value.slice none 0 0)]):=⟨_,zeroValue81,rfl⟩
theorem Lw:DN prog 83 ([(Value.bool false),(Value.slice none 0 0),(Value.slice none 0 0)]):=⟨_,zeroValue83,rfl⟩
theorem Oi:DN prog 99 (BC (⟨0,0⟩:Pt)):=⟨_,zeroValue99,rfl⟩
theorem LC:DN prog 105 ([(vI 0),(vI 0),(vI 0)]):=⟨_,zeroValue105,rfl⟩
theorem QU:DN prog 110 ([(vI 0),(vI 0),(vI 0)]):=⟨_,zeroValue110,rfl⟩
theorem ZW:DN prog 114 ([(vI 0),(vI 0)]):=⟨_,zeroValue114,rfl⟩
theorem Yn:DN prog 119 ([(vI 0),(vI 0),(vI 0)]):=⟨_,zeroValue119,rfl⟩
theorem Nr:DN prog 121 ([(Value.bool false),(Value.slice none 0 0),(Value.slice none 0 0),(Value.bool false),(Value.slice none 0 0),(Value.slice none 0 0)]):=⟨_,zeroValue121,rfl⟩
theorem Tb:DN prog 240 ([(vI 0),(vI 0)]):=⟨_,zeroValue240,rfl⟩
theorem ZV:DN prog 331 ([(Value.int .u8 (0:Int)),(Value.int .u8 (0:Int)),(Value.int .u8 (0:Int)),(Value.int .u8 (0:Int)),(Value.int .u8 (0:Int)),(Value.int .u8 (0:Int)),(Value.int .u8 (0:Int)),(Value.int .u8 (0:Int)),(Value.int .u8 (0:Int)),(Value.int .u8 (0:Int)),(Value.int .u8 (0:Int)),(Value.int .u8 (0:Int)),(Value.int .u8 (0:Int)),(Value.int .u8 (0:Int)),(Value.int .u8 (0:Int)),(Value.int .u8 (0:Int)),(Value.int .u8 (0:Int)),(Value.int .u8 (0:Int)),(Value.int .u8 (0:Int)),(Value.int .u8 (0:Int)),(Value.int .u8 (0:Int)),(Value.int .u8 (0:Int)),(Value.int .u8 (0:Int)),(Value.int .u8 (0:Int))]):=⟨_,zeroValue331,rfl⟩
end
end Go.Proofs.YtpolhpjiahbidaaGreatDoor
