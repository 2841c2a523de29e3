import Derived.Laws.Externs
import Derived.Test.YtfbomiejpbchdaaGreatPart03
import Derived.Test.YtfbomiejpbchdaaGreatPart04
import Derived.Test.YtfbomiejpbchdaaGreatPart06
import Derived.Test.YtfbomiejpbchdaaGreatPart07
namespace Go.Proofs.YtfbomiejpbchdaaGreat
open Go Go.RowKit
set_option linter.unusedVariables false
set_option linter.unusedSimpArgs false
section
section
variable {w0:BP} {L:List As}
theorem BR.addRo {w w':World} {a:As} (h:BR w0 w L) (hb:FQ w.heap.size w w') (hr:a.ro=true) (hh:Holds w' a) (hs:∀b,a.foot=some b->w.heap.size<=b\/∃y∈L,y.ro=true/\y.foot=some b):BR w0 w' (a::L):=by
  have h1:=h.below hb
  refine ⟨h1.1,λz hz b e=>?_,List.pairwise_cons.2 ⟨λz hz=>?_,h1.2.2⟩⟩
  · rcases List.mem_cons.1 hz with rfl|hz
    · exact ⟨.inl hr,hh b e⟩
    · exact h1.2.1 z hz b e
  · cases hf:a.foot with
    | none=>exact .inr λb e=>by cases e
    | some b =>
      rcases hs b hf with h2|⟨y,hy,hyr,hyf⟩
      · refine .inr λb' e e2=>?_
        injection e with e;subst e
        exact absurd (h.lt hz e2) (by omega)
      · have h3:=Gm hr hyr hf hyf (GI h.2.2 y hy z hz)
        rw [<-hf];exact h3
end
class D9 (α:Type) where
  val:α->Value
  rows:α->List As
  ro:∀a,∀y∈rows a,y.ro=true
def Ro (S:Nat->Prop) (w:World) {α:Type} [D9 α] (a:α):Prop:=∀y∈D9.rows a,Holds w y/\∀b,y.foot=some b->S b
def Bp (α:Type) [D9 α] (S:Nat->Prop) (W:World) (e:Ending) (w:World):Prop :=
  ∃a:α,e=.returned (D9.val a)/\FQ W.heap.size W w/\Ro (λb=>W.heap.size<=b\/S b) w a
def Nw (w0:BP) (S:Nat->Prop) (b:Nat):Prop:=w0.w.heap.size<=b\/S b
def SL (w0:BP) (S:Nat->Prop) (L:List As) (b:Nat):Prop:=(∃y∈L,y.ro=true/\y.foot=some b)/\Nw w0 S b
def At (w0:BP) (S:Nat->Prop) {α:Type} [D9 α] (a:α):Prop:=∀y∈D9.rows a,∀b,y.foot=some b->Nw w0 S b
section
variable {w0:BP} {S:Nat->Prop} {w W:World} {L:List As} {α:Type} [D9 α]
theorem Dn (hw:BR w0 w L) (i:Nat) {a:α} (hi:(L.drop i).take (D9.rows a).length=D9.rows a) (ha:At w0 S a):Ro (SL w0 S L) w a:=λy hy=>by
  have hm:y∈L:=List.mem_of_mem_drop (i:=i) (List.mem_of_mem_take (i:=(D9.rows a).length) (by rw [hi];exact hy))
  exact ⟨λb e=>(hw.2.1 y hm b e).2,λb e=>⟨⟨y,hm,D9.ro a y hy,e⟩,ha y hy b e⟩⟩
theorem Ro.mono {S':Nat->Prop} {a:α} (h:Ro S w a) (hs:∀b,S b->S' b):Ro S' w a:=λy hy=>⟨(h y hy).1,λb e=>hs b ((h y hy).2 b e)⟩
theorem FS {a:α} (h:Ro S w a):At ⟨W,none⟩ S a:=λy hy b e=>.inr ((h y hy).2 b e)
theorem ZW {a:α} {v:Value} (hw:BR ⟨W,none⟩ w L) (h:Ro (SL ⟨W,none⟩ S L) w a) (hv:v=D9.val a):Bp α S W (.returned v) w:=⟨a,by rw [hv],hw.out,h.mono λb h=>h.2⟩
theorem FP {a:α} (h:Ro S w a) (t:∀y∈L,y.ro=true/\Holds w y):∀y∈D9.rows a++L,y.ro=true/\Holds w y:=λy hy=>(List.mem_append.1 hy).elim (λk=>⟨D9.ro a y k,(h y k).1⟩) (t y)
end
theorem BR.addRos {w0:BP} {w w':World} {L:List As} (h:BR w0 w L) (hb:FQ w.heap.size w w'):∀(xs:List As),(∀x∈xs,x.ro=true/\Holds w' x/\∀b,x.foot=some b->w.heap.size<=b\/∃y∈L,y.ro=true/\y.foot=some b)->BR w0 w' (xs++L)
  | [],_=>h.below hb
  | x::xs,hx=>by
    have h1:=BR.addRos h hb xs λy hy=>hx y (List.mem_cons_of_mem _ hy)
    obtain ⟨hr,hh,hs⟩:=hx x List.mem_cons_self
    have h2:=h.addRo hb hr hh hs
    refine ⟨h1.1,λy hy=>(List.mem_cons.1 hy).elim (λe=>h2.2.1 y (e▸List.mem_cons_self)) (λe=>h1.2.1 y e),List.pairwise_cons.2 ⟨λy hy=>?_,h1.2.2⟩⟩
    rcases List.mem_append.1 hy with hy|hy
    · exact .inl ⟨hr,(hx y (List.mem_cons_of_mem _ hy)).1⟩
    · exact (List.pairwise_cons.1 h2.2.2).1 y hy
section
variable {P:Program} {ops:Array Oper} {rest:List Oper} {Q:Exit->Act->World->Prop} {n d:Nat} {F:List (Nat×Value)} {w0:BP} {S:Nat->Prop} {L:List As} {t:TypeId} {p:String} {af:Array Edge} {y:Operand} {f:FuncId} {xs:List Operand} {args:List Value} {ts:Array TypeId}
theorem AF.callRg {α:Type} [D9 α] {g:Option (Nat×Bool)} (hw:Wt ops n F ⟨some d,.call { callee:=.value y,args:=xs.toArray,argTypes:=ts },t,p,af,g⟩) (hc:∀args w,(callFunc f args).run P w=.ok (.enter f args) w) (h:∀w,BR w0 w L->Calls P f args.toArray w (Bp α (SL w0 S L) w))
    (hf:evF F y=some (.func (.func f) #[] #[])) (hargs:xs.map (evF F)=args.map some) (hd:Nat.ble (d+1) n=true) (next:∀a:α,At w0 S a->AF P ops rest Q n ((d,D9.val a)::F) w0 (D9.rows a++L)) :
    AF P ops (⟨some d,.call { callee:=.value y,args:=xs.toArray,argTypes:=ts },t,p,af,g⟩::rest) Q n F w0 L:=λa w ha hW=>by
  unfold wpList
  rw [if_pos (hw a ha)]
  left
  unfold Oper.wp
  rw [Aq hf hargs hc a w ha hW,Oper.upon_enter]
  refine (h w hW).mono ?_
  rintro e w' ⟨v,rfl,hb,hr⟩
  exact next v (λy hy b e=>((hr y hy).2 b e).elim (λh=>.inl (Nat.le_trans hW.1.size h)) λh=>h.2) _ _ (ha.put (CB hd)) (hW.addRos hb _ λx hx=>⟨D9.ro v x hx,(hr x hx).1,λb e=>((hr x hx).2 b e).imp_right λh=>h.1⟩)
theorem AF.callR {α:Type} [D9 α] (hc:∀args w,(callFunc f args).run P w=.ok (.enter f args) w) (h:∀w,BR w0 w L->Calls P f args.toArray w (Bp α (SL w0 S L) w))
    (hf:evF F y=some (.func (.func f) #[] #[])) (hargs:xs.map (evF F)=args.map some) (hd:Nat.ble (d+1) n=true) (next:∀a:α,At w0 S a->AF P ops rest Q n ((d,D9.val a)::F) w0 (D9.rows a++L)) :
    AF P ops (⟨some d,.call { callee:=.value y,args:=xs.toArray,argTypes:=ts },t,p,af,none⟩::rest) Q n F w0 L:=AF.callRg (AN rfl) hc h hf hargs hd next
theorem Nr {ops:Array Oper} {o:Oper} {j t:Nat} {b:Bool} (h:o.guard=some (j,b)) (hj:(ops[j]?).bind (·.dst)=some t) (ht:F.lookup t=some undef):∀a,Cd n a F->Region.wanted o (yielded ops a.tmps)=false:=λa ha=>by
  have h1:=ha.2.2 t _ ht
  simp [Region.wanted,h,yielded,hj,h1,undef]
end
end
section
def EG (a b:Nat):Int:=if a<b then -1 else if b<a then 1 else 0
theorem Qe {a b:Nat} (h:a<b):EG a b = -1:=if_pos h
theorem P1 {a b:Nat} (h:¬a<b) (h2:b<a):EG a b=1:=by rw [EG,if_neg h,if_pos h2]
theorem Pz {a b:Nat} (h:¬a<b) (h2:¬b<a):EG a b=0:=by rw [EG,if_neg h,if_neg h2]
def TI (a b:Int):Int:=if a≠0 then a else if b≠0 then b else 0
section
variable {P:Program} {n:Nat} {F:List (Nat×Value)} {w0:BP} {L:List As} {d:Option Tmp} {x:Operand} {t:TypeId} {p:String} {af:Array Edge} {g:Option (Nat×Bool)}
theorem EJ {tx e:TypeId} {a:Option Addr} {len cap k:Nat} {hi mx:Operand} {ki kj:IntKind} {m:Nat} (hx:evF F x=some (.slice a len cap)) (hh:evF F hi=some (.int ki (m:Nat))) (hj:evF F mx=some (.int kj (m:Nat))) (hu:P.underlying tx=some (.slice e)) (hs:∀w,(sizeOf e).run P w=.ok k w) (hm:m<=cap) :
    Ex P n F w0 L ⟨d,.slice tx x none (some hi) (some mx),t,p,af,g⟩ (.slice a m m):=λA w ha _=>by
  simp only [execOp,ha.ev hx,Instr.sliceAt,run_underlying hu,Instr.slice,Option.map_some,Option.map_none,ha.ev hh,ha.ev hj,Instr.sliceBounds,Instr.sliceBound,asIntOf,Sem.run_bind,Result.andThen_ok,Sem.run_pure]
  have h1:(0:Int)<=(m:Int)/\(m:Int)<=(cap:Int):=⟨by omega,by omega⟩
  simp [h1.2,hs]
  cases a<;>simp [Addr.add]
end
section
variable {P:Program} {ops:Array Oper} {rest:List Oper} {Q:Exit->Act->World->Prop} {n:Nat} {F:List (Nat×Value)} {w0:BP} {L L':List As}
end
end
def Dz (bs:List Nat):Nat->Nat
  | 0=>0
  | m+1=>if bs.getD m 0=0 then Dz bs m else m+1
theorem R3 {bs:List Nat} {k:Nat} (h:0<k) (h0:bs.getD (k-1) 0=0):Dz bs k=Dz bs (k-1):=by
  obtain ⟨j,rfl⟩:∃j,k=j+1:=⟨k-1,by omega⟩
  simp only [Dz];rw [if_pos (by simpa using h0)];simp
theorem Qw {bs:List Nat} {k:Nat} (h:¬(0<k/\bs.getD (k-1) 0=0)):Dz bs k=k:=by
  cases k with
  | zero=>rfl
  | succ j=>simp only [Dz];rw [if_neg (by simpa using h)]
theorem Jd (bs:List Nat):∀m,Dz bs m<=m
  | 0=>Nat.le_refl _
  | m+1=>by
    simp only [Dz]
    split
    · have:=Jd bs m;omega
    · exact Nat.le_refl _
theorem L7 (bs:List Nat):∀m,Dz bs m≠0->bs.getD (Dz bs m-1) 0≠0
  | 0,h=>absurd rfl h
  | m+1,h=>by
    simp only [Dz] at h ⊢
    split
    · rename_i h0;rw [if_pos h0] at h;exact L7 bs m h
    · rename_i h0;simpa using h0
theorem KW (bs:List Nat):∀m,val (bs.take (Dz bs m))=val (bs.take m)
  | 0=>rfl
  | m+1=>by
    simp only [Dz]
    split
    · rename_i h0;rw [KW bs m,Bb,h0];omega
    · rfl
theorem IR {bs:List Nat} (hb:W32 bs) {m:Nat} (hm:m<=bs.length):AL (val (bs.take m))=bs.take (Dz bs m):=by
  rw [<-KW]
  refine NX (hb.take _) λx hx=>?_
  have hle:=Jd bs m
  have hne:Dz bs m≠0:=λh0=>by rw [h0] at hx;simp at hx
  have hl:(bs.take (Dz bs m)).getLast?=some (bs.getD (Dz bs m-1) 0):=by
    rw [List.getLast?_eq_getElem?]
    have h1:(bs.take (Dz bs m)).length-1=Dz bs m-1:=by simp;omega
    rw [h1,List.getElem?_take,if_pos (by omega)]
    have h2:Dz bs m-1<bs.length:=by omega
    simp [h2]
  rw [hl] at hx
  injection hx with hx
  rw [<-hx]
  exact L7 bs m hne
theorem PJ {bs:List Nat} (hb:W32 bs) {m:Nat} (hm:m<=bs.length):nw (val (bs.take m))=Dz bs m:=by
  unfold nw
  rw [IR hb hm,List.length_take]
  have:=Jd bs m
  omega
theorem Ha {v:Nat} (h:v<18446744073709551616):small v=true:=by simp [small,h]
theorem I5 {v:Nat} (h:¬v<18446744073709551616):small v=false:=by simp [small,h]
theorem Dl {v:Nat} (h:v<18446744073709551616):AZ v=[.int .u64 (v:Nat),.string ByteArray.empty]:=by
  simp [AZ,CC,Bn,Ha h]
theorem Bm {v:Nat} (h:v<18446744073709551616):CC v=v:=by simp [CC,Ha h]
def bytesN (xs:List Nat):List Nat:=xs.flatMap λx=>[x%256,x/256%256,x/65536%256,x/16777216%256]
theorem B9 (xs:List Nat):(bytesN xs).length=4*xs.length:=by
  induction xs with
  | nil=>rfl
  | cons x xs ih=>simp [bytesN] at ih ⊢;omega
theorem LQ (xs ys:List Nat):bytesN (xs++ys)=bytesN xs++bytesN ys:=by simp [bytesN]
theorem Lp (xs:List Nat):DE (bytesN xs)=⟨(xs.flatMap S9).toArray⟩:=by
  unfold DE
  congr 2
  induction xs with
  | nil=>rfl
  | cons x xs ih =>
    simp only [bytesN,List.flatMap_cons,List.map_append] at ih ⊢
    rw [ih]
    rfl
theorem VC {v:Nat} (h:¬v<18446744073709551616):AZ v=[.int .u64 (0:Nat),.string (DE (bytesN (AL v)))]:=by
  simp [AZ,CC,Bn,I5 h,Lp]
theorem HY {v:Nat} (h:v<18446744073709551616):Bn v=ByteArray.empty:=by simp [Bn,Ha h]
theorem FL {v:Nat} (h:¬v<18446744073709551616):Bn v=DE (bytesN (AL v)):=by simp [Bn,I5 h,Lp]
theorem Kv (xs:List Nat):(DE xs).size=xs.length:=by simp [DE,ByteArray.size]
theorem Qy {xs:List Nat} {j:Nat} (h:j<xs.length):(DE xs)[j]?=some (UInt8.ofNat (xs.getD j 0)):=by
  have h1:j<(DE xs).size:=by rw [Kv];exact h
  rw [getElem?_pos (DE xs) j h1]
  congr 1
  show (DE xs).data[j]'h1=_
  simp [DE,h]
theorem F4:∀(xs:List Nat) (i k:Nat),i<xs.length->k<4->(bytesN xs).getD (4*i+k) 0=xs.getD i 0/256^k%256
  | [],i,k,h,_=>by simp at h
  | x::xs,0,k,_,hk=>by
    rcases k with _|_|_|_|k
    · simp [bytesN]
    · simp [bytesN]
    · simp [bytesN]
    · simp [bytesN]
    · omega
  | x::xs,i+1,k,h,hk=>by
    have ih:=F4 xs i k (by simpa using h) hk
    have e:4*(i+1)+k=(4*i+k)+4:=by omega
    rw [e,List.getD_cons_succ,<-ih]
    simp [bytesN]
theorem Ph {v:Nat} (h:¬v<18446744073709551616):2<nw v:=by
  rcases Nat.lt_or_ge 2 (nw v) with h1|h1
  · exact h1
  · exact absurd (C5.1 h1) (by omega)
theorem Cy {v:Nat}:((Bn v).toList == (ByteArray.mk #[]).toList)=decide (v<18446744073709551616):=by
  by_cases h:v<18446744073709551616
  · rw [HY h];simp [h]
  · have h1:=Ph h
    rw [ByteArray.toList_eq,ByteArray.toList_eq]
    have h2:(Bn v).data.toList≠[]:=λe=>by
      have h3:(Bn v).data.toList.length=0:=by rw [e];rfl
      rw [FL h] at h3
      simp [DE,B9] at h3
      unfold nw at h1
      omega
    have h4:((Bn v).data.toList == [])=false:=by
      cases hl:(Bn v).data.toList with
      | nil=>exact absurd hl h2
      | cons=>rfl
    rw [show (ByteArray.mk #[]).data.toList=[] from rfl,h4]
    simp [h]
def A8 (v:Nat):List Nat:=if v<18446744073709551616 then [v%4294967296,v/4294967296] else AL v
theorem CU (v:Nat):W32 (A8 v):=by
  unfold A8
  split
  · exact W32.cons (by omega) (W32.cons (by omega) W32.nil)
  · exact Bv v
theorem XA {v:Nat} (h:v<18446744073709551616):W32 [v%4294967296,v/4294967296]:=W32.cons (by omega) (W32.cons (by omega) W32.nil)
theorem CN (v:Nat):nw v<=(A8 v).length:=by
  unfold A8
  split
  · rename_i h;exact KN h
  · exact Nat.le_refl _
theorem IP (v:Nat):(A8 v).take (nw v)=AL v:=by
  unfold A8
  split
  · rename_i h
    have e:v=val ([v%4294967296,v/4294967296].take 2):=by simp [val];omega
    have hw:W32 [v%4294967296,v/4294967296]:=W32.cons (by omega) (W32.cons (by omega) W32.nil)
    have h1:=IR hw (m:=2) (by simp)
    have h2:=PJ hw (m:=2) (by simp)
    rw [<-e] at h1 h2
    rw [h2,<-h1]
  · exact List.take_of_length_le (Nat.le_refl _)
theorem QV (v:Nat):val (A8 v)=v:=by
  unfold A8
  split
  · simp [val];omega
  · exact CX v
theorem HZ {a b s:Nat} (ha:a<2^s):a ||| b*2^s=a+b*2^s:=by
  rw [Nat.or_comm,Nat.mul_comm,<-Nat.two_pow_add_eq_or_of_lt ha];omega
theorem Jn {a b:Nat} (ha:a<18446744073709551616) (hb:b<18446744073709551616) {c:Nat} (hc:a ||| b=c):IntKind.u64.wrap ((BitVec.ofInt IntKind.u64.bits (a:Int) ||| BitVec.ofInt IntKind.u64.bits (b:Int)).toNat:Int)=(c:Int):=by
  have e:(BitVec.ofInt IntKind.u64.bits (a:Int) ||| BitVec.ofInt IntKind.u64.bits (b:Int)).toNat=a ||| b:=by
    show (BitVec.ofInt 64 (a:Int) ||| BitVec.ofInt 64 (b:Int)).toNat=_
    rw [BitVec.toNat_or,BitVec.ofInt_natCast,BitVec.ofInt_natCast,BitVec.toNat_ofNat,BitVec.toNat_ofNat,Nat.mod_eq_of_lt (show a<2^64 by omega),Nat.mod_eq_of_lt (show b<2^64 by omega)]
  rw [e,hc]
  have h2:a ||| b<2^64:=Nat.or_lt_two_pow ha hb
  exact D6 (by omega) (by omega)
theorem JW {a b:Nat} (ha:a<4294967296) (hb:b<4294967296) {c:Nat} (hc:a ||| b=c):IntKind.u32.wrap ((BitVec.ofInt IntKind.u32.bits (a:Int) ||| BitVec.ofInt IntKind.u32.bits (b:Int)).toNat:Int)=(c:Int):=by
  have e:(BitVec.ofInt IntKind.u32.bits (a:Int) ||| BitVec.ofInt IntKind.u32.bits (b:Int)).toNat=a ||| b:=by
    show (BitVec.ofInt 32 (a:Int) ||| BitVec.ofInt 32 (b:Int)).toNat=_
    rw [BitVec.toNat_or,BitVec.ofInt_natCast,BitVec.ofInt_natCast,BitVec.toNat_ofNat,BitVec.toNat_ofNat,Nat.mod_eq_of_lt (show a<2^32 by omega),Nat.mod_eq_of_lt (show b<2^32 by omega)]
  rw [e,hc]
  have h2:a ||| b<2^32:=Nat.or_lt_two_pow ha hb
  exact Gw (by omega) (by omega)
theorem Ge {a s:Nat} (h:a*2^s<18446744073709551616):IntKind.u64.wrap ((a:Int)*2^s)=((a*2^s:Nat):Int):=by
  have e:(a:Int)*2^s=((a*2^s:Nat):Int):=by simp
  rw [e,D6 (by omega) (by omega)]
theorem Ti {a s:Nat} (h:a*2^s<4294967296):IntKind.u32.wrap ((a:Int)*2^s)=((a*2^s:Nat):Int):=by
  have e:(a:Int)*2^s=((a*2^s:Nat):Int):=by simp
  rw [e,Gw (by omega) (by omega)]
theorem Lq {a s:Nat}:IntKind.u32.wrap ((a:Int)*2^s)=((a*2^s%4294967296:Nat):Int):=by
  have e:(a:Int)*2^s=((a*2^s:Nat):Int):=by simp
  rw [e];exact EY
theorem Ur (k:Nat):(256:Nat)^k=2^(8*k):=by rw [show (256:Nat)=2^8 from rfl,<-Nat.pow_mul]
theorem QB {w k:Nat} (hk:k<4):w/256^k%256*2^(8*k)<4294967296:=by
  rcases k with _|_|_|_|k
  · simp;omega
  · simp;omega
  · simp;omega
  · simp;omega
  · omega
theorem Qq {w k x:Nat} (hx:x=w%256^k):x ||| w/256^k%256*2^(8*k)=w%256^(k+1):=by
  subst hx
  rw [HZ (by rw [<-Ur];exact Nat.mod_lt _ (Nat.pow_pos (by omega))),<-Ur,Nat.mod_pow_succ,Nat.mul_comm]
theorem Pq {os ws xs:List Nat} {n i:Nat} (hl:os.length=n) (hn:ws.length=n) (hi:i<n) (ht:os.take i=ws.take i) (h0:∀j,i<=j->os.getD j 0=0) (hx:xs=os.set i (ws.getD i 0)) :
    xs.length=n/\xs.take (i+1)=ws.take (i+1)/\∀j,i+1<=j->xs.getD j 0=0:=by
  subst hx
  refine ⟨by simp [hl],?_,λj hj=>?_⟩
  · have e1:i<os.length:=by omega
    have e2:i<ws.length:=by omega
    rw [List.take_add_one,List.take_add_one,List.take_set_of_le (Nat.le_refl _),ht]
    simp [e1,e2]
  · have:=h0 j (by omega)
    rw [List.getD_eq_getElem?_getD,List.getElem?_set_ne (by omega),<-List.getD_eq_getElem?_getD]
    exact this
theorem Tl {os:List Nat} {i:Nat} (h:os.getD i 0=0):os=os.set i 0:=by
  apply List.ext_getElem (by simp)
  intro j h1 h2
  by_cases e:i=j
  · subst e;simpa [h1] using h
  · simp [e]
theorem XL (k:Nat):(4294967296:Nat)^k=2^(32*k):=by rw [show (4294967296:Nat)=2^32 from rfl,<-Nat.pow_mul]
theorem Tq {x i:Nat} (hx:x<4294967296) (hi:i<2):x*2^(32*i)<18446744073709551616:=by
  rcases i with _|_|i
  · simp;omega
  · simp;omega
  · omega
theorem RB {n i:Nat} (h:n<4294967296^i) (hi:i<2):n<18446744073709551616:=by
  rcases i with _|_|i
  · simp at h;omega
  · simp at h;omega
  · omega
theorem Pd {bs:List Nat} {i K:Nat} (hi:i<K) (hK:K<=bs.length) :
    GV (JP (bytesN (bs.take i)++List.replicate (4*(K-i)) 0)) (4*i) (JP [bs.getD i 0%256,bs.getD i 0/256%256,bs.getD i 0/65536%256,bs.getD i 0/16777216%256])=JP (bytesN (bs.take (i+1))++List.replicate (4*(K-(i+1))) 0):=by
  have hib:i<bs.length:=by omega
  have e1:bs.take (i+1)=bs.take i++[bs.getD i 0]:=by rw [List.take_add_one];simp [hib]
  have hl:(bytesN (bs.take i)).length=4*i:=by rw [B9,List.length_take];omega
  have e2:List.replicate (4*(K-i)) 0=List.replicate 4 0++List.replicate (4*(K-(i+1))) 0:=by rw [List.replicate_append_replicate];congr 1;omega
  have e3:bytesN [bs.getD i 0]=[bs.getD i 0%256,bs.getD i 0/256%256,bs.getD i 0/65536%256,bs.getD i 0/16777216%256]:=by simp [bytesN]
  rw [e1,LQ,e3,e2]
  unfold GV JP
  simp only [List.map_append]
  rw [List.take_append_of_le_length (by simp [hl]),List.take_of_length_le (by simp [hl])]
  rw [show 4*i+(List.map (λx=>Value.int IntKind.u8 (x:Nat)) [bs.getD i 0%256,bs.getD i 0/256%256,bs.getD i 0/65536%256,bs.getD i 0/16777216%256]).length=4*i+4 from rfl]
  rw [List.drop_append,List.drop_of_length_le (by simp [hl])]
  simp [hl]
theorem UN {os ws:List Nat} {n i:Nat} (hl:os.length=n) (hn:ws.length=n) (hi:¬i<n) (ht:os.take i=ws.take i):os=ws:=by
  rwa [List.take_of_length_le (by omega),List.take_of_length_le (by omega)] at ht
section
theorem U6 {a:Nat}:IntKind.u64.wrap (a:Int)=((a%18446744073709551616:Nat):Int):=by
  simp only [IntKind.wrap,IntKind.bits,IntKind.signed];simp
theorem Tu {a b:Nat}:IntKind.u64.wrap ((a:Int)*(b:Int))=((a*b%18446744073709551616:Nat):Int):=by
  rw [<-Int.natCast_mul];exact U6
theorem VD {a b:Nat}:IntKind.u32.wrap ((a:Int)+(b:Int))=(((a+b)%4294967296:Nat):Int):=by
  rw [<-Int.natCast_add];exact EY
theorem Oc {a b:Nat} (h:b<=4294967296):IntKind.u32.wrap ((a:Int)-(b:Int))=(((a+(4294967296-b))%4294967296:Nat):Int):=by
  simp only [IntKind.wrap,IntKind.bits,IntKind.signed];simp;omega
theorem Lf {a:Nat} (h:a<18446744073709551616):(BitVec.ofInt IntKind.u64.bits (a:Int)).toNat=a:=by
  show (BitVec.ofInt 64 (a:Int)).toNat=_
  rw [BitVec.ofInt_natCast,BitVec.toNat_ofNat,Nat.mod_eq_of_lt (by omega)]
theorem HE {a:Nat} (h:a<4294967296):(BitVec.ofInt IntKind.u32.bits (a:Int)).toNat=a:=by
  show (BitVec.ofInt 32 (a:Int)).toNat=_
  rw [BitVec.ofInt_natCast,BitVec.toNat_ofNat,Nat.mod_eq_of_lt (by omega)]
theorem Ts {a b:Nat} (ha:a<18446744073709551616) (hb:b<18446744073709551616):IntKind.u64.wrap ((BitVec.ofInt IntKind.u64.bits (a:Int) &&& BitVec.ofInt IntKind.u64.bits (b:Int)).toNat:Int)=((a &&& b:Nat):Int):=by
  rw [BitVec.toNat_and,Lf ha,Lf hb]
  have:a &&& b<=a:=Nat.and_le_left
  exact D6 (by omega) (by omega)
theorem Im {a:Nat} (ha:a<18446744073709551616):IntKind.u64.wrap ((BitVec.ofInt IntKind.u64.bits (a:Int) &&& BitVec.ofInt IntKind.u64.bits ((4294967295:Nat):Int)).toNat:Int)=((a%4294967296:Nat):Int):=by
  rw [Ts ha (by omega),show (4294967295:Nat)=2^32-1 from rfl,Nat.and_two_pow_sub_one_eq_mod]
theorem OF {a b:Nat} (ha:a<4294967296) (hb:b<4294967296):IntKind.u32.wrap ((BitVec.ofInt IntKind.u32.bits (a:Int) &&& BitVec.ofInt IntKind.u32.bits (b:Int)).toNat:Int)=((a &&& b:Nat):Int):=by
  rw [BitVec.toNat_and,HE ha,HE hb]
  have:a &&& b<=a:=Nat.and_le_left
  exact Gw (by omega) (by omega)
theorem OG {a b:Nat} (ha:a<4294967296) (hb:b<4294967296):IntKind.u32.wrap ((BitVec.ofInt IntKind.u32.bits (a:Int) ^^^ BitVec.ofInt IntKind.u32.bits (b:Int)).toNat:Int)=((a ^^^ b:Nat):Int):=by
  rw [BitVec.toNat_xor,HE ha,HE hb]
  have:a ^^^ b<2^32:=Nat.xor_lt_two_pow ha hb
  exact Gw (by omega) (by omega)
theorem N2 {a:Nat} (ha:a<4294967296):IntKind.u32.wrap ((BitVec.ofInt IntKind.u32.bits (if IntKind.u32.signed then -1 else IntKind.u32.max) ^^^ BitVec.ofInt IntKind.u32.bits (a:Int)).toNat:Int)=((4294967295 ^^^ a:Nat):Int):=by
  rw [show (if IntKind.u32.signed then -1 else IntKind.u32.max)=((4294967295:Nat):Int) from rfl]
  exact OG (by omega) ha
def JB (x y:Nat):Nat:=if x<y then 1 else 0
theorem ZB {r:Nat} (h:r<4294967296):r/2147483648=if r.testBit 31 then 1 else 0:=by
  have e:r.testBit 31=decide (r/2147483648%2=1):=Nat.testBit_eq_decide_div_mod_eq ..
  rw [e]
  by_cases h1:r/2147483648%2=1
  · rw [if_pos (by simpa using h1)];omega
  · rw [if_neg (by simpa using h1)];omega
theorem P4 {x:Nat} (h:x<4294967296):x.testBit 31=decide (2147483648<=x):=by
  rw [Nat.testBit_eq_decide_div_mod_eq]
  exact decide_eq_decide.2 (by omega)
theorem TT {x y c:Nat} (hx:x<4294967296) (hy:y<4294967296) (hc:c<=1) {d:Nat} (hd:d=(x+(4294967296-y)+(4294967296-c))%4294967296) :
    ((4294967295 ^^^ x) &&& y ||| (4294967295 ^^^ (x ^^^ y)) &&& d)/2147483648=JB x (y+c):=by
  have hd':d<4294967296:=by omega
  have h1:((4294967295 ^^^ x) &&& y ||| (4294967295 ^^^ (x ^^^ y)) &&& d)<2^32:=by
    refine Nat.or_lt_two_pow ?_ ?_
    · exact Nat.lt_of_le_of_lt Nat.and_le_right hy
    · exact Nat.lt_of_le_of_lt Nat.and_le_right hd'
  rw [ZB (by omega)]
  simp only [Nat.testBit_or,Nat.testBit_and,Nat.testBit_xor,P4 hx,P4 hy,P4 hd',P4 (show 4294967295<4294967296 by omega)]
  unfold JB
  by_cases h2:2147483648<=x<;>by_cases h3:2147483648<=y<;>by_cases h4:2147483648<=d<;>simp [h2,h3,h4]<;>omega
theorem Uu (x y:Nat):x/4294967296*(y/4294967296)+(x/4294967296*(y%4294967296)+x%4294967296*(y%4294967296)/4294967296)/4294967296+((x/4294967296*(y%4294967296)+x%4294967296*(y%4294967296)/4294967296)%4294967296+x%4294967296*(y/4294967296))/4294967296=x*y/18446744073709551616:=by
  have e:x*y=x%4294967296*(y%4294967296)+4294967296*(x/4294967296*(y%4294967296)+x%4294967296*(y/4294967296))+18446744073709551616*(x/4294967296*(y/4294967296)):=by
    have hx:x=x%4294967296+4294967296*(x/4294967296):=by omega
    have hy:y=y%4294967296+4294967296*(y/4294967296):=by omega
    generalize x%4294967296=a at *
    generalize x/4294967296=b at *
    generalize y%4294967296=c at *
    generalize y/4294967296=d at *
    subst hx;subst hy
    grind
  rw [e]
  generalize x%4294967296*(y%4294967296)=p
  generalize x/4294967296*(y%4294967296)=q
  generalize x%4294967296*(y/4294967296)=r
  generalize x/4294967296*(y/4294967296)=t
  omega
theorem KY {a b:Nat} (ha:a<4294967296) (hb:b<4294967296):a*b<=18446744065119617025:=Nat.mul_le_mul (show a<=4294967295 by omega) (show b<=4294967295 by omega)
def bl (x:Nat):Nat:=if x=0 then 0 else Nat.log2 x+1
theorem Pm {x k:Nat} (h:2^k<=x):Nat.log2 x=Nat.log2 (x/2^k)+k:=by
  have hx:x≠0:=by have:=Nat.pow_pos (n:=k) (show 0<2 by omega);omega
  have hq:x/2^k≠0:=by
    have:=Nat.div_pos h (Nat.pow_pos (n:=k) (show 0<2 by omega));omega
  have h1:=(Nat.log2_eq_iff hq).1 rfl
  rw [Nat.log2_eq_iff hx]
  have hm:=Nat.div_add_mod x (2^k)
  have hlt:=Nat.mod_lt x (Nat.pow_pos (n:=k) (show 0<2 by omega))
  constructor
  · rw [Nat.pow_add,Nat.mul_comm]
    exact Nat.le_trans (Nat.mul_le_mul_left _ h1.1) (Nat.mul_div_le x _)
  · rw [show (x/2^k).log2+k+1=((x/2^k).log2+1)+k by omega,Nat.pow_add]
    exact (Nat.div_lt_iff_lt_mul (Nat.pow_pos (by omega))).1 h1.2
theorem Nt {x k:Nat} (h:2^k<=x):bl x=bl (x/2^k)+k:=by
  have hx:x≠0:=by have:=Nat.pow_pos (n:=k) (show 0<2 by omega);omega
  have hq:x/2^k≠0:=by
    have:=Nat.div_pos h (Nat.pow_pos (n:=k) (show 0<2 by omega));omega
  simp only [bl,hx,hq,if_false,Pm h]
  omega
theorem TQ {x k:Nat} (h:x<2^k):bl x<=k:=by
  unfold bl
  split
  · omega
  · rename_i hx
    have:=(Nat.log2_lt hx).2 h
    omega
theorem SG {y:Nat} (h0:0<y) (h:y<4294967296):bl y<=32/\0<bl y/\2147483648<=y*2^(32-bl y)/\y*2^(32-bl y)<4294967296:=by
  have hy:y≠0:=by omega
  have h1:=(Nat.log2_eq_iff hy).1 rfl
  have h2:=TQ (k:=32) (show y<2^32 by omega)
  have hb:bl y=y.log2+1:=by simp [bl,hy]
  refine ⟨h2,by omega,?_,?_⟩
  · rw [hb] at h2 ⊢
    calc 2147483648=2^y.log2*2^(32-(y.log2+1)):=by rw [<-Nat.pow_add,show y.log2+(32-(y.log2+1))=31 by omega]
      _<=_:=Nat.mul_le_mul_right _ h1.1
  · rw [hb] at h2 ⊢
    calc y*2^(32-(y.log2+1))<2^(y.log2+1)*2^(32-(y.log2+1)):=Nat.mul_lt_mul_of_pos_right h1.2 (Nat.pow_pos (by omega))
      _=4294967296:=by rw [<-Nat.pow_add,show y.log2+1+(32-(y.log2+1))=32 by omega]
theorem X4 {s:ByteArray} (h:((List.range 256).all λj=>s[j]? == some (UInt8.ofNat (bl j)))=true) {j:Nat} (hj:j<256):s[j]?=some (UInt8.ofNat (bl j)):=by
  simpa using List.all_eq_true.1 h j (List.mem_range.2 hj)
theorem YK {x:Nat} (h:256<=x):bl x=bl (x/256)+8:=Nt (k:=8) h
theorem UP (z:Int):(if (if z<1 then z else 1) > -1 then (if z<1 then z else 1) else -1)=z.sign:=by
  rcases Int.lt_trichotomy z 0 with h|h|h
  · rw [Int.sign_eq_neg_one_of_neg h,if_pos (show z<1 by omega)];split<;>omega
  · subst h;rfl
  · rw [Int.sign_eq_one_of_pos h,if_neg (show ¬z<1 by omega)];rfl
section
variable {P:Program} {n:Nat} {F:List (Nat×Value)} {w0:BP} {L:List As} {x y:Operand} {d:Option Tmp} {t:TypeId} {p:String} {af:Array Edge} {g:Option (Nat×Bool)}
theorem GF {s:ByteArray} {k:IntKind} {j m:Nat} {tx:TypeId} (hx:evF F x=some (.string s)) (hy:evF F y=some (.int k ((j:Nat):Int))) (hu:P.underlying tx=some .string) (hb:s[j]?=some (UInt8.ofNat m)) (hm:m<256):Ex P n F w0 L ⟨d,.index tx x y,t,p,af,g⟩ (.int .u8 ((m:Nat):Int)):=by
  have h:=JN (P:=P) (n:=n) (F:=F) (w0:=w0) (L:=L) (d:=d) (t:=t) (p:=p) (af:=af) (g:=g) hx hy hu rfl hb
  have e:(UInt8.ofNat m).toNat=m:=by simp;omega
  rwa [e] at h
theorem Q5 {f:FuncId} {xs:List Operand} {args:List Value} {ts:Array TypeId} {v:Value} (hf:evF F x=some (.func (.func f) #[] #[])) (hargs:xs.map (evF F)=args.map some)
    (hc:∀w,(callFunc f args.toArray).run P w=.ok (.value v) w):Ex P n F w0 L ⟨d,.call { callee:=.value x,args:=xs.toArray,argTypes:=ts },t,p,af,g⟩ v:=λA w ha _=>by
  have e1:xs.toArray.map A.eval=args.toArray:=by rw [<-OO ha hargs];simp
  simp [execOp,resolve,ha.ev hf,Deferred.ofValue,e1,invoke,hc]
theorem Rb {f : FuncId} {fn : Func} (hf : P.funcs[f]? = some fn) (hname : (fn.name == "runtime.NumGoroutine") = false) (hb : fn.body.isNone = true) (hn : Extern.findNext fn = none) (he : Extern.find fn = some add64Entry) (x y c : Nat) (hc : c ≤ 1) (w : World) :
    (callFunc f #[.int .u64 x,.int .u64 y,.int .u64 c]).run P w=.ok (.value (.tuple #[.int .u64 (((x+y+c)%18446744073709551616:Nat):Int),.int .u64 (((x+y+c)/18446744073709551616:Nat):Int)])) w:=by
  rw [run_callFunc_extern hf hname hb hn he,run_add64 x y c (by omega) (by omega) (by omega) (by omega)]
  simp only [Result.andThen]
  congr 5<;>omega
end
theorem BR.fresh {W w:World} {L:List As} (h:BR ⟨W,none⟩ w L) {i b:Nat} {T:TypeId} {cs:List Value} (hi:L[i]?=some (Ah b T cs)):W.heap.size<=b:=by
  rcases (h.2.1 _ (List.mem_of_getElem? hi) b rfl).1 with h1|h1|h1
  · cases h1
  · exact h1
  · cases h1
end
section
set_option maxRecDepth 100000
theorem My:Ga Tryz.prog 2:=⟨Tryz.isAgg2⟩
theorem B4:Ga Tryz.prog 3:=⟨Tryz.isAgg3⟩
theorem VG:Ga Tryz.prog 4:=⟨Tryz.isAgg4⟩
theorem Tn:Ga Tryz.prog 5:=⟨Tryz.isAgg5⟩
theorem UF:Ga Tryz.prog 9:=⟨Tryz.isAgg9⟩
theorem X2:Ga Tryz.prog 22:=⟨Tryz.isAgg22⟩
theorem Wv:Ga Tryz.prog 23:=⟨Tryz.isAgg23⟩
theorem NG:DY Tryz.prog 26 9:=⟨Tryz.isAgg26,Tryz.sizeOf26⟩
theorem C2:Ga Tryz.prog 27:=⟨Tryz.isAgg27⟩
theorem Dc:Ga Tryz.prog 28:=⟨Tryz.isAgg28⟩
theorem IY:Ga Tryz.prog 29:=⟨Tryz.isAgg29⟩
theorem DU:DY Tryz.prog 31 3:=⟨Tryz.isAgg31,Tryz.sizeOf31⟩
theorem OI:DY Tryz.prog 44 3:=⟨Tryz.isAgg44,Tryz.sizeOf44⟩
theorem HL:Ga Tryz.prog 45:=⟨Tryz.isAgg45⟩
theorem CE:DY Tryz.prog 47 2:=⟨Tryz.isAgg47,Tryz.sizeOf47⟩
theorem SC:DY Tryz.prog 49 2:=⟨Tryz.isAgg49,Tryz.sizeOf49⟩
theorem DR:DY Tryz.prog 51 3:=⟨Tryz.isAgg51,Tryz.sizeOf51⟩
theorem BO:DY Tryz.prog 53 5:=⟨Tryz.isAgg53,Tryz.sizeOf53⟩
theorem BC:DY Tryz.prog 55 10:=⟨Tryz.isAgg55,Tryz.sizeOf55⟩
theorem UO:DY Tryz.prog 64 10:=⟨Tryz.isAgg64,Tryz.sizeOf64⟩
theorem Ip:DY Tryz.prog 76 3:=⟨Tryz.isAgg76,Tryz.sizeOf76⟩
theorem RG:Ga Tryz.prog 97:=⟨Tryz.isAgg97⟩
theorem ZY:DY Tryz.prog 99 3:=⟨Tryz.isAgg99,Tryz.sizeOf99⟩
theorem Yx:Ga Tryz.prog 101:=⟨Tryz.isAgg101⟩
theorem XG:DY Tryz.prog 104 2:=⟨Tryz.isAgg104,Tryz.sizeOf104⟩
theorem XN:DY Tryz.prog 106 4:=⟨Tryz.isAgg106,Tryz.sizeOf106⟩
theorem Ko:DY Tryz.prog 110 4:=⟨Tryz.isAgg110,Tryz.sizeOf110⟩
theorem Bs:DY Tryz.prog 111 2:=⟨Tryz.isAgg111,Tryz.sizeOf111⟩
theorem Y3:DY Tryz.prog 123 15:=⟨Tryz.isAgg123,Tryz.sizeOf123⟩
theorem L_:DY Tryz.prog 200 2:=⟨Tryz.isAgg200,Tryz.sizeOf200⟩
theorem Ly:DY Tryz.prog 212 30:=⟨Tryz.isAgg212,Tryz.sizeOf212⟩
theorem NS:DP Tryz.prog 31 ([(Value.slice none 0 0),(Value.slice none 0 0),(Value.slice none 0 0)]):=⟨_,Tryz.zeroValue31,rfl⟩
theorem XV:DP Tryz.prog 44 ([(vI 0),(vI 0),(vI 0)]):=⟨_,Tryz.zeroValue44,rfl⟩
theorem GD:DP Tryz.prog 47 (AZ 0):=⟨_,Tryz.zeroValue47,rfl⟩
theorem YW:DP Tryz.prog 49 (AZ 0):=⟨_,Tryz.zeroValue49,rfl⟩
theorem JQ:DP Tryz.prog 51 (BG 0):=⟨_,Tryz.zeroValue51,rfl⟩
theorem Dk:DP Tryz.prog 53 (AD (0:Rat)):=⟨_,Tryz.zeroValue53,rfl⟩
theorem EM:DP Tryz.prog 55 (Ae (⟨0,0⟩:Pt)):=⟨_,Tryz.zeroValue55,rfl⟩
theorem Vl:DP Tryz.prog 64 (AD (0:Rat)++AD (0:Rat)):=⟨_,Tryz.zeroValue64,rfl⟩
theorem ON:DP Tryz.prog 76 ([(vI 0),(vI 0),(vI 0)]):=⟨_,Tryz.zeroValue76,rfl⟩
theorem Xx:DP Tryz.prog 99 ([(Value.slice none 0 0),(Value.slice none 0 0),(Value.slice none 0 0)]):=⟨_,Tryz.zeroValue99,rfl⟩
theorem Yk:DP Tryz.prog 102 ([(vI 0),(vI 0)]):=⟨_,Tryz.zeroValue102,rfl⟩
theorem Yp:DP Tryz.prog 106 ([(vI 0),(Value.int .u32 (0:Int)),(vI 0),(Value.int .u32 (0:Int))]):=⟨_,Tryz.zeroValue106,rfl⟩
theorem KF:DP Tryz.prog 110 ([(vI 0),(vI 0),(vI 0),(vI 0)]):=⟨_,Tryz.zeroValue110,rfl⟩
theorem JJ:DP Tryz.prog 111 ([(vI 0),(vI 0)]):=⟨_,Tryz.zeroValue111,rfl⟩
theorem Yo:DP Tryz.prog 112 ([(vI 0),(vI 0)]):=⟨_,Tryz.zeroValue112,rfl⟩
theorem K5:DP Tryz.prog 123 (AD (0:Rat)++AD (0:Rat)++AD (0:Rat)):=⟨_,Tryz.zeroValue123,rfl⟩
theorem UK:DP Tryz.prog 200 ([(vI 0),(vI 0)]):=⟨_,Tryz.zeroValue200,rfl⟩
theorem St:DP Tryz.prog 212 (Ae (⟨0,0⟩:Pt)++Ae (⟨0,0⟩:Pt)++Ae (⟨0,0⟩:Pt)):=⟨_,Tryz.zeroValue212,rfl⟩
theorem ZC:DP Tryz.prog 246 ([(vI 0),(vI 0),(vI 0),(vI 0)]):=⟨_,Tryz.zeroValue246,rfl⟩
end
end Go.Proofs.YtfbomiejpbchdaaGreat
