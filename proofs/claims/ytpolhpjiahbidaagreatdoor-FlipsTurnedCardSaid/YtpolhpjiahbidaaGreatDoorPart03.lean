import Derived.Laws.Externs
import Derived.Test.YtpolhpjiahbidaaGreatDoorPart02
namespace Go.Proofs.YtpolhpjiahbidaaGreatDoor
open Go Go.RowKit Go.Proofs.Tryz
open Go.Value renaming slice→qz,bool→qa
set_option linter.unusedVariables false
set_option linter.unusedSimpArgs false
section
theorem VE {a:Nat}:IntKind.u64.wrap (a:Int)=((a%18446744073709551616:Nat):Int):=by
  simp only [IntKind.wrap,IntKind.bits,IntKind.signed];simp
theorem VH {a b:Nat}:IntKind.u64.wrap ((a:Int)*(b:Int))=((a*b%18446744073709551616:Nat):Int):=by
  rw [<-Int.natCast_mul];exact VE
theorem Ti {a b:Nat}:IntKind.u32.wrap ((a:Int)+(b:Int))=(((a+b)%4294967296:Nat):Int):=by
  rw [<-Int.natCast_add];exact Ef
theorem O4 {a b:Nat} (h:b<=4294967296):IntKind.u32.wrap ((a:Int)-(b:Int))=(((a+(4294967296-b))%4294967296:Nat):Int):=by
  simp only [IntKind.wrap,IntKind.bits,IntKind.signed];simp;omega
theorem M5 {a:Nat} (h:a<18446744073709551616):(BitVec.ofInt IntKind.u64.bits (a:Int)).toNat=a:=by
  show (BitVec.ofInt 64 (a:Int)).toNat=_
  rw [BitVec.ofInt_natCast,BitVec.toNat_ofNat,Nat.mod_eq_of_lt Z]
theorem Hc {a:Nat} (h:a<4294967296):(BitVec.ofInt IntKind.u32.bits (a:Int)).toNat=a:=by
  show (BitVec.ofInt 32 (a:Int)).toNat=_
  rw [BitVec.ofInt_natCast,BitVec.toNat_ofNat,Nat.mod_eq_of_lt Z]
theorem Tl {a b:Nat} (ha:a<18446744073709551616) (hb:b<18446744073709551616):IntKind.u64.wrap ((BitVec.ofInt IntKind.u64.bits (a:Int) &&& BitVec.ofInt IntKind.u64.bits (b:Int)).toNat:Int)=((a &&& b:Nat):Int):=by
  rw [BitVec.toNat_and,M5 ha,M5 hb]
  have:a &&& b<=a:=Nat.and_le_left
  exact EK Z Z
theorem I_ {a:Nat} (ha:a<18446744073709551616):IntKind.u64.wrap ((BitVec.ofInt IntKind.u64.bits (a:Int) &&& BitVec.ofInt IntKind.u64.bits ((4294967295:Nat):Int)).toNat:Int)=((a%4294967296:Nat):Int):=by
  rw [Tl ha Z,show (4294967295:Nat)=2^32-1 from rfl,Nat.and_two_pow_sub_one_eq_mod]
theorem OG {a b:Nat} (ha:a<4294967296) (hb:b<4294967296):IntKind.u32.wrap ((BitVec.ofInt IntKind.u32.bits (a:Int) &&& BitVec.ofInt IntKind.u32.bits (b:Int)).toNat:Int)=((a &&& b:Nat):Int):=by
  rw [BitVec.toNat_and,Hc ha,Hc hb]
  have:a &&& b<=a:=Nat.and_le_left
  exact HG Z Z
theorem PI {a b:Nat} (ha:a<4294967296) (hb:b<4294967296):IntKind.u32.wrap ((BitVec.ofInt IntKind.u32.bits (a:Int) ^^^ BitVec.ofInt IntKind.u32.bits (b:Int)).toNat:Int)=((a ^^^ b:Nat):Int):=by
  rw [BitVec.toNat_xor,Hc ha,Hc hb]
  have:a ^^^ b<2^32:=Nat.xor_lt_two_pow ha hb
  exact HG Z Z
theorem OS {a:Nat} (ha:a<4294967296):IntKind.u32.wrap ((BitVec.ofInt IntKind.u32.bits (if IntKind.u32.signed then -1 else IntKind.u32.max) ^^^ BitVec.ofInt IntKind.u32.bits (a:Int)).toNat:Int)=((4294967295 ^^^ a:Nat):Int):=by
  rw [show (if IntKind.u32.signed then -1 else IntKind.u32.max)=((4294967295:Nat):Int) from rfl]
  exact PI Z ha
def JV (x y:Nat):Nat:=if x<y then 1 else 0
theorem be {r:Nat} (h:r<4294967296):r/2147483648=if r.testBit 31 then 1 else 0:=by
  have e:r.testBit 31=decide (r/2147483648%2=1):=Nat.testBit_eq_decide_div_mod_eq ..
  rw [e]
  by_cases h1:r/2147483648%2=1
  · rw [if_pos (by simpa using h1)];omega
  · rw [if_neg (by simpa using h1)];omega
theorem Qk {x:Nat} (h:x<4294967296):x.testBit 31=decide (2147483648<=x):=by
  rw [Nat.testBit_eq_decide_div_mod_eq]
  exact decide_eq_decide.2 Z
theorem Tu {x y c:Nat} (hx:x<4294967296) (hy:y<4294967296) (hc:c<=1) {d:Nat} (hd:d=(x+(4294967296-y)+(4294967296-c))%4294967296) :
    ((4294967295 ^^^ x) &&& y ||| (4294967295 ^^^ (x ^^^ y)) &&& d)/2147483648=JV x (y+c):=by
  have hd':d<4294967296:=by omega
  have h1:((4294967295 ^^^ x) &&& y ||| (4294967295 ^^^ (x ^^^ y)) &&& d)<2^32:=by
    refine Nat.or_lt_two_pow ?_ ?_
    · exact Nat.lt_of_le_of_lt Nat.and_le_right hy
    · exact Nat.lt_of_le_of_lt Nat.and_le_right hd'
  rw [be Z]
  simp only [Nat.testBit_or,Nat.testBit_and,Nat.testBit_xor,Qk hx,Qk hy,Qk hd',Qk (show 4294967295<4294967296 by omega)]
  unfold JV
  by_cases h2:2147483648<=x<;>by_cases h3:2147483648<=y<;>by_cases h4:2147483648<=d<;>simp [h2,h3,h4]<;>omega
theorem VF (x y:Nat):x/4294967296*(y/4294967296)+(x/4294967296*(y%4294967296)+x%4294967296*(y%4294967296)/4294967296)/4294967296+((x/4294967296*(y%4294967296)+x%4294967296*(y%4294967296)/4294967296)%4294967296+x%4294967296*(y/4294967296))/4294967296=x*y/18446744073709551616:=by
  have e:x*y=x%4294967296*(y%4294967296)+4294967296*(x/4294967296*(y%4294967296)+x%4294967296*(y/4294967296))+18446744073709551616*(x/4294967296*(y/4294967296)):=by
    have hx:x=x%4294967296+4294967296*(x/4294967296):=by omega
    have hy:y=y%4294967296+4294967296*(y/4294967296):=by omega
    generalize x%4294967296=a at *
    generalize x/4294967296=b at *
    generalize y%4294967296=c at *
    generalize y/4294967296=d at *
    subst hx;subst hy
    grind
  rw [e]
  generalize x%4294967296*(y%4294967296)=p
  generalize x/4294967296*(y%4294967296)=q
  generalize x%4294967296*(y/4294967296)=r
  generalize x/4294967296*(y/4294967296)=t
  omega
theorem LF {a b:Nat} (ha:a<4294967296) (hb:b<4294967296):a*b<=18446744065119617025:=Nat.mul_le_mul (show a<=4294967295 by omega) (show b<=4294967295 by omega)
def bl (x:Nat):Nat:=if x=0 then 0 else Nat.log2 x+1
theorem P6 {x k:Nat} (h:2^k<=x):Nat.log2 x=Nat.log2 (x/2^k)+k:=by
  have hx:x≠0:=by have:=Nat.pow_pos (n:=k) (show 0<2 by omega);omega
  have hq:x/2^k≠0:=by
    have:=Nat.div_pos h (Nat.pow_pos (n:=k) (show 0<2 by omega));omega
  have h1:=(Nat.log2_eq_iff hq).1 rfl
  rw [Nat.log2_eq_iff hx]
  have hm:=Nat.div_add_mod x (2^k)
  have hlt:=Nat.mod_lt x (Nat.pow_pos (n:=k) (show 0<2 by omega))
  constructor
  · rw [Nat.pow_add,Nat.mul_comm]
    exact xM (Nat.mul_le_mul_left _ h1.1) (Nat.mul_div_le x _)
  · rw [show (x/2^k).log2+k+1=((x/2^k).log2+1)+k by omega,Nat.pow_add]
    exact (Nat.div_lt_iff_lt_mul (Nat.pow_pos Z)).1 h1.2
theorem OH {x k:Nat} (h:2^k<=x):bl x=bl (x/2^k)+k:=by
  have hx:x≠0:=by have:=Nat.pow_pos (n:=k) (show 0<2 by omega);omega
  have hq:x/2^k≠0:=by
    have:=Nat.div_pos h (Nat.pow_pos (n:=k) (show 0<2 by omega));omega
  simp only [bl,hx,hq,if_false,P6 h]
  omega
theorem Tt {x k:Nat} (h:x<2^k):bl x<=k:=by
  unfold bl
  split
  · omega
  · rename_i hx
    have:=(Nat.log2_lt hx).2 h
    omega
theorem SM {y:Nat} (h0:0<y) (h:y<4294967296):bl y<=32/\0<bl y/\2147483648<=y*2^(32-bl y)/\y*2^(32-bl y)<4294967296:=by
  have hy:y≠0:=by omega
  have h1:=(Nat.log2_eq_iff hy).1 rfl
  have h2:=Tt (k:=32) (show y<2^32 by omega)
  have hb:bl y=y.log2+1:=by simp [bl,hy]
  refine ⟨h2,Z,?_,?_⟩
  · rw [hb] at h2 ⊢
    calc 2147483648=2^y.log2*2^(32-(y.log2+1)):=by rw [<-Nat.pow_add,show y.log2+(32-(y.log2+1))=31 by omega]
      _<=_:=Nat.mul_le_mul_right _ h1.1
  · rw [hb] at h2 ⊢
    calc y*2^(32-(y.log2+1))<2^(y.log2+1)*2^(32-(y.log2+1)):=Nat.mul_lt_mul_of_pos_right h1.2 (Nat.pow_pos Z)
      _=4294967296:=by rw [<-Nat.pow_add,show y.log2+1+(32-(y.log2+1))=32 by omega]
theorem aD {s:ByteArray} (h:((List.range 256).all λj=>s[j]? == some (UInt8.ofNat (bl j)))=true) {j:Nat} (hj:j<256):s[j]?=some (UInt8.ofNat (bl j)):=by
  simpa using List.all_eq_true.1 h j (List.mem_range.2 hj)
theorem ZO {x:Nat} (h:256<=x):bl x=bl (x/256)+8:=OH (k:=8) h
theorem V3 (z:Int):(if (if z<1 then z else 1) > -1 then (if z<1 then z else 1) else -1)=z.sign:=by
  rcases Int.lt_trichotomy z 0 with h|h|h
  · rw [Int.sign_eq_neg_one_of_neg h,if_pos (show z<1 by omega)];split<;>omega
  · subst h;rfl
  · rw [Int.sign_eq_one_of_pos h,if_neg (show ¬z<1 by omega)];rfl
section
variable {P:Program} {n:Nat} {F:List (Nat×Value)} {w0:BC} {L:List As} {x y:Operand} {d:Option Tmp} {t:TypeId} {p:String} {af:Array Edge} {g:Option (Nat×Bool)}
theorem IP {s:ByteArray} {k:IntKind} {j m:Nat} {tx:TypeId} (hx:evF F x=some (.string s)) (hy:evF F y=some (.int k ((j:Nat):Int))) (hu:P.underlying tx=some .string) (hb:s[j]?=some (UInt8.ofNat m)) (hm:m<256):Ex P n F w0 L ⟨d,.index tx x y,t,p,af,g⟩ (.int .u8 ((m:Nat):Int)):=by
  have h:=Jo (P:=P) (n:=n) (F:=F) (w0:=w0) (L:=L) (d:=d) (t:=t) (p:=p) (af:=af) (g:=g) hx hy hu rfl hb
  have e:(UInt8.ofNat m).toNat=m:=by simp;omega
  rwa [e] at h
theorem R7 {f:FuncId} {xs:List Operand} {args:List Value} {ts:Array TypeId} {v:Value} (hf:evF F x=some (.func (.func f) #[] #[])) (hargs:xs.map (evF F)=args.map some)
    (hc:∀w,(callFunc f args.toArray).run P w=.ok (.value v) w):Ex P n F w0 L ⟨d,.call { callee:=.value x,args:=xs.toArray,argTypes:=ts },t,p,af,g⟩ v:=λA w ha _=>by
  have e1:xs.toArray.map A.eval=args.toArray:=by rw [<-Ks ha hargs];simp
  simp [execOp,resolve,ha.ev hf,Deferred.ofValue,e1,invoke,hc]
theorem Sm {f : FuncId} {fn : Func} (hf : P.funcs[f]? = some fn) (hname : (fn.name == "runtime.NumGoroutine") = false) (hb : fn.body.isNone = true) (hn : Extern.findNext fn = none) (he : Extern.find fn = some add64Entry) (x y c : Nat) (hc : c ≤ 1) (w : World) :
    (callFunc f #[.int .u64 x,.int .u64 y,.int .u64 c]).run P w=.ok (.value (.tuple #[.int .u64 (((x+y+c)%18446744073709551616:Nat):Int),.int .u64 (((x+y+c)/18446744073709551616:Nat):Int)])) w:=by
  rw [run_callFunc_extern hf hname hb hn he,run_add64 x y c Z Z Z Z]
  simp only [Result.andThen]
  congr 5<;>omega
end
theorem BD.fresh {W w:World} {L:List As} (h:BD ⟨W,none⟩ w L) {i b:Nat} {T:TypeId} {cs:List Value} (hi:L[i]?=some (AX b T cs)):W.heap.size<=b:=by
  rcases (h.2.1 _ (List.mem_of_getElem? hi) b rfl).1 with h1|h1|h1
  · cases h1
  · exact h1
  · cases h1
end
section
structure Dm (P:Program) (t:TypeId) (k:Nat):Prop where
  a:∀w,(isAgg t).run P w=.ok true w
  s:∀w,(sizeOf t).run P w=.ok k w
structure Fj (P:Program) (t:TypeId):Prop where
  a:∀w,(isAgg t).run P w=.ok false w
def DJ (P:Program) (t:TypeId) (cs:List Value):Prop:=∃u:Value,(∀w,(zeroValue t).run P w=.ok u w)/\u.cells=cs.toArray
section
variable {P:Program} {ops:Array Oper} {rest:List Oper} {Q:Exit->Act->World->Prop} {n d i b off k:Nat} {F F':List (Nat×Value)} {w0:BC} {L Lro:List As} {op:Op} {t ty T:TypeId} {p:String} {af:Array Edge} {u v:Value} {x y:Operand} {l:List Oper} {specs:List Sp} {cs vs:List Value}
theorem CG {a b:Nat} (h:Nat.ble (a+1) b=true):a<b:=Nat.le_of_ble_eq_true h
theorem mv (hx:evF F x=some v) (hd:Nat.ble (d+1) n=true) (next:AR P ops rest Q n ((d,v)::F) w0 L):AR P ops (⟨some d,.move x,t,p,af,none⟩::rest) Q n F w0 L:=AR.step (AI rfl) (Ca hx) rfl (CG hd) next
theorem dx (hx:evF F x=some v) (hd:Nat.ble (d+1) n=true) (next:AR P ops rest Q n ((d,v)::F) w0 L):AR P ops (⟨some d,.assign x,t,p,af,none⟩::rest) Q n F w0 L:=AR.step (AI rfl) (Mc hx) rfl (CG hd) next
theorem Li {cs:List Value} {k:Nat} (h:cs.length=k):(cs.drop 0).take k=cs:=by rw [List.drop_zero,List.take_of_length_le Z]
theorem eA (i:Nat) (ht:Dm P ty k) (hx:evF F x=some (pP b 0)) (hi:L[i]?=some (AX b T cs)) (hl:cs.length=k) (hd:Nat.ble (d+1) n=true) (next:AR P ops rest Q n ((d,aG cs)::F) w0 L) :
    AR P ops (⟨some d,.load ty x,t,p,af,none⟩::rest) Q n F w0 L:=AR.step (AI rfl) (Aj hx hi ht.a ht.s (Li hl) hl) rfl (CG hd) next
theorem d9 (i:Nat) (vs:List Value) (ht:Dm P ty k) (hx:evF F x=some (pP b off)) (hi:L[i]?=some (AX b T cs)) (hv:(cs.drop off).take k=vs) (hl:vs.length=k) (hd:Nat.ble (d+1) n=true) (next:AR P ops rest Q n ((d,aG vs)::F) w0 L) :
    AR P ops (⟨some d,.load ty x,t,p,af,none⟩::rest) Q n F w0 L:=AR.step (AI rfl) (Aj hx hi ht.a ht.s hv hl) rfl (CG hd) next
theorem d_ (i:Nat) (v:Value) (ht:Fj P ty) (hx:evF F x=some (pP b off)) (hi:L[i]?=some (AX b T cs)) (hv:cs[off]?=some v) (hd:Nat.ble (d+1) n=true) (next:AR P ops rest Q n ((d,v)::F) w0 L) :
    AR P ops (⟨some d,.load ty x,t,p,af,none⟩::rest) Q n F w0 L:=AR.step (AI rfl) (AH hx hi ht.a hv) rfl (CG hd) next
theorem bx (hx:evF F x=some v) (hv:v.cells=cs.toArray) (hd:Nat.ble (d+1) n=true) (next:∀b,AR P ops rest Q n ((d,pP b 0)::F) w0 (AX b T cs::L)):AR P ops (⟨some d,.box T x,t,p,af,none⟩::rest) Q n F w0 L :=
  yv (AI rfl) (Zq hx hv) rfl (CG hd) next
theorem al (hz:DJ P T cs) (hd:Nat.ble (d+1) n=true) (next:∀b,AR P ops rest Q n ((d,pP b 0)::F) w0 (AX b T cs::L)):AR P ops (⟨some d,.alloc T,t,p,af,none⟩::rest) Q n F w0 L :=
  have ⟨_,h1,h2⟩:=hz
  yv (AI rfl) (Oq h1 h2) rfl (CG hd) next
theorem cl {f:FuncId} {xs:List Operand} {args:List Value} {ts:Array TypeId} (hc:∀args w,(callFunc f args).run P w=.ok (.enter f args) w) (h:∀w,BD w0 w L->Calls P f args.toArray w (Ad w v))
    (hf:evF F x=some (.func (.func f) #[] #[])) (hargs:xs.map (evF F)=args.map some) (hd:Nat.ble (d+1) n=true) (next:AR P ops rest Q n ((d,v)::F) w0 L) :
    AR P ops (⟨some d,.call { callee:=.value x,args:=xs.toArray,argTypes:=ts },t,p,af,none⟩::rest) Q n F w0 L:=zh (AI rfl) (Ar hf hargs hc) h rfl (CG hd) next
theorem Xv {cs vs:List Value} (h:vs.length=cs.length):Gd cs 0 vs=vs:=by simp [Gd,h]
theorem Nu {L':List As} (hx:evF F x=some (pP b 0)) (hy:evF F y=some v) (hi:L[i]?=some (AX b T cs)) (hv:v.cells=vs.toArray) (hs:∀w,(sizeOf ty).run P w=.ok vs.length w) (h1:(vs.all λu=>u.oneCell')=true) (hl:vs.length=cs.length)
    (hL:L.set i (AX b T vs)=L') (next:AR P ops rest Q n F w0 L'):AR P ops (⟨none,.store ty x y,t,p,af,none⟩::rest) Q n F w0 L:=zp (AI rfl) rfl hx hy hi hv hs h1 (Nat.ble_eq_true_of_le Z) (Xv hl) hL next
variable {A0 A1 A2 A3 A4 A5:As}
theorem c9 (hx:evF F x=some (pP b 0)) (hy:evF F y=some v) (hv:v.cells=vs.toArray) (hs:∀w,(sizeOf ty).run P w=.ok vs.length w) (h1:(vs.all λu=>u.oneCell')=true) (hl:vs.length=cs.length)
    (next:AR P ops rest Q n F w0 (AX b T vs::L)):AR P ops (⟨none,.store ty x y,t,p,af,none⟩::rest) Q n F w0 (AX b T cs::L):=Nu (i:=0) hx hy rfl hv hs h1 hl rfl next
theorem c_ (hx:evF F x=some (pP b 0)) (hy:evF F y=some v) (hv:v.cells=vs.toArray) (hs:∀w,(sizeOf ty).run P w=.ok vs.length w) (h1:(vs.all λu=>u.oneCell')=true) (hl:vs.length=cs.length)
    (next:AR P ops rest Q n F w0 (A0::AX b T vs::L)):AR P ops (⟨none,.store ty x y,t,p,af,none⟩::rest) Q n F w0 (A0::AX b T cs::L):=Nu (i:=1) hx hy rfl hv hs h1 hl rfl next
theorem dB (hx:evF F x=some (pP b 0)) (hy:evF F y=some v) (hv:v.cells=vs.toArray) (hs:∀w,(sizeOf ty).run P w=.ok vs.length w) (h1:(vs.all λu=>u.oneCell')=true) (hl:vs.length=cs.length)
    (next:AR P ops rest Q n F w0 (A0::A1::AX b T vs::L)):AR P ops (⟨none,.store ty x y,t,p,af,none⟩::rest) Q n F w0 (A0::A1::AX b T cs::L):=Nu (i:=2) hx hy rfl hv hs h1 hl rfl next
theorem dD (hx:evF F x=some (pP b 0)) (hy:evF F y=some v) (hv:v.cells=vs.toArray) (hs:∀w,(sizeOf ty).run P w=.ok vs.length w) (h1:(vs.all λu=>u.oneCell')=true) (hl:vs.length=cs.length)
    (next:AR P ops rest Q n F w0 (A0::A1::A2::AX b T vs::L)):AR P ops (⟨none,.store ty x y,t,p,af,none⟩::rest) Q n F w0 (A0::A1::A2::AX b T cs::L):=Nu (i:=3) hx hy rfl hv hs h1 hl rfl next
theorem sr {L:List As}:L.Sublist L:=xR _
theorem sl {a:As} {l1 l2:List As} (h:l1.Sublist l2):l1.Sublist (a::l2):=List.Sublist.cons _ h
theorem sk {a:As} {l1 l2:List As} (h:l1.Sublist l2):(a::l1).Sublist (a::l2):=List.Sublist.cons_cons _ h
def Wc:List Nat->List Value->List (Nat×Value)
  | k::ks,v::vs=>(k,v)::Wc ks vs
  | _,_=>[]
theorem PF {v:Value} {G:List (Nat×Value)} {dd:Option Tmp} (hG:∀β,Zi (Ih l specs β ⟨dd,op,t,p,af,none⟩++F) G=Yp G) (h:∀w0,Ex P n G w0 [] ⟨dd,op,t,p,af,none⟩ v):Vc P n l specs F w0 Lro L ⟨dd,op,t,p,af,none⟩ ⟨.pure,λ_=>v,[],Y3,Y4⟩ :=
  Yo (G:=λ_=>G) (λβ=>sF (hG β)) (λ_=>AI rfl) (λ_ w=>h w)
theorem cG {v:Value} {G:List (Nat×Value)} {dd:Option Tmp} (hG:∀β,Zi (Ih l specs β ⟨dd,op,t,p,af,none⟩++F) G=Yp G) (h:Ex P n G w0 Lro ⟨dd,op,t,p,af,none⟩ v):Vc P n l specs F w0 Lro L ⟨dd,op,t,p,af,none⟩ ⟨.held,λ_=>v,[],Y3,Y4⟩ :=
  Ym (G:=λ_=>G) (λβ=>sF (hG β)) (λ_=>AI rfl) (λ_=>h)
theorem dZ (ss:List Nat) {f:FuncId} {xs:List Operand} {args:List Value} {ts:Array TypeId} {v:Value} {dd:Option Tmp} (hc:∀args w,(callFunc f args).run P w=.ok (.enter f args) w)
    (h:∀w,BD w0 w L->Calls P f args.toArray w (Ad w v)) (hf:evF [] x=some (.func (.func f) #[] #[])) (hargs:xs.map (evF (Wc ss args))=args.map some)
    (hG:∀β,Zi (Ih l specs β ⟨dd,.call { callee:=.value x,args:=xs.toArray,argTypes:=ts },t,p,af,none⟩++F) (Wc ss args)=Yp (Wc ss args)) :
    Vc P n l specs F w0 Lro L ⟨dd,.call { callee:=.value x,args:=xs.toArray,argTypes:=ts },t,p,af,none⟩ ⟨.call,λ_=>v,[],Y3,Y4⟩ :=
  Yl (G:=λ_=>Wc ss args) (λβ=>sF (hG β)) (λ_=>AI rfl) (λ_=>Ar (by cases x<;>simp_all [evF]) hargs hc) (λ_ w hw=>h w hw)
end
theorem dA {Q:Exit->Act->World->Prop} {n:Nat} {F:List (Nat×Value)} {w0:BC} {L Lro:List As} {l:List Oper} {specs:List Sp} {id:Nat} (hro:Lro.Sublist L) (hdep:Hq 0 specs)
    (hA:Tz n l specs=true->JU prog n l specs F w0 Lro L l specs) (hc:Tz n l specs=true)
    (hF:((List.range specs.length).all λj=>match (l[j]?).bind (·.dst) with|some d=>(F.lookup d).isNone|none=>false)=true)
    (hQ:∀c a d v w,Q (.panic c) (a.put d v) w->Q (.panic c) a w)
    (hB:∀β,Cs specs β (List.range specs.length)->Ea prog l.toArray (l.drop specs.length) Q n (W5 l specs β++F) w0 Lro (ST specs β++L)):OkC prog (.region id l.toArray true) Q n F w0 L :=
  OkC.drawn hro (Rg.of hdep) Dq hc hF hQ (WU _ _ (hA hc)) hB
section
variable {P:Program} {ops:Array Oper} {rest:List Oper} {Q:Exit->Act->World->Prop} {n:Nat} {F F':List (Nat×Value)} {w0:BC} {L Lro:List As} {specs:List Sp} {β:Nat->Value} {A0 A1 A2 A3:As}
theorem d7 (hs:Zi F F'=Yp F') (hn:ST specs β=[]) (h:Ea P ops rest Q n F' w0 Lro L):Ea P ops rest Q n F w0 Lro (ST specs β++L):=Ea.sub (sF hs) (by rw [hn];exact xR _) h
end
def Vf (F:List (Nat×Value)):List Nat->Option (List (Nat×Value))
  | []=>some []
  | k::ks=>match F.lookup k with
    | some v=>match Vf F ks with
      | some r=>some ((k,v)::r)
      | none=>none
    | none=>none
theorem sL:∀(ks:List Nat) {F F':List (Nat×Value)},Vf F ks=some F'->B_ F' F
  | [],_,_,h=>by injection h with h;subst h;trivial
  | k::ks,F,F',h=>by
    unfold Vf at h
    split at h
    · rename_i v hv
      split at h
      · rename_i r hr
        injection h with h;subst h
        exact ⟨hv,sL ks hr⟩
      · cases h
    · cases h
def O1:List As->Nat->As->Option (List As)
  | [],_,_=>none
  | _::r,0,y=>some (y::r)
  | x::r,i+1,y=>match O1 r i y with
    | some r'=>some (x::r')
    | none=>none
theorem Ha:∀{L:List As} {i:Nat} {y:As} {L':List As},O1 L i y=some L'->L.set i y=L'
  | [],_,_,_,h=>by cases h
  | _::r,0,y,_,h=>by injection h
  | x::r,i+1,y,L',h=>by
    unfold O1 at h
    split at h
    · rename_i r' hr
      injection h with h;subst h
      rw [List.set_cons_succ,Ha hr]
    · cases h
section
variable {α β γ δ ε:Type} {a a':α} {b b':β} {c c':γ} {d d':δ} {e e':ε}
theorem Cf (h:(a,b)=(a',b')):a=a':=congrArg Prod.fst h
theorem BQ (h:(a,b)=(a',b')):b=b':=congrArg Prod.snd h
end
section
variable {P:Program} {ops:Array Oper} {rest:List Oper} {Q:Exit->Act->World->Prop} {n d i b off k:Nat} {F F':List (Nat×Value)} {w0:BC} {L L' Lro:List As} {op:Op} {t ty T:TypeId} {p:String} {af:Array Edge} {u v:Value} {x y:Operand} {l:List Oper} {specs:List Sp} {cs vs:List Value} {o:Oper} {j:Nat} {g:Option (Nat×Bool)}
theorem Ab {t:Nat} {b:Bool} (h:(o.guard,(ops[j]?).bind (·.dst),F.lookup t)=(some (j,b),some t,some (.bool b))):Wt ops n F o:=N5 (Cf h) (Cf (BQ h)) (BQ (BQ h))
theorem B9 {t:Nat} {b:Bool} (h:(o.guard,(ops[j]?).bind (·.dst),F.lookup t)=(some (j,b),some t,some (.bool (!b)))):∀a,Ce n a F->Region.wanted o (yielded ops a.tmps)=false:=Wa (Cf h) (Cf (BQ h)) (BQ (BQ h))
theorem AD (he:Ex P n F w0 L ⟨some d,op,t,p,af,none⟩ v) (hd:Nat.ble (d+1) n=true) (next:AR P ops rest Q n ((d,v)::F) w0 L):AR P ops (⟨some d,op,t,p,af,none⟩::rest) Q n F w0 L:=st he (CG hd) next
theorem AL (h:(evF F x,Nat.ble (d+1) n)=(some v,true)) (next:AR P ops rest Q n ((d,v)::F) w0 L):AR P ops (⟨some d,.move x,t,p,af,none⟩::rest) Q n F w0 L:=mv (Cf h) (BQ h) next
theorem asg' (h:(evF F x,Nat.ble (d+1) n)=(some v,true)) (next:AR P ops rest Q n ((d,v)::F) w0 L):AR P ops (⟨some d,.assign x,t,p,af,none⟩::rest) Q n F w0 L:=dx (Cf h) (BQ h) next
theorem Al (i:Nat) (ht:Dm P ty k) (h:(evF F x,L[i]?,cs.length,Nat.ble (d+1) n)=(some (pP b 0),some (AX b T cs),k,true)) (next:AR P ops rest Q n ((d,aG cs)::F) w0 L) :
    AR P ops (⟨some d,.load ty x,t,p,af,none⟩::rest) Q n F w0 L:=eA i ht (Cf h) (Cf (BQ h)) (Cf (BQ (BQ h))) (BQ (BQ (BQ h))) next
theorem Dy (i:Nat) (vs:List Value) (ht:Dm P ty k) (h:(evF F x,L[i]?,(cs.drop off).take k,vs.length,Nat.ble (d+1) n)=(some (pP b off),some (AX b T cs),vs,k,true)) (next:AR P ops rest Q n ((d,aG vs)::F) w0 L) :
    AR P ops (⟨some d,.load ty x,t,p,af,none⟩::rest) Q n F w0 L:=d9 i vs ht (Cf h) (Cf (BQ h)) (Cf (BQ (BQ h))) (Cf (BQ (BQ (BQ h)))) (BQ (BQ (BQ (BQ h)))) next
theorem BF (i:Nat) (v:Value) (ht:Fj P ty) (h:(evF F x,L[i]?,cs[off]?,Nat.ble (d+1) n)=(some (pP b off),some (AX b T cs),some v,true)) (next:AR P ops rest Q n ((d,v)::F) w0 L) :
    AR P ops (⟨some d,.load ty x,t,p,af,none⟩::rest) Q n F w0 L:=d_ i v ht (Cf h) (Cf (BQ h)) (Cf (BQ (BQ h))) (BQ (BQ (BQ h))) next
theorem BV (h:(evF F x,v.cells,Nat.ble (d+1) n)=(some v,cs.toArray,true)) (next:∀b,AR P ops rest Q n ((d,pP b 0)::F) w0 (AX b T cs::L)):AR P ops (⟨some d,.box T x,t,p,af,none⟩::rest) Q n F w0 L :=
  bx (Cf h) (Cf (BQ h)) (BQ (BQ h)) next
theorem DH {f:FuncId} {xs:List Operand} {args:List Value} {ts:Array TypeId} (hc:∀args w,(callFunc f args).run P w=.ok (.enter f args) w) (h:∀w,BD w0 w L->Calls P f args.toArray w (Ad w v))
    (h2:(evF F x,xs.map (evF F),Nat.ble (d+1) n)=(some (.func (.func f) #[] #[]),args.map some,true)) (next:AR P ops rest Q n ((d,v)::F) w0 L) :
    AR P ops (⟨some d,.call { callee:=.value x,args:=xs.toArray,argTypes:=ts },t,p,af,none⟩::rest) Q n F w0 L:=cl hc h (Cf h2) (Cf (BQ h2)) (BQ (BQ h2)) next
theorem ck' {f:FuncId} {xs:List Operand} {args:List Value} {ts:Array TypeId} (hc:∀args w,(callFunc f args).run P w=.ok (.enter f args) w) (h:∀w,Calls P f args.toArray w (Ad w v))
    (h2:(evF F x,xs.map (evF F),Nat.ble (d+1) n)=(some (.func (.func f) #[] #[]),args.map some,true)) (next:AR P ops rest Q n ((d,v)::F) w0 L) :
    AR P ops (⟨some d,.call { callee:=.value x,args:=xs.toArray,argTypes:=ts },t,p,af,none⟩::rest) Q n F w0 L:=DH hc (λw _=>h w) h2 next
variable {A0 A1 A2 A3 A4 A5:As}
theorem Ag (h:(evF F x,evF F y,v.cells)=(some (pP b 0),some v,vs.toArray)) (hs:∀w,(sizeOf ty).run P w=.ok vs.length w) (h2:(vs.all λu=>u.oneCell',vs.length)=(true,cs.length))
    (next:AR P ops rest Q n F w0 (AX b T vs::L)):AR P ops (⟨none,.store ty x y,t,p,af,none⟩::rest) Q n F w0 (AX b T cs::L):=c9 (Cf h) (Cf (BQ h)) (BQ (BQ h)) hs (Cf h2) (BQ h2) next
theorem Cd (h:(evF F x,evF F y,v.cells)=(some (pP b 0),some v,vs.toArray)) (hs:∀w,(sizeOf ty).run P w=.ok vs.length w) (h2:(vs.all λu=>u.oneCell',vs.length)=(true,cs.length))
    (next:AR P ops rest Q n F w0 (A0::AX b T vs::L)):AR P ops (⟨none,.store ty x y,t,p,af,none⟩::rest) Q n F w0 (A0::AX b T cs::L):=c_ (Cf h) (Cf (BQ h)) (BQ (BQ h)) hs (Cf h2) (BQ h2) next
theorem My (h:(evF F x,evF F y,v.cells)=(some (pP b 0),some v,vs.toArray)) (hs:∀w,(sizeOf ty).run P w=.ok vs.length w) (h2:(vs.all λu=>u.oneCell',vs.length)=(true,cs.length))
    (next:AR P ops rest Q n F w0 (A0::A1::AX b T vs::L)):AR P ops (⟨none,.store ty x y,t,p,af,none⟩::rest) Q n F w0 (A0::A1::AX b T cs::L):=dB (Cf h) (Cf (BQ h)) (BQ (BQ h)) hs (Cf h2) (BQ h2) next
theorem Ge (h:(evF F x,evF F y,v.cells)=(some (pP b 0),some v,vs.toArray)) (hs:∀w,(sizeOf ty).run P w=.ok vs.length w) (h2:(vs.all λu=>u.oneCell',vs.length)=(true,cs.length))
    (next:AR P ops rest Q n F w0 (A0::A1::A2::AX b T vs::L)):AR P ops (⟨none,.store ty x y,t,p,af,none⟩::rest) Q n F w0 (A0::A1::A2::AX b T cs::L):=dD (Cf h) (Cf (BQ h)) (BQ (BQ h)) hs (Cf h2) (BQ h2) next
theorem F8 (i:Nat) {v:Value} {cs':List Value} (hw:Wt ops n F ⟨none,.store ty x y,t,p,af,g⟩) (h:(evF F x,evF F y,L[i]?,v.cells)=(some (pP b off),some v,some (AX b T cs),vs.toArray))
    (hs:∀w,(sizeOf ty).run P w=.ok vs.length w) (h2:(vs.all λu=>u.oneCell',Nat.ble (off+vs.length) cs.length,Gd cs off vs,O1 L i (AX b T cs'))=(true,true,cs',some L')) (next:AR P ops rest Q n F w0 L'):AR P ops (⟨none,.store ty x y,t,p,af,g⟩::rest) Q n F w0 L :=
  zp hw rfl (Cf h) (Cf (BQ h)) (Cf (BQ (BQ h))) (BQ (BQ (BQ h))) hs (Cf h2) (Cf (BQ h2)) (Cf (BQ (BQ h2))) (Ha (BQ (BQ (BQ h2)))) next
end
theorem BM {P:Program} {ops:Array Oper} {rest:List Oper} {Q:Exit->Act->World->Prop} {n j d t2:Nat} {b:Bool} {F:List (Nat×Value)} {w0:BC} {L:List As} {v:Value} {o:Oper} (h:(o.guard,(ops[j]?).bind (·.dst),F.lookup t2,o.dst,Nat.ble (d+1) n)=(some (j,b),some t2,some (.bool b),some d,true)) (he:Ex P n F w0 L o v) (next:AR P ops rest Q n ((d,v)::F) w0 L):AR P ops (o::rest) Q n F w0 L :=
  AR.step (N5 (Cf h) (Cf (BQ h)) (Cf (BQ (BQ h)))) he (Cf (BQ (BQ (BQ h)))) (Nat.le_of_ble_eq_true (BQ (BQ (BQ (BQ h))))) next
theorem BO {P:Program} {ops:Array Oper} {rest:List Oper} {Q:Exit->Act->World->Prop} {n j d t2:Nat} {b:Bool} {F:List (Nat×Value)} {w0:BC} {L:List As} {o:Oper} (h:(o.guard,(ops[j]?).bind (·.dst),F.lookup t2,o.dst,Nat.ble (d+1) n)=(some (j,b),some t2,some (.bool (!b)),some d,true)) (next:AR P ops rest Q n ((d,undef)::F) w0 L):AR P ops (o::rest) Q n F w0 L :=
  yq (Wa (Cf h) (Cf (BQ h)) (Cf (BQ (BQ h)))) (Cf (BQ (BQ (BQ h)))) (Nat.le_of_ble_eq_true (BQ (BQ (BQ (BQ h))))) next
theorem Hk {P:Program} {ops:Array Oper} {rest:List Oper} {Q:Exit->Act->World->Prop} {n j d t2:Nat} {b:Bool} {F:List (Nat×Value)} {w0:BC} {L:List As} {v:Value} {x:Operand} {t:TypeId} {p:String} {af:Array Edge} (h:((ops[j]?).bind (·.dst),F.lookup t2,evF F x,Nat.ble (d+1) n)=(some t2,some (.bool b),some v,true)) (next:AR P ops rest Q n ((d,v)::F) w0 L):AR P ops (⟨some d,.move x,t,p,af,some (j,b)⟩::rest) Q n F w0 L :=
  AR.step (N5 rfl (Cf h) (Cf (BQ h))) (Ca (Cf (BQ (BQ h)))) rfl (Nat.le_of_ble_eq_true (BQ (BQ (BQ h)))) next
end
section
set_option maxRecDepth 100000
theorem Ny:Fj prog 2:=⟨isAgg2⟩
theorem Bm:Fj prog 3:=⟨isAgg3⟩
theorem WF:Fj prog 4:=⟨isAgg4⟩
theorem WG:Fj prog 5:=⟨isAgg5⟩
theorem TE:Fj prog 9:=⟨isAgg9⟩
theorem C2:Fj prog 23:=⟨isAgg23⟩
theorem O7:Fj prog 24:=⟨isAgg24⟩
theorem C0:Fj prog 28:=⟨isAgg28⟩
theorem Bz:Dm prog 30 3:=⟨isAgg30,sizeOf30⟩
theorem Hg:Dm prog 49 4:=⟨isAgg49,sizeOf49⟩
theorem G_:Fj prog 69:=⟨isAgg69⟩
theorem CE:Dm prog 71 2:=⟨isAgg71,sizeOf71⟩
theorem S0:Dm prog 73 2:=⟨isAgg73,sizeOf73⟩
theorem DV:Dm prog 75 3:=⟨isAgg75,sizeOf75⟩
theorem Ba:Dm prog 77 5:=⟨isAgg77,sizeOf77⟩
theorem aC:Fj prog 86:=⟨isAgg86⟩
theorem Ye:Fj prog 87:=⟨isAgg87⟩
theorem Nx:Dm prog 90 9:=⟨isAgg90,sizeOf90⟩
theorem dG:Fj prog 92:=⟨isAgg92⟩
theorem bT:Dm prog 94 2:=⟨isAgg94,sizeOf94⟩
theorem aB:Dm prog 96 4:=⟨isAgg96,sizeOf96⟩
theorem A_:Dm prog 99 10:=⟨isAgg99,sizeOf99⟩
theorem C8:Dm prog 105 3:=⟨isAgg105,sizeOf105⟩
theorem Lg:Dm prog 110 3:=⟨isAgg110,sizeOf110⟩
theorem Bq:Dm prog 113 2:=⟨isAgg113,sizeOf113⟩
theorem G9:Dm prog 157 6:=⟨isAgg157,sizeOf157⟩
theorem M1:Fj prog 175:=⟨isAgg175⟩
theorem bR:Dm prog 177 3:=⟨isAgg177,sizeOf177⟩
theorem Mz:Dm prog 240 2:=⟨isAgg240,sizeOf240⟩
theorem M0:Dm prog 291 30:=⟨isAgg291,sizeOf291⟩
theorem bS:Dm prog 328 15:=⟨isAgg328,sizeOf328⟩
theorem Hh:DJ prog 30 ([jj,jj,jj]):=⟨_,zeroValue30,rfl⟩
theorem Io:DJ prog 49 ([(vI 0),(vI 0),(vI 0),(vI 0)]):=⟨_,zeroValue49,rfl⟩
theorem Ga:DJ prog 71 (AU 0):=⟨_,zeroValue71,rfl⟩
theorem bd:DJ prog 73 (AU 0):=⟨_,zeroValue73,rfl⟩
theorem Jw:DJ prog 75 (A8 0):=⟨_,zeroValue75,rfl⟩
theorem Dg:DJ prog 77 (AC (0:Rat)):=⟨_,zeroValue77,rfl⟩
theorem dH:DJ prog 96 ([(vI 0),(Value.int .u32 (0:Int)),(vI 0),(Value.int .u32 (0:Int))]):=⟨_,zeroValue96,rfl⟩
theorem EU:DJ prog 99 (AZ (⟨0,0⟩:Pt)):=⟨_,zeroValue99,rfl⟩
theorem HA:DJ prog 105 ([(vI 0),(vI 0),(vI 0)]):=⟨_,zeroValue105,rfl⟩
theorem bX:DJ prog 110 ([(vI 0),(vI 0),(vI 0)]):=⟨_,zeroValue110,rfl⟩
theorem Jj:DJ prog 113 ([(vI 0),(vI 0)]):=⟨_,zeroValue113,rfl⟩
theorem Lh:DJ prog 157 ([(vI 0),(vI 0),(vI 0),(vI 0),(vI 0),(vI 0)]):=⟨_,zeroValue157,rfl⟩
theorem WH:DJ prog 177 ([jj,jj,jj]):=⟨_,zeroValue177,rfl⟩
theorem bY:DJ prog 179 ([(vI 0),(vI 0)]):=⟨_,zeroValue179,rfl⟩
theorem bZ:DJ prog 221 (AC (0:Rat)):=⟨_,zeroValue221,rfl⟩
theorem WI:DJ prog 240 ([(vI 0),(vI 0)]):=⟨_,zeroValue240,rfl⟩
theorem ba:DJ prog 283 ([(vI 0),(vI 0),(vI 0),(vI 0)]):=⟨_,zeroValue283,rfl⟩
theorem WJ:DJ prog 291 (AZ (⟨0,0⟩:Pt)++AZ (⟨0,0⟩:Pt)++AZ (⟨0,0⟩:Pt)):=⟨_,zeroValue291,rfl⟩
theorem M2:DJ prog 328 (AC (0:Rat)++AC (0:Rat)++AC (0:Rat)):=⟨_,zeroValue328,rfl⟩
theorem bb:DJ prog 331 ([(Value.int .u8 (0:Int)),(Value.int .u8 (0:Int)),(Value.int .u8 (0:Int)),(Value.int .u8 (0:Int)),(Value.int .u8 (0:Int)),(Value.int .u8 (0:Int)),(Value.int .u8 (0:Int)),(Value.int .u8 (0:Int)),(Value.int .u8 (0:Int)),(Value.int .u8 (0:Int)),(Value.int .u8 (0:Int)),(Value.int .u8 (0:Int)),(Value.int .u8 (0:Int)),(Value.int .u8 (0:Int)),(Value.int .u8 (0:Int)),(Value.int .u8 (0:Int)),(Value.int .u8 (0:Int)),(Value.int .u8 (0:Int)),(Value.int .u8 (0:Int)),(Value.int .u8 (0:Int)),(Value.int .u8 (0:Int)),(Value.int .u8 (0:Int)),(Value.int .u8 (0:Int)),(Value.int .u8 (0:Int))]):=⟨_,zeroValue331,rfl⟩
end
section
def Uf (l:List Oper) (i:Nat) (o:Oper):Bool:=(List.range l.length).all λk=>k == i||match l[k]? with
  | some ok=>B8 o k||B8 ok i||o.apart l.toArray ok
  | none=>true
def cS (l:List Oper):Nat:=bif Nat.ble 45 l.length then 8 else 4
def D1 (l:List Oper):List Nat->Option Nat->List (Nat×Bool)->Bool
  | _,_,[]=>true
  | D,p,(i,k)::r=>(match l[i]? with
      | some o=>(o.after.all λe=>!Region.binds .any e||D.contains e.on)&&(match p with|some q=>Bv l (cS l) i q|none=>true)&&(!k||Uf l i o)&&!D.contains i
      | none=>false)&&D1 l (i::D) (if k then p else some i) r
def ND (l:List Oper) (D:List Nat) (es:List (Nat×Bool)):Bool:=(List.range l.length).all λi=>D.contains i||es.any λe=>e.1 == i
def XB (l:List Oper) (es:List (Nat×Bool)):Bool:=D1 l [] none es&&ND l [] es&&Nat.beq es.length l.length&&Region.noSelect l.toArray
section
variable {P:Program} {ops:Array Oper} {Q:Exit->Act->World->Prop} {n:Nat} {w0:BC} {Lro L L':List As} {F F':List (Nat×Value)} {l:List Oper}
theorem de {o:Oper} {a:Act} {w:World} {K K':Act->World->Prop} {Q':Exit->Act->World->Prop} (h:∀a w,K a w->K' a w) (hp:∀c a w,Q (.panic c) a w->Q' (.panic c) a w) (hl:LetsOut Q->LetsOut Q') (hh:o.wp P a w K Q):o.wp P a w K' Q':=by
  unfold Oper.wp at *
  generalize (execOp a.eval o).run P w=r at *
  cases r with
  | ok n w' =>
    cases n<;>simp only [Oper.upon] at hh ⊢ <;>
      first
        | exact h _ _ hh
        | exact Calls.mono hh (λe w'' he=>by cases e<;>first|exact h _ _ he|exact hp _ _ _ he|exact hl he)
        | exact Rows.mono hh (λ_ _ he=>h _ _ he)
  | halt x w'=>cases x<;>simp only [Oper.upon] at hh ⊢<;>first|exact hp _ _ _ hh|exact hl hh|exact hh
def bw (P:Program) (ops:Array Oper) (n:Nat) (w0:BC) (Lro:List As) (F:List (Nat×Value)) (o:Oper) (v:Value):Prop :=
  (Wt ops n F o/\Ex P n F w0 Lro o v)\/((∀a,Ce n a F->Region.wanted o (yielded ops a.tmps)=false)/\v=undef)
def Wk (Lro L:List As):Prop:=∀(w0:BC) (w:World),BD w0 w L->BD w0 w Lro
theorem Wk.of {Lro L:List As} (h:Lro.Sublist L):Wk Lro L:=λ_ _ hw=>hw.weak h
def PE (Q:Exit->Act->World->Prop) (n:Nat) (w0:BC) (Lro:List As) (K:List (Nat×Value)->List As->Prop):Exit->Act->World->Prop
  | .normal,a,w=>∃F' L',Ce n a F'/\BD w0 w L'/\Wk Lro L'/\K F' L'
  | e,a,w=>Q e a w
def OkE (P:Program) (ops:Array Oper) (Q:Exit->Act->World->Prop) (n:Nat) (w0:BC) (Lro:List As):List (Nat×Bool)->List (Nat×Value)->List As->Prop
  | [],F,L=>OkQ Q .normal n F w0 L
  | (i,true)::r,F,L=>∃o d v,ops[i]?=some o/\o.dst=some d/\d<n/\bw P ops n w0 Lro F o v/\OkE P ops Q n w0 Lro r ((d,v)::F) L
  | (i,false)::r,F,L=>∃o,ops[i]?=some o/\AR P ops [o] (PE Q n w0 Lro λF' L'=>OkE P ops Q n w0 Lro r F' L') n F w0 L
theorem KQ {i:Nat} {o:Oper} {K:List (Nat×Value)->List As->Prop} {K':Act->World->Prop} {a:Act} {w:World} (hi:ops[i]?=some o) (h:wpList P ops (PE Q n w0 Lro K) [o] a w)
    (hK:∀F' L' a' w',Ce n a' F'->BD w0 w' L'->Wk Lro L'->K F' L'->K' a' w'):wpOp P ops Q i K' a w:=by
  unfold wpOp
  simp only [hi]
  unfold wpList at h
  have go:∀a' w',wpList P ops (PE Q n w0 Lro K) [] a' w'->K' a' w':=λa' w' h=>by
    obtain ⟨F',L',h1,h2,h3,h4⟩:=(show PE Q n w0 Lro K .normal a' w' from h)
    exact hK F' L' a' w' h1 h2 h3 h4
  split
  · rename_i hw
    rw [if_pos hw] at h
    rcases h with h|h
    · exact .inl (de go (λ_ _ _ h=>h) (λh=>h) h)
    · exact .inr h
  · rename_i hw
    rw [if_neg hw] at h
    exact go _ _ h
theorem Hj {listed:Array Bool} (hcl:∀(j:Nat) (o:Oper),listed.getD j false=true->l[j]?=some o->∀e∈o.after,Region.binds .any e=true->listed.getD e.on false=true) :
    ∀(f i j:Nat) (o:Oper),Bv l f i j=true->l[i]?=some o->(∀e∈o.after,Region.binds .any e=true->listed.getD e.on false=true)->listed.getD j false=true
  | 0,i,j,o,h,_,_=>by simp [Bv] at h
  | f+1,i,j,o,h,ho,hp=>by
    unfold Bv at h
    simp only [ho,yy] at h
    rcases h with h|h
    · obtain ⟨e,he,hb,rfl⟩:=BE h
      exact hp e he hb
    · obtain ⟨k,hk,h⟩:=List.any_eq_true.1 h
      simp only [yz] at h
      obtain ⟨e,he,hb,rfl⟩:=BE h.1
      have hl:=hp e he hb
      have hk':e.on<l.length:=List.mem_range.1 hk
      have ho':l[e.on]?=some l[e.on]:=xP hk'
      exact Hj hcl f e.on j _ h.2 ho' (λe' he' hb'=>hcl _ _ hl ho' e' he' hb')
structure cJ (l:List Oper) (D:List Nat) (p:Option Nat) (i:Nat) (k:Bool) (r:List (Nat×Bool)) (o:Oper):Prop where
  at_:l[i]?=some o
  pre:∀e∈o.after,Region.binds .any e=true->e.on∈D
  bef:∀q,p=some q->Bv l (cS l) i q=true
  fr:k=true->Uf l i o=true
  nin:i ∉ D
  tl:D1 l (i::D) (if k then p else some i) r=true
theorem DK {D:List Nat} {p:Option Nat} {i:Nat} {k:Bool} {r:List (Nat×Bool)} (h:D1 l D p ((i,k)::r)=true):∃o,cJ l D p i k r o:=by
  unfold D1 at h
  rw [yz] at h
  obtain ⟨h1,h2⟩:=h
  cases ho:l[i]? with
  | none=>simp [ho] at h1
  | some o =>
    simp only [ho,yz] at h1
    obtain ⟨⟨⟨h3,h4⟩,h5⟩,h6⟩:=h1
    refine ⟨o,ho,λe he hb=>?_,λq hq=>?_,λhk=>?_,by simpa using h6,h2⟩
    · have:=Array.all_eq_true_iff_forall_mem.1 h3 e he
      simpa [hb] using this
    · subst hq;exact h4
    · subst hk;simpa using h5
theorem D4:∀{es:List (Nat×Bool)} {D:List Nat} {p:Option Nat},D1 l D p es=true->∀e∈es,e.1 ∉ D/\e.1<l.length
  | [],_,_,_,e,he=>by cases he
  | (i,k)::r,D,p,h,e,he=>by
    obtain ⟨o,hg⟩:=DK h
    rcases xN.1 he with rfl|he
    · exact ⟨hg.nin,(List.getElem?_eq_some_iff.1 hg.at_).1⟩
    · have:=D4 hg.tl e he
      exact ⟨λhd=>this.1 (List.mem_cons_of_mem _ hd),this.2⟩
theorem Eh {listed:Array Bool} (hcl:∀(j:Nat) (o:Oper),listed.getD j false=true->l[j]?=some o->∀e∈o.after,Region.binds .any e=true->listed.getD e.on false=true) :
    ∀{es:List (Nat×Bool)} {D:List Nat} {p:Nat},D1 l D (some p) es=true->listed.getD p false=false->(∀e∈es,listed.getD e.1 false=false)->∀e∈es,e.1 ∉ Region.ready .any l.toArray listed
  | [],_,_,_,_,_,e,he=>by cases he
  | (i,k)::r,D,p,h,hp,hu,e,he=>by
    obtain ⟨o,hg⟩:=DK h
    rcases xN.1 he with rfl|he2
    · intro hr
      obtain ⟨_,o',ho',hall⟩:=mem_ready.1 hr
      have:=Hj hcl (cS l) i p o' (hg.bef p rfl) (by simpa using ho') hall
      rw [hp] at this;cases this
    · have hu':∀e∈r,listed.getD e.1 false=false:=λe he=>hu e (List.mem_cons_of_mem _ he)
      have htl:=hg.tl
      cases k with
      | true=>exact Eh hcl htl hp hu' e he2
      | false=>exact Eh hcl htl (hu (i,false) List.mem_cons_self) hu' e he2
structure M8 (l:List Oper) (D:List Nat) (listed:Array Bool):Prop where
  size:listed.size=l.length
  mem:∀i,i∈D↔listed.getD i false=true
  cl:∀(j:Nat) (o:Oper),listed.getD j false=true->l[j]?=some o->∀e∈o.after,Region.binds .any e=true->listed.getD e.on false=true
theorem M8.no {D:List Nat} {listed:Array Bool} (h:M8 l D listed) {i:Nat} (hn:i ∉ D):listed.getD i false=false:=by
  cases hx:listed.getD i false with
  | false=>rfl
  | true=>exact absurd ((h.mem i).2 hx) hn
theorem Cj {listed:Array Bool} {i:Nat} (hi:i<listed.size):listed.getD i true=listed.getD i false:=by simp [hi]
theorem M8.add {D:List Nat} {listed:Array Bool} (h:M8 l D listed) {i:Nat} {o:Oper} (ho:l[i]?=some o) (hp:∀e∈o.after,Region.binds .any e=true->listed.getD e.on false=true):M8 l (i::D) (listed.setIfInBounds i true):=by
  have hil:i<l.length:=(List.getElem?_eq_some_iff.1 ho).1
  have his:i<listed.size:=by rw [h.size];exact hil
  refine ⟨by simpa using h.size,λk=>?_,λj o' hj ho' e he hb=>?_⟩
  · rw [C6 _ _ _ _ his]
    by_cases e:i=k
    · subst e;simp
    · rw [if_neg e,<-h.mem k]
      exact ⟨λhm=>(xN.1 hm).elim (λe2=>absurd e2.symm e) id,List.mem_cons_of_mem _⟩
  · rw [C6 _ _ _ _ his] at hj ⊢
    have:listed.getD e.on false=true:=by
      by_cases e1:i=j
      · subst e1
        rw [ho] at ho';injection ho' with ho';subst ho'
        exact hp e he hb
      · rw [if_neg e1] at hj
        exact h.cl j o' hj ho' e he hb
    split
    · rfl
    · exact this
theorem Fz {D:List Nat} {listed:Array Bool} (hL:M8 l D listed) {i:Nat} {o:Oper} (ho:l[i]?=some o) (hf:Uf l i o=true) (hp:∀e∈o.after,Region.binds .any e=true->listed.getD e.on false=true) (j:Nat) (oj:Oper) (hj:l.toArray[j]?=some oj) (hne:j≠i) (hun:listed.getD j true=false) (hno:∀e∈oj.after,Region.binds .any e=true->e.on≠i) :
    o.apart l.toArray oj=true:=by
  have hj':l[j]?=some oj:=by simpa using hj
  have hjl:j<l.length:=(List.getElem?_eq_some_iff.1 hj').1
  have h1:=List.all_eq_true.1 hf j (List.mem_range.2 hjl)
  simp only [hj',yy,beq_iff_eq,hne,false_or] at h1
  rcases h1 with (h1|h1)|h1
  · obtain ⟨e,he,hb,rfl⟩:=BE h1
    have:=hp e he hb
    rw [Cj (by rw [hL.size];exact hjl)] at hun
    rw [hun] at this;cases this
  · obtain ⟨e,he,hb,h2⟩:=BE h1
    exact absurd h2 (hno e he hb)
  · exact h1
theorem Si {D:List Nat} {listed:Array Bool} (hL:M8 l D listed) (hall:∀i,i<l.length->i∈D):Region.ready .any l.toArray listed=[]:=by
  cases hr:Region.ready .any l.toArray listed with
  | nil=>rfl
  | cons j r =>
    obtain ⟨h0,o,ho,_⟩:=(mem_ready (md:=.any) (ops:=l.toArray) (listed:=listed) (j:=j)).1 (by rw [hr];exact List.mem_cons_self ..)
    have hjl:j<l.length:=by simpa using (Array.getElem?_eq_some_iff.1 ho).1
    have:=(hL.mem j).1 (hall j hjl)
    rw [Cj (by rw [hL.size];exact hjl)] at h0
    rw [h0] at this;cases this
theorem aQ (hQ:∀c a d v w,Q (.panic c) (a.put d v) w->Q (.panic c) a w) (c) (a:Act) (d:Option Tmp) (v:Value) (w:World) (h:Q (.panic c) (a.put d v) w):Q (.panic c) a w:=hQ c a d v w h
theorem JP (hsel:Region.noSelect l.toArray=true) (hQ:∀c a d v w,Q (.panic c) (a.put d v) w->Q (.panic c) a w) :
    ∀(es:List (Nat×Bool)) (D:List Nat) (p:Option Nat) (listed:Array Bool) (a:Act) (w:World) (F:List (Nat×Value)) (L:List As),
      D1 l D p es=true->M8 l D listed->(∀i,i<l.length->i∈D\/es.any (λe=>e.1 == i)=true)->Wk Lro L->Ce n a F->BD w0 w L->OkE P l.toArray Q n w0 Lro es F L ->
      wpAnyH P .any l.toArray Q (λw=>BD w0 w Lro) es.length listed a w
  | [],D,p,listed,a,w,F,L,hc,hL,hall,hro,ha,hw,h=>⟨Si hL λi hi=>(hall i hi).resolve_right jX,h a w ha hw⟩
  | (i,true)::r,D,p,listed,a,w,F,L,hc,hL,hall,hro,ha,hw,h=>by
    obtain ⟨o,hg⟩:=DK hc
    obtain ⟨o',d,v,ho',hd,hdn,hy,hn⟩:=h
    have hat:l.toArray[i]?=some o:=by simpa using hg.at_
    rw [hat] at ho';injection ho' with ho';subst ho'
    have hil:i<l.length:=(List.getElem?_eq_some_iff.1 hg.at_).1
    have hp:∀e∈o.after,Region.binds .any e=true->listed.getD e.on false=true:=λe he hb=>(hL.mem _).1 (hg.pre e he hb)
    have hun:=hL.no hg.nin
    have hrd:i∈Region.ready .any l.toArray listed:=mem_ready.2 ⟨by rw [Cj (by rw [hL.size];exact hil)];exact hun,o,hat,hp⟩
    have hyield:YieldsIf P l.toArray (λw=>BD w0 w Lro) o v a:=by
      rcases hy with ⟨h1,h2⟩|⟨h1,h2⟩
      · exact .inl ⟨h1 a ha,λw hW=>h2 a w ha hW⟩
      · exact .inr ⟨h1 a ha,h2⟩
    refine wpAnyH_first hat (Region.noSelect_spec hsel) (λc a w=>aQ hQ c a o.dst v w) r.length listed a w (Fz hL hg.at_ (hg.fr O) hp) hrd hyield (hro _ _ hw) ?_
    refine JP hsel hQ r (i::D) p _ _ w ((d,v)::F) L hg.tl (hL.add hg.at_ hp) (λk hk=>?_) hro (by rw [hd];exact ha.put hdn) hw hn
    rcases hall k hk with h1|h1
    · exact .inl (List.mem_cons_of_mem _ h1)
    · simp only [List.any_cons,yy,beq_iff_eq] at h1
      rcases h1 with h1|h1
      · exact .inl (h1▸List.mem_cons_self)
      · exact .inr h1
  | (i,false)::r,D,p,listed,a,w,F,L,hc,hL,hall,hro,ha,hw,h=>by
    obtain ⟨o,hg⟩:=DK hc
    obtain ⟨o',ho',h⟩:=h
    have hat:l.toArray[i]?=some o:=by simpa using hg.at_
    rw [hat] at ho';injection ho' with ho';subst ho'
    have hil:i<l.length:=(List.getElem?_eq_some_iff.1 hg.at_).1
    have hp:∀e∈o.after,Region.binds .any e=true->listed.getD e.on false=true:=λe he hb=>(hL.mem _).1 (hg.pre e he hb)
    have hun:=hL.no hg.nin
    have hrd:i∈Region.ready .any l.toArray listed:=mem_ready.2 ⟨by rw [Cj (by rw [hL.size];exact hil)];exact hun,o,hat,hp⟩
    have hall':∀k,k<l.length->k∈i::D\/r.any (λe=>e.1 == k)=true:=λk hk=>by
      rcases hall k hk with h1|h1
      · exact .inl (List.mem_cons_of_mem _ h1)
      · simp only [List.any_cons,yy,beq_iff_eq] at h1
        rcases h1 with h1|h1
        · exact .inl (h1▸List.mem_cons_self)
        · exact .inr h1
    refine ⟨λh0=>absurd hrd (by rw [h0];exact List.not_mem_nil),λj hj=>?_⟩
    have hji:j=i:=by
      obtain ⟨h0,oj,hoj,_⟩:=mem_ready.1 hj
      have hjl:j<l.length:=by simpa using (Array.getElem?_eq_some_iff.1 hoj).1
      rw [Cj (by rw [hL.size];exact hjl)] at h0
      rcases hall' j hjl with h1|h1
      · rcases xN.1 h1 with h2|h2
        · exact h2
        · rw [(hL.mem j).1 h2] at h0;cases h0
      · obtain ⟨e,he,h2⟩:=List.any_eq_true.1 h1
        have h3:e.1=j:=by simpa using h2
        subst h3
        exact absurd hj (Eh hL.cl hg.tl hun (λe he=>hL.no λhd=>(D4 hg.tl e he).1 (List.mem_cons_of_mem _ hd)) e he)
    subst hji
    exact KQ hat (h a w ha hw) λF' L' a' w' h1 h2 h3 h4=>⟨h3 _ _ h2,JP hsel hQ r (j::D) (some j) _ a' w' F' L' hg.tl (hL.add hg.at_ hp) hall' h3 h1 h2 h4⟩
theorem M8.congr {D D2:List Nat} {listed:Array Bool} (h:M8 l D listed) (e:∀x,x∈D↔x∈D2):M8 l D2 listed:=⟨h.size,λi=>(e i).symm.trans (h.mem i),h.cl⟩
theorem IK {es:List (Nat×Bool)} {i:Nat} (h:es.any (λe=>e.1 == i)=true):∃e∈es,e.1=i:=by
  obtain ⟨e,he,h2⟩:=List.any_eq_true.1 h
  exact ⟨e,he,by simpa using h2⟩
theorem PG {id:Nat} {l:List Oper} (hm:P.follows .mixedOrders=true) {k:Nat} (hk:k=l.length) (h:∀a w,Ce n a F->BD w0 w L->wpAnyH P .any l.toArray Q (λw=>BD w0 w Lro) k (Array.replicate l.length false) a w):OkC P (.region id l.toArray true) Q n F w0 L:=λa w ha hw=>by
  refine wp_region_held (S:=λw=>BD w0 w Lro) hm ?_
  rw [show l.toArray.size=l.length by simp,<-hk]
  subst hk
  exact h a w.drew ha hw.drew
theorem HW:M8 l [] (Array.replicate l.length false):=by
  have hz:∀j,(Array.replicate l.length false).getD j false=false:=λj=>by
    by_cases h:j<l.length<;>simp [h]
  exact ⟨by simp,λi=>by rw [hz];simp,λj o hj=>by rw [hz] at hj;cases hj⟩
theorem OkC.chainE {id:Nat} (es:List (Nat×Bool)) (hro:Lro.Sublist L) (hm:P.follows .mixedOrders=true) (hc:XB l es=true) (hQ:∀c a d v w,Q (.panic c) (a.put d v) w->Q (.panic c) a w)
    (h:OkE P l.toArray Q n w0 Lro es F L):OkC P (.region id l.toArray true) Q n F w0 L:=by
  simp only [XB,yz] at hc
  obtain ⟨⟨⟨h1,h2⟩,h3⟩,h4⟩:=hc
  refine PG hm (Nat.eq_of_beq_eq_true h3) λa w ha hw=>JP h4 hQ es [] none _ a w F L h1 HW (λi hi=>?_) (Wk.of hro) ha hw h
  have:=List.all_eq_true.1 h2 i (List.mem_range.2 hi)
  simpa using this
variable {r e2:List (Nat×Bool)} {i j d:Nat} {o:Oper} {v:Value}
theorem zQ (h:OkQ Q .normal n F w0 L):OkE P ops Q n w0 Lro [] F L:=h
theorem zY (ho:ops[i]?=some o) (hw:Wt ops n F o) (he:Ex P n F w0 Lro o v) (hd:o.dst=some d) (hn:Nat.ble (d+1) n=true) (next:OkE P ops Q n w0 Lro r ((d,v)::F) L):OkE P ops Q n w0 Lro ((i,true)::r) F L:=⟨o,d,v,ho,hd,Nat.le_of_ble_eq_true hn,.inl ⟨hw,he⟩,next⟩
theorem zy (ho:ops[i]?=some o) (hw:∀a,Ce n a F->Region.wanted o (yielded ops a.tmps)=false) (hd:o.dst=some d) (hn:Nat.ble (d+1) n=true) (next:OkE P ops Q n w0 Lro r ((d,undef)::F) L):OkE P ops Q n w0 Lro ((i,true)::r) F L:=⟨o,d,undef,ho,hd,Nat.le_of_ble_eq_true hn,.inr ⟨hw,rfl⟩,next⟩
theorem zN (ho:ops[i]?=some o) (h:AR P ops [o] (PE Q n w0 Lro λF' L'=>OkE P ops Q n w0 Lro r F' L') n F w0 L):OkE P ops Q n w0 Lro ((i,false)::r) F L:=⟨o,ho,h⟩
theorem zD (hro:Lro.Sublist L') (h:OkE P ops Q n w0 Lro r F' L'):AR P ops [] (PE Q n w0 Lro λF' L'=>OkE P ops Q n w0 Lro r F' L') n F' w0 L':=AR.nil λa w ha hw=>⟨F',L',ha,hw,Wk.of hro,h⟩
end
end
end Go.Proofs.YtpolhpjiahbidaaGreatDoor
