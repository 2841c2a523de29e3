import Derived.Laws.Externs
import Derived.Laws.StructEq
import Derived.Test.YtpolhpjiahbidaaGreatDoorPart03
namespace Go.Proofs.YtpolhpjiahbidaaGreatDoor
open Go Go.RowKit Go.Proofs.Tryz
open Go.Value renaming slice→qw,bool→qa
set_option linter.unusedVariables false
set_option linter.unusedSimpArgs false
section
theorem UX {a:Nat}:IntKind.u64.wrap (a:Int)=((a%18446744073709551616:Nat):Int):=by
  simp only [IntKind.wrap,IntKind.bits,IntKind.signed];simp
theorem Vc {a b:Nat}:IntKind.u64.wrap ((a:Int)*(b:Int))=((a*b%18446744073709551616:Nat):Int):=by
  rw [<-Int.natCast_mul];exact UX
theorem XH {a b:Nat}:IntKind.u32.wrap ((a:Int)+(b:Int))=(((a+b)%4294967296:Nat):Int):=by
  rw [<-Int.natCast_add];exact E3
theorem P7 {a b:Nat} (h:b<=4294967296):IntKind.u32.wrap ((a:Int)-(b:Int))=(((a+(4294967296-b))%4294967296:Nat):Int):=by
  simp only [IntKind.wrap,IntKind.bits,IntKind.signed];simp;omega
theorem Mv {a:Nat} (h:a<18446744073709551616):(BitVec.ofInt IntKind.u64.bits (a:Int)).toNat=a:=by
  show (BitVec.ofInt 64 (a:Int)).toNat=_
  rw [BitVec.ofInt_natCast,BitVec.toNat_ofNat,Nat.mod_eq_of_lt Z]
theorem Hc {a:Nat} (h:a<4294967296):(BitVec.ofInt IntKind.u32.bits (a:Int)).toNat=a:=by
  show (BitVec.ofInt 32 (a:Int)).toNat=_
  rw [BitVec.ofInt_natCast,BitVec.toNat_ofNat,Nat.mod_eq_of_lt Z]
theorem Wu {a b:Nat} (ha:a<18446744073709551616) (hb:b<18446744073709551616):IntKind.u64.wrap ((BitVec.ofInt IntKind.u64.bits (a:Int) &&& BitVec.ofInt IntKind.u64.bits (b:Int)).toNat:Int)=((a &&& b:Nat):Int):=by
  rw [BitVec.toNat_and,Mv ha,Mv hb]
  have:a &&& b<=a:=Nat.and_le_left
  exact Df Z Z
theorem JM {a:Nat} (ha:a<18446744073709551616):IntKind.u64.wrap ((BitVec.ofInt IntKind.u64.bits (a:Int) &&& BitVec.ofInt IntKind.u64.bits ((4294967295:Nat):Int)).toNat:Int)=((a%4294967296:Nat):Int):=by
  rw [Wu ha Z,show (4294967295:Nat)=2^32-1 from rfl,Nat.and_two_pow_sub_one_eq_mod]
theorem PO {a b:Nat} (ha:a<4294967296) (hb:b<4294967296):IntKind.u32.wrap ((BitVec.ofInt IntKind.u32.bits (a:Int) &&& BitVec.ofInt IntKind.u32.bits (b:Int)).toNat:Int)=((a &&& b:Nat):Int):=by
  rw [BitVec.toNat_and,Hc ha,Hc hb]
  have:a &&& b<=a:=Nat.and_le_left
  exact HM Z Z
theorem P4 {a b:Nat} (ha:a<4294967296) (hb:b<4294967296):IntKind.u32.wrap ((BitVec.ofInt IntKind.u32.bits (a:Int) ^^^ BitVec.ofInt IntKind.u32.bits (b:Int)).toNat:Int)=((a ^^^ b:Nat):Int):=by
  rw [BitVec.toNat_xor,Hc ha,Hc hb]
  have:a ^^^ b<2^32:=Nat.xor_lt_two_pow ha hb
  exact HM Z Z
theorem QQ {a:Nat} (ha:a<4294967296):IntKind.u32.wrap ((BitVec.ofInt IntKind.u32.bits (if IntKind.u32.signed then -1 else IntKind.u32.max) ^^^ BitVec.ofInt IntKind.u32.bits (a:Int)).toNat:Int)=((4294967295 ^^^ a:Nat):Int):=by
  rw [show (if IntKind.u32.signed then -1 else IntKind.u32.max)=((4294967295:Nat):Int) from rfl]
  exact P4 Z ha
def Jl (x y:Nat):Nat:=if x<y then 1 else 0
theorem cQ {r:Nat} (h:r<4294967296):r/2147483648=if r.testBit 31 then 1 else 0:=by
  have e:r.testBit 31=decide (r/2147483648%2=1):=Nat.testBit_eq_decide_div_mod_eq ..
  rw [e]
  by_cases h1:r/2147483648%2=1
  · rw [if_pos (by simpa using h1)];omega
  · rw [if_neg (by simpa using h1)];omega
theorem Sg {x:Nat} (h:x<4294967296):x.testBit 31=decide (2147483648<=x):=by
  rw [Nat.testBit_eq_decide_div_mod_eq]
  exact decide_eq_decide.2 Z
theorem W_ {x y c:Nat} (hx:x<4294967296) (hy:y<4294967296) (hc:c<=1) {d:Nat} (hd:d=(x+(4294967296-y)+(4294967296-c))%4294967296) :
    ((4294967295 ^^^ x) &&& y ||| (4294967295 ^^^ (x ^^^ y)) &&& d)/2147483648=Jl x (y+c):=by
  have hd':d<4294967296:=by omega
  have h1:((4294967295 ^^^ x) &&& y ||| (4294967295 ^^^ (x ^^^ y)) &&& d)<2^32:=by
    refine Nat.or_lt_two_pow ?_ ?_
    · exact Nat.lt_of_le_of_lt Nat.and_le_right hy
    · exact Nat.lt_of_le_of_lt Nat.and_le_right hd'
  rw [cQ Z]
  simp only [Nat.testBit_or,Nat.testBit_and,Nat.testBit_xor,Sg hx,Sg hy,Sg hd',Sg (show 4294967295<4294967296 by omega)]
  unfold Jl
  by_cases h2:2147483648<=x<;>by_cases h3:2147483648<=y<;>by_cases h4:2147483648<=d<;>simp [h2,h3,h4]<;>omega
theorem WX (x y:Nat):x/4294967296*(y/4294967296)+(x/4294967296*(y%4294967296)+x%4294967296*(y%4294967296)/4294967296)/4294967296+((x/4294967296*(y%4294967296)+x%4294967296*(y%4294967296)/4294967296)%4294967296+x%4294967296*(y/4294967296))/4294967296=x*y/18446744073709551616:=by
  have e:x*y=x%4294967296*(y%4294967296)+4294967296*(x/4294967296*(y%4294967296)+x%4294967296*(y/4294967296))+18446744073709551616*(x/4294967296*(y/4294967296)):=by
    have hx:x=x%4294967296+4294967296*(x/4294967296):=by omega
    have hy:y=y%4294967296+4294967296*(y/4294967296):=by omega
    generalize x%4294967296=a at *
    generalize x/4294967296=b at *
    generalize y%4294967296=c at *
    generalize y/4294967296=d at *
    subst hx;subst hy
    grind
  rw [e]
  generalize x%4294967296*(y%4294967296)=p
  generalize x/4294967296*(y%4294967296)=q
  generalize x%4294967296*(y/4294967296)=r
  generalize x/4294967296*(y/4294967296)=t
  omega
theorem Lm {a b:Nat} (ha:a<4294967296) (hb:b<4294967296):a*b<=18446744065119617025:=Nat.mul_le_mul (show a<=4294967295 by omega) (show b<=4294967295 by omega)
def bl (x:Nat):Nat:=if x=0 then 0 else Nat.log2 x+1
theorem Qj {x k:Nat} (h:2^k<=x):Nat.log2 x=Nat.log2 (x/2^k)+k:=by
  have hx:x≠0:=by have:=Nat.pow_pos (n:=k) (show 0<2 by omega);omega
  have hq:x/2^k≠0:=by
    have:=Nat.div_pos h (Nat.pow_pos (n:=k) (show 0<2 by omega));omega
  have h1:=(Nat.log2_eq_iff hq).1 rfl
  rw [Nat.log2_eq_iff hx]
  have hm:=Nat.div_add_mod x (2^k)
  have hlt:=Nat.mod_lt x (Nat.pow_pos (n:=k) (show 0<2 by omega))
  constructor
  · rw [Nat.pow_add,Nat.mul_comm]
    exact xK (Nat.mul_le_mul_left _ h1.1) (Nat.mul_div_le x _)
  · rw [show (x/2^k).log2+k+1=((x/2^k).log2+1)+k by omega,Nat.pow_add]
    exact (Nat.div_lt_iff_lt_mul (Nat.pow_pos Z)).1 h1.2
theorem O4 {x k:Nat} (h:2^k<=x):bl x=bl (x/2^k)+k:=by
  have hx:x≠0:=by have:=Nat.pow_pos (n:=k) (show 0<2 by omega);omega
  have hq:x/2^k≠0:=by
    have:=Nat.div_pos h (Nat.pow_pos (n:=k) (show 0<2 by omega));omega
  simp only [bl,hx,hq,if_false,Qj h]
  omega
theorem VW {x k:Nat} (h:x<2^k):bl x<=k:=by
  unfold bl
  split
  · omega
  · rename_i hx
    have:=(Nat.log2_lt hx).2 h
    omega
theorem TR {y:Nat} (h0:0<y) (h:y<4294967296):bl y<=32/\0<bl y/\2147483648<=y*2^(32-bl y)/\y*2^(32-bl y)<4294967296:=by
  have hy:y≠0:=by omega
  have h1:=(Nat.log2_eq_iff hy).1 rfl
  have h2:=VW (k:=32) (show y<2^32 by omega)
  have hb:bl y=y.log2+1:=by simp [bl,hy]
  refine ⟨h2,Z,?_,?_⟩
  · rw [hb] at h2 ⊢
    calc 2147483648=2^y.log2*2^(32-(y.log2+1)):=by rw [<-Nat.pow_add,show y.log2+(32-(y.log2+1))=31 by omega]
      _<=_:=Nat.mul_le_mul_right _ h1.1
  · rw [hb] at h2 ⊢
    calc y*2^(32-(y.log2+1))<2^(y.log2+1)*2^(32-(y.log2+1)):=Nat.mul_lt_mul_of_pos_right h1.2 (Nat.pow_pos Z)
      _=4294967296:=by rw [<-Nat.pow_add,show y.log2+1+(32-(y.log2+1))=32 by omega]
theorem Z1 {s:ByteArray} (h:((List.range 256).all λj=>s[j]? == some (UInt8.ofNat (bl j)))=true) {j:Nat} (hj:j<256):s[j]?=some (UInt8.ofNat (bl j)):=by
  simpa using List.all_eq_true.1 h j (List.mem_range.2 hj)
theorem aK {x:Nat} (h:256<=x):bl x=bl (x/256)+8:=O4 (k:=8) h
theorem VR (z:Int):(if (if z<1 then z else 1) > -1 then (if z<1 then z else 1) else -1)=z.sign:=by
  rcases Int.lt_trichotomy z 0 with h|h|h
  · rw [Int.sign_eq_neg_one_of_neg h,if_pos (show z<1 by omega)];split<;>omega
  · subst h;rfl
  · rw [Int.sign_eq_one_of_pos h,if_neg (show ¬z<1 by omega)];rfl
section
variable {P:Program} {n:Nat} {F:List (Nat×Value)} {w0:BC} {L:List As} {x y:Operand} {d:Option Tmp} {t:TypeId} {p:String} {af:Array Edge} {g:Option (Nat×Bool)}
theorem Iy {s:ByteArray} {k:IntKind} {j m:Nat} {tx:TypeId} (hx:evF F x=some (.string s)) (hy:evF F y=some (.int k ((j:Nat):Int))) (hu:P.underlying tx=some .string) (hb:s[j]?=some (UInt8.ofNat m)) (hm:m<256):Ex P n F w0 L ⟨d,.index tx x y,t,p,af,g⟩ (.int .u8 ((m:Nat):Int)):=by
  have h:=KJ (P:=P) (n:=n) (F:=F) (w0:=w0) (L:=L) (d:=d) (t:=t) (p:=p) (af:=af) (g:=g) hx hy hu rfl hb
  have e:(UInt8.ofNat m).toNat=m:=by simp;omega
  rwa [e] at h
theorem UG {f:FuncId} {xs:List Operand} {args:List Value} {ts:Array TypeId} {v:Value} (hf:evF F x=some (.func (.func f) #[] #[])) (hargs:xs.map (evF F)=args.map some)
    (hc:∀w,(callFunc f args.toArray).run P w=.ok (.value v) w):Ex P n F w0 L ⟨d,.call { callee:=.value x,args:=xs.toArray,argTypes:=ts },t,p,af,g⟩ v:=λA w ha _=>by
  have e1:xs.toArray.map A.eval=args.toArray:=by rw [<-QB ha hargs];simp
  simp [execOp,resolve,ha.ev hf,Deferred.ofValue,e1,invoke,hc]
theorem TQ {f : FuncId} {fn : Func} (hf : P.funcs[f]? = some fn) (hname : (fn.name == "runtime.NumGoroutine") = false) (hb : fn.body.isNone = true) (hn : Extern.findNext fn = none) (he : Extern.find fn = some add64Entry) (x y c : Nat) (hc : c ≤ 1) (w : World) :
    (callFunc f #[.int .u64 x,.int .u64 y,.int .u64 c]).run P w=.ok (.value (.tuple #[.int .u64 (((x+y+c)%18446744073709551616:Nat):Int),.int .u64 (((x+y+c)/18446744073709551616:Nat):Int)])) w:=by
  rw [run_callFunc_extern hf hname hb hn he,run_add64 x y c Z Z Z Z]
  simp only [Result.andThen]
  congr 5<;>omega
end
theorem Own.fresh {W w:World} {L:List As} (h:Own ⟨W,none⟩ w L) {i b:Nat} {T:TypeId} {cs:List Value} (hi:L[i]?=some (AR b T cs)):W.heap.size<=b:=by
  rcases (h.2.1 _ (List.mem_of_getElem? hi) b rfl).1 with h1|h1|h1
  · cases h1
  · exact h1
  · cases h1
end
section
set_option maxRecDepth 100000
theorem dV:FG prog 2:=⟨isAgg2⟩
theorem BN:FG prog 3:=⟨isAgg3⟩
theorem J2:FG prog 4:=⟨isAgg4⟩
theorem UV:FG prog 9:=⟨isAgg9⟩
theorem O_:FG prog 22:=⟨isAgg22⟩
theorem B1:FG prog 23:=⟨isAgg23⟩
theorem Gh:FG prog 24:=⟨isAgg24⟩
theorem Qm:Du prog 26 3:=⟨isAgg26,sizeOf26⟩
theorem GG:FG prog 28:=⟨isAgg28⟩
theorem Do:Du prog 30 3:=⟨isAgg30,sizeOf30⟩
theorem aj:FG prog 32:=⟨isAgg32⟩
theorem Ez:FG prog 36:=⟨isAgg36⟩
theorem HN:FG prog 37:=⟨isAgg37⟩
theorem Cp:Du prog 39 3:=⟨isAgg39,sizeOf39⟩
theorem OL:Du prog 49 4:=⟨isAgg49,sizeOf49⟩
theorem WK:Du prog 50 4:=⟨isAgg50,sizeOf50⟩
theorem HH:FG prog 69:=⟨isAgg69⟩
theorem CD:Du prog 71 2:=⟨isAgg71,sizeOf71⟩
theorem TM:Du prog 73 2:=⟨isAgg73,sizeOf73⟩
theorem Dd:Du prog 75 3:=⟨isAgg75,sizeOf75⟩
theorem Ce:Du prog 77 5:=⟨isAgg77,sizeOf77⟩
theorem GI:FG prog 79:=⟨isAgg79⟩
theorem PK:Du prog 81 2:=⟨isAgg81,sizeOf81⟩
theorem Cw:Du prog 83 3:=⟨isAgg83,sizeOf83⟩
theorem aI:FG prog 92:=⟨isAgg92⟩
theorem UB:Du prog 94 2:=⟨isAgg94,sizeOf94⟩
theorem c9:Du prog 96 4:=⟨isAgg96,sizeOf96⟩
theorem HI:Du prog 99 10:=⟨isAgg99,sizeOf99⟩
theorem B_:Du prog 105 3:=⟨isAgg105,sizeOf105⟩
theorem Zg:Du prog 110 3:=⟨isAgg110,sizeOf110⟩
theorem dL:Du prog 119 3:=⟨isAgg119,sizeOf119⟩
theorem FE:Du prog 121 6:=⟨isAgg121,sizeOf121⟩
theorem Uv:FG prog 135:=⟨isAgg135⟩
theorem Vp:Du prog 137 2:=⟨isAgg137,sizeOf137⟩
theorem VG:FG prog 138:=⟨isAgg138⟩
theorem M5:Du prog 240 2:=⟨isAgg240,sizeOf240⟩
theorem eK:DH prog 23 ([jj]):=⟨_,zeroValue23,rfl⟩
theorem IM:DH prog 30 ([jj,jj,jj]):=⟨_,zeroValue30,rfl⟩
theorem bO:DH prog 32 ([jj]):=⟨_,zeroValue32,rfl⟩
theorem JK:DH prog 39 ([jj,jj,jj]):=⟨_,zeroValue39,rfl⟩
theorem PJ:DH prog 49 ([(vI 0),(vI 0),(vI 0),(vI 0)]):=⟨_,zeroValue49,rfl⟩
theorem ak:DH prog 50 ([(vI 0),(vI 0),(vI 0),(vI 0)]):=⟨_,zeroValue50,rfl⟩
theorem Gf:DH prog 71 (Aa 0):=⟨_,zeroValue71,rfl⟩
theorem cH:DH prog 73 (Aa 0):=⟨_,zeroValue73,rfl⟩
theorem J8:DH prog 75 (BA 0):=⟨_,zeroValue75,rfl⟩
theorem Gt:DH prog 77 (AY (0:Rat)):=⟨_,zeroValue77,rfl⟩
theorem TJ:DH prog 81 ([(qa false),jj]):=⟨_,zeroValue81,rfl⟩
theorem Ib:DH prog 83 ([(qa false),jj,jj]):=⟨_,zeroValue83,rfl⟩
theorem MY:DH prog 99 (BB (⟨0,0⟩:Pt)):=⟨_,zeroValue99,rfl⟩
theorem Id:DH prog 105 ([(vI 0),(vI 0),(vI 0)]):=⟨_,zeroValue105,rfl⟩
theorem ZU:DH prog 110 ([(vI 0),(vI 0),(vI 0)]):=⟨_,zeroValue110,rfl⟩
theorem dI:DH prog 114 ([(vI 0),(vI 0)]):=⟨_,zeroValue114,rfl⟩
theorem bq:DH prog 119 ([(vI 0),(vI 0),(vI 0)]):=⟨_,zeroValue119,rfl⟩
theorem P6:DH prog 121 ([(qa false),jj,jj,(qa false),jj,jj]):=⟨_,zeroValue121,rfl⟩
theorem bn:DH prog 135 ([(Value.map none)]):=⟨_,zeroValue135,rfl⟩
theorem ZQ:DH prog 137 ([(vI 0),(vI 0)]):=⟨_,zeroValue137,rfl⟩
theorem br:DH prog 138 ([Value.nilFunc]):=⟨_,zeroValue138,rfl⟩
theorem WE:DH prog 240 ([(vI 0),(vI 0)]):=⟨_,zeroValue240,rfl⟩
theorem cK:DH prog 331 ([(Value.int .u8 (0:Int)),(Value.int .u8 (0:Int)),(Value.int .u8 (0:Int)),(Value.int .u8 (0:Int)),(Value.int .u8 (0:Int)),(Value.int .u8 (0:Int)),(Value.int .u8 (0:Int)),(Value.int .u8 (0:Int)),(Value.int .u8 (0:Int)),(Value.int .u8 (0:Int)),(Value.int .u8 (0:Int)),(Value.int .u8 (0:Int)),(Value.int .u8 (0:Int)),(Value.int .u8 (0:Int)),(Value.int .u8 (0:Int)),(Value.int .u8 (0:Int)),(Value.int .u8 (0:Int)),(Value.int .u8 (0:Int)),(Value.int .u8 (0:Int)),(Value.int .u8 (0:Int)),(Value.int .u8 (0:Int)),(Value.int .u8 (0:Int)),(Value.int .u8 (0:Int)),(Value.int .u8 (0:Int))]):=⟨_,zeroValue331,rfl⟩
end
section
set_option maxRecDepth 100000
theorem XG (b m c:Nat) (bs:List Nat) (hbs:W32 bs) (hm:m<=bs.length) (hc:m<=c) (hL:c<4611686018427387904) (w:World) (hb:w.heap[b]?=some (.cells (Ao bs).toArray 92 (0,0))):Calls prog 189 #[(qw (jk b) m c)] w (Ak w (qw (jk b) (ET bs m) c)):=by
 refine Ab (args:=[(qw (jk b) m c)]) func189 O O (Av O) (zN (sL [0] O) (q4 (asg' O (oNl' (q1 (zI ?_))))))
 refine zo (tg λ(k:Nat)=>k<=m/\ET bs k=ET bs m) (tg λ(k:Nat)=>[(2,jj),(0,(qw (jk b) k c))]) (tg λ(k:Nat)=>[]) (tg λ(k:Nat)=>k) m (⟨Nat.le_refl _,rfl⟩) (sF O) sr (λk hJ=>?_)
 obtain ⟨hk,hv⟩:=hJ
 refine zV (q4 (AM O (AG (v:=(vN k)) (AC O underlying255) O (AG (Bv (c:=(decide (0<k))) O O (CM (a:=0) (b:=k))) O (AM O ?_)))))
 refine zX (FM:=[(2,jj),(0,(qw (jk b) k c)),(3,(qw (jk b) k c)),(4,(vN k)),(5,(qa (decide (0<k)))),(6,(qa (decide (0<k)))),(14,(qa ((decide (0<k))&&(decide ((bs.getD (k-1) 0)=0)))))]) (LM:=[]) 8 ?_ ?_
 ·rcases xO (decide (0<k)) with hg1|hg1
  ·refine zC (k:=6) (u:=qa true) O (by rw [hg1]) ?_
   have hg1':=xR hg1
   refine Ds O (Ds O (Au (v:=(vN k)) O (AC O underlying255) (Au (v:=(vN (k-1))) O (BY (c:=((k-1:Nat):Int)) O O (CN (a:=k) (b:=1) Z Z)) (Au (v:=(pP b (k-1))) O (AO (j:=k-1) O O underlying255 sizeOf92 O Z jX) ?_))))
   have hx1:bs.getD (k-1) 0<4294967296:=W32.getD hbs (k-1)
   exact Au (v:=(vK .u32 (bs.getD (k-1) 0))) O (Bc (v:=(vK .u32 (bs.getD (k-1) 0))) O (λw' hw=>CA.at0 (hw.oldCA jX (FA hb)) (BH (xs:=bs) (j:=(k-1)) Z)) isAgg92) (Au (v:=(qa (decide ((bs.getD (k-1) 0)=0)))) O (BO (c:=(decide ((bs.getD (k-1) 0)=0))) O O (Mf (a:=bs.getD (k-1) 0) (b:=0))) (AG (v:=(qa (decide ((bs.getD (k-1) 0)=0)))) (AN O O) O (oNl' (zR Bg (xP _)))))
  ·refine zC (k:=6) (u:=qa false) O (by rw [hg1]) ?_
   have hg1':=xQ hg1
   exact Ar O (Ar O (Ar O (Ar O (Ar O (Ar O (Ar O (AG (v:=(qa false)) (AI O O) O (oNl' (zR Bg (xP _))))))))))
 refine oNl' (zB (sL [2,0,14] O) (zA ?_))
 refine zM O (λhc0=>?_) (λhc0=>?_)
 ·simp only [jK] at hc0
  refine zG (zA (zI (zH (AM O (AM O (AG (v:=(vN k)) (AC O underlying255) O (AG (BY (c:=((k-1:Nat):Int)) O O (CN (a:=k) (b:=1) Z Z)) O (AG (v:=(qw (jk b) (k-1) c)) (HO (m:=k-1) O O underlying255 sizeOf92 Z) O (asg' O (oNl' (zB (sL [2,0] O) ?_)))))))))))
  exact zJ (zc (k-1) (⟨Z,by rw [<-UP hc0.1 hc0.2];exact hv⟩) Z (sF O) sr)
 ·simp only [jK] at hc0
  have hstop:ET bs k=k:=Td Z
  exact zU (zP (za (zS (q2 (AM O (asg' O (oNl' (zB (sL [2,0] O) (zA (zF (ret_one O (rd_tmp (v:=(qw (jk b) k c)) O) (λw hw=>⟨by rw [<-hv,hstop],hw.out⟩))))))))))))
theorem LT (x y c:Nat) (hx:x<4294967296) (hy:y<4294967296) (hc:c<=1) (w:World)  :Calls prog 240 #[(vK .u32 x),(vK .u32 y),(vK .u32 c)] w (Ak w (Value.tuple #[(vK .u32 ((x+y+c)%4294967296)),(vK .u32 ((x+y+c)/4294967296))])):=by
 refine Ab (args:=[(vK .u32 x),(vK .u32 y),(vK .u32 c)]) func240 O O (Av O) (zN (sL [0,1,2] O) (q4 (asg' O (asg' O (oNl' (q2 (AM O (AG (A9 (c:=((x:Nat):Int)) O underlying92 underlying69 (BV Z)) O (AM O (AG (A9 (c:=((y:Nat):Int)) O underlying92 underlying69 (BV Z)) O (AG (AW (c:=((x+y:Nat):Int)) O O (Dz (a:=x) (b:=y) Z)) O ?_)))))))))))
 refine AM O (AG (A9 (c:=((c:Nat):Int)) O underlying92 underlying69 (BV Z)) O (AG (AW (c:=(((x+y)+c:Nat):Int)) O O (Dz (a:=x+y) (b:=c) Z)) O (asg' O (q3 (sL [6,7,8] O) (AM O (AG (A9 (c:=((((x+y)+c)%4294967296:Nat):Int)) O underlying69 underlying92 E3) O (asg' O (q3 (sL [6,7,8] O) (AM O (AG (DI (s:=32) (c:=((((x+y)+c)/4294967296:Nat):Int)) O O O jY (GY (a:=(x+y)+c) (s:=32))) O (AG (A9 (c:=((((x+y)+c)/4294967296:Nat):Int)) O underlying69 underlying92 (C_ Z)) O ?_)))))))))))
 exact asg' O (oNl' (zB (sL [6,7,8] O) (zA (zF (Dq O (rd_tmp (v:=(vK .u32 (((x+y)+c)%4294967296))) O) (rd_tmp (v:=(vK .u32 (((x+y)+c)/4294967296))) O) (λw hw=>⟨rfl,hw.out⟩))))))
theorem Lu (x y c d:Nat) (hx:x<4294967296) (hy:y<4294967296) (hc:c<=1) (hd:d=(x+(4294967296-y)+(4294967296-c))%4294967296) (w:World)  :Calls prog 244 #[(vK .u32 x),(vK .u32 y),(vK .u32 c)] w (Ak w (Value.tuple #[(vK .u32 d),(vK .u32 (Jl x (y+c)))])):=by
 have hd2:d<4294967296:=by omega
 have hb:=W_ hx hy hc hd
 have hx1:4294967295 ^^^ x<4294967296:=Nat.xor_lt_two_pow (n:=32) Z hx
 have hx2:x ^^^ y<4294967296:=Nat.xor_lt_two_pow (n:=32) hx hy
 have hx3:4294967295 ^^^ (x ^^^ y)<4294967296:=Nat.xor_lt_two_pow (n:=32) Z hx2
 have hx4:(4294967295 ^^^ x) &&& y<4294967296:=Nat.lt_of_le_of_lt Nat.and_le_right hy
 have hx5:(4294967295 ^^^ (x ^^^ y)) &&& d<4294967296:=Nat.lt_of_le_of_lt Nat.and_le_right hd2
 refine Ab (args:=[(vK .u32 x),(vK .u32 y),(vK .u32 c)]) func244 O O (Av O) (zN (sL [0,1,2] O) (q4 (asg' O (asg' O (oNl' (q2 (AM O (AM O (AG (BY (c:=(((x+(4294967296-y))%4294967296:Nat):Int)) O O (P7 Z)) O (AM O (AG (BY (c:=((d:Nat):Int)) O O (by rw [P7 Z,hd];exact congrArg Int.ofNat Z)) O ?_)))))))))))
 refine asg' O (q3 (sL [0,1,6,7] O) (AM O (AG (U3 (c:=((4294967295 ^^^ x:Nat):Int)) O (QQ hx)) O (AM O (AG (L3 (c:=(((4294967295 ^^^ x) &&& y:Nat):Int)) O O (PO hx1 hy)) O (AM O (AM O (AG (Z8 (c:=((x ^^^ y:Nat):Int)) O O (P4 hx hy)) O (AG (U3 (c:=((4294967295 ^^^ (x ^^^ y):Nat):Int)) O (QQ hx2)) O (AM O (AG (L3 (c:=(((4294967295 ^^^ (x ^^^ y)) &&& d:Nat):Int)) O O (PO hx3 hd2)) O ?_)))))))))))
 exact AG (Ji (c:=(((4294967295 ^^^ x) &&& y ||| (4294967295 ^^^ (x ^^^ y)) &&& d:Nat):Int)) O O (Kn hx4 hx5 O)) O (AG (DI (s:=31) (c:=((((4294967295 ^^^ x) &&& y ||| (4294967295 ^^^ (x ^^^ y)) &&& d)/2147483648:Nat):Int)) O O O jY (GY (a:=(4294967295 ^^^ x) &&& y ||| (4294967295 ^^^ (x ^^^ y)) &&& d) (s:=31))) O (asg' O (oNl' (zB (sL [0,1,6,7] O) (zA (zF (Dq O (rd_tmp (v:=(vK .u32 d)) O) (rd_tmp (v:=(vK .u32 (((4294967295 ^^^ x) &&& y ||| (4294967295 ^^^ (x ^^^ y)) &&& d)/2147483648))) O) (λw hw=>⟨by rw [<-hb],hw.out⟩))))))))
theorem WR (x y:Nat) (hx:x<18446744073709551616) (hy:y<18446744073709551616) (w:World)  :Calls prog 205 #[(vK .u64 x),(vK .u64 y)] w (Ak w (Value.tuple #[(vK .u64 (x*y/18446744073709551616)),(vK .u64 (x*y%18446744073709551616))])):=by
 have h1:=Lm (a:=x%4294967296) (b:=y%4294967296) Z Z
 have h2:=Lm (a:=x/4294967296) (b:=y%4294967296) Z Z
 have h3:=Lm (a:=x%4294967296) (b:=y/4294967296) Z Z
 have h4:=Lm (a:=x/4294967296) (b:=y/4294967296) Z Z
 have hh:=WX x y
 have hh2:x*y/18446744073709551616<18446744073709551616:=Nat.div_lt_of_lt_mul (Nat.mul_lt_mul'' hx hy)
 refine Ab (args:=[(vK .u64 x),(vK .u64 y)]) func205 O O (Av O) (zN (sL [0,1] O) (q4 (asg' O (asg' O (oNl' (q2 (AM O (AG (L3 (c:=((x%4294967296:Nat):Int)) O O (JM (a:=x) Z)) O (asg' O (q3 (sL [0,1,4,5,6] O) (AM O ?_)))))))))))
 refine AG (DI (s:=32) (c:=((x/4294967296:Nat):Int)) O O O jY (GY (a:=x) (s:=32))) O (asg' O (q3 (sL [0,1,4,5,6,7] O) (AM O (AG (L3 (c:=((y%4294967296:Nat):Int)) O O (JM (a:=y) Z)) O (asg' O (q3 (sL [0,1,4,5,6,7,8] O) (AM O (AG (DI (s:=32) (c:=((y/4294967296:Nat):Int)) O O O jY (GY (a:=y) (s:=32))) O (asg' O (q3 (sL [0,1,4,5,6,7,8,9] O) (AM O ?_)))))))))))
 refine AM O (AG (EV (c:=(((x%4294967296)*(y%4294967296):Nat):Int)) O O (Fa (a:=x%4294967296) (b:=y%4294967296) Z)) O (asg' O (q3 (sL [0,1,4,5,6,7,8,9,10] O) (AM O (AM O (AG (EV (c:=(((x/4294967296)*(y%4294967296):Nat):Int)) O O (Fa (a:=x/4294967296) (b:=y%4294967296) Z)) O (AM O (AG (DI (s:=32) (c:=((((x%4294967296)*(y%4294967296))/4294967296:Nat):Int)) O O O jY (GY (a:=(x%4294967296)*(y%4294967296)) (s:=32))) O (AG (AW (c:=((((x/4294967296)*(y%4294967296))+(((x%4294967296)*(y%4294967296))/4294967296):Nat):Int)) O O (Dz (a:=(x/4294967296)*(y%4294967296)) (b:=((x%4294967296)*(y%4294967296))/4294967296) Z)) O (asg' O (q3 (sL [0,1,4,5,6,7,8,9,11] O) ?_)))))))))))
 refine AM O (AG (L3 (c:=(((((x/4294967296)*(y%4294967296))+(((x%4294967296)*(y%4294967296))/4294967296))%4294967296:Nat):Int)) O O (JM (a:=((x/4294967296)*(y%4294967296))+(((x%4294967296)*(y%4294967296))/4294967296)) Z)) O (asg' O (q3 (sL [0,1,4,5,6,7,8,9,11,12] O) (AM O (AG (DI (s:=32) (c:=(((((x/4294967296)*(y%4294967296))+(((x%4294967296)*(y%4294967296))/4294967296))/4294967296:Nat):Int)) O O O jY (GY (a:=((x/4294967296)*(y%4294967296))+(((x%4294967296)*(y%4294967296))/4294967296)) (s:=32))) O (asg' O (q3 (sL [0,1,4,5,6,7,8,9,11,12,13] O) (AM O (AM O (AM O (AG (EV (c:=(((x%4294967296)*(y/4294967296):Nat):Int)) O O (Fa (a:=x%4294967296) (b:=y/4294967296) Z)) O ?_)))))))))))
 refine AG (AW (c:=((((((x/4294967296)*(y%4294967296))+(((x%4294967296)*(y%4294967296))/4294967296))%4294967296)+((x%4294967296)*(y/4294967296)):Nat):Int)) O O (Dz (a:=(((x/4294967296)*(y%4294967296))+(((x%4294967296)*(y%4294967296))/4294967296))%4294967296) (b:=(x%4294967296)*(y/4294967296)) Z)) O (asg' O (q3 (sL [0,1,4,5,6,7,8,9,11,12,13] O) (AM O (AM O (AG (EV (c:=(((x/4294967296)*(y/4294967296):Nat):Int)) O O (Fa (a:=x/4294967296) (b:=y/4294967296) Z)) O (AM O (AG (AW (c:=((((x/4294967296)*(y/4294967296))+((((x/4294967296)*(y%4294967296))+(((x%4294967296)*(y%4294967296))/4294967296))/4294967296):Nat):Int)) O O (Dz (a:=(x/4294967296)*(y/4294967296)) (b:=(((x/4294967296)*(y%4294967296))+(((x%4294967296)*(y%4294967296))/4294967296))/4294967296) Z)) O (AM O (AG (DI (s:=32) (c:=(((((((x/4294967296)*(y%4294967296))+(((x%4294967296)*(y%4294967296))/4294967296))%4294967296)+((x%4294967296)*(y/4294967296)))/4294967296:Nat):Int)) O O O jY (GY (a:=((((x/4294967296)*(y%4294967296))+(((x%4294967296)*(y%4294967296))/4294967296))%4294967296)+((x%4294967296)*(y/4294967296))) (s:=32))) O (AG (AW (c:=((x*y/18446744073709551616:Nat):Int)) O O (by rw [<-Int.natCast_add,hh];exact BV hh2)) O (asg' O ?_)))))))))))
 exact q3 (sL [0,1,4,5,6,7,8,9,11,12] O) (AM O (AM O (AG (EV (c:=((x*y%18446744073709551616:Nat):Int)) O O Vc) O (asg' O (oNl' (zB (sL [0,1,4,5,6,7,8,9,11,12] O) (zA (zF (Dq O (rd_tmp (v:=(vK .u64 (x*y/18446744073709551616))) O) (rd_tmp (v:=(vK .u64 (x*y%18446744073709551616))) O) (λw hw=>⟨rfl,hw.out⟩))))))))))
theorem Ug (hi lo y:Nat) (hh:hi<y) (hl:lo<4294967296) (hy:y<4294967296) (w:World)  :Calls prog 231 #[(vK .u32 hi),(vK .u32 lo),(vK .u32 y)] w (Ak w (Value.tuple #[(vK .u32 ((hi*4294967296+lo)/y)),(vK .u32 ((hi*4294967296+lo)%y))])):=by
 refine Ab (args:=[(vK .u32 hi),(vK .u32 lo),(vK .u32 y)]) func231 O O (Av O) (zN (sL [0,1,2] O) (q4 (asg' O (asg' O (oNl' (q1 (q4 (AM O (AG (Bt (c:=(decide (y≠0))) O O (bR (a:=y) (b:=0))) O (AM O ?_))))))))))
 refine zX (FM:=[(0,(vK .u32 hi)),(1,(vK .u32 lo)),(2,(vK .u32 y)),(6,(Value.int .u32 (0:Int))),(7,(Value.int .u32 (0:Int))),(9,(vK .u32 y)),(10,(qa (decide (y≠0)))),(11,(qa (decide (y≠0)))),(15,(qa ((decide (y≠0))&&(decide (y<=hi)))))]) (LM:=[]) 4 ?_ ?_
 ·rcases xO (decide (y≠0)) with hg1|hg1
  ·refine zC (k:=11) (u:=qa true) O (by rw [hg1]) ?_
   have hg1':=xR hg1
   exact Ds O (Ds O (Au (v:=(qa (decide (y<=hi)))) O (Gi (c:=(decide (y<=hi))) O O (UT (a:=y) (b:=hi))) (AG (v:=(qa (decide (y<=hi)))) (AN O O) O (oNl' (zR Bg (xP _))))))
  ·refine zC (k:=11) (u:=qa false) O (by rw [hg1]) ?_
   have hg1':=xQ hg1
   exact Ar O (Ar O (Ar O (AG (v:=(qa false)) (AI O O) O (oNl' (zR Bg (xP _))))))
 refine oNl' (zB (sL [0,1,2,6,7,15] O) (zA ?_))
 refine zM O (λhc0=>?_) (λhc0=>?_)
 ·simp only [jK] at hc0
  exfalso;omega
 ·simp only [jK] at hc0
  refine zG (q2 (AM O (AG (A9 (c:=((hi:Nat):Int)) O underlying92 underlying69 (BV Z)) O (AG (v:=(vK .u64 (hi*4294967296))) (Gy (s:=32) O O O jY (HB (s:=32) Z)) O (AM O (AG (A9 (c:=((lo:Nat):Int)) O underlying92 underlying69 (BV Z)) O (AG (Ji (c:=((hi*4294967296+lo:Nat):Int)) O O (KQ Z Z (by rw [Nat.or_comm,Nat.add_comm];exact IS (s:=32) Z))) O ?_)))))))
  have hq:(hi*4294967296+lo)/y<4294967296:=Nat.div_lt_of_lt_mul (by have h9:(hi+1)*4294967296<=y*4294967296:=Nat.mul_le_mul_right _ hh;omega)
  have hr:(hi*4294967296+lo)%y<y:=Nat.mod_lt _ Z
  refine asg' O (q6 (sL [0,2,6,7,8] O) (CQ (Db 12) sr (BT O (BT O (Aj O (A9 (c:=((y:Nat):Int)) O underlying92 underlying69 (BV Z)) (Aj O (Fc (c:=(((hi*4294967296+lo)/y:Nat):Int)) O O Z (I_ (a:=hi*4294967296+lo) (b:=y) Z)) (Aj O (A9 (c:=(((hi*4294967296+lo)/y:Nat):Int)) O underlying69 underlying92 (C_ Z)) (BT O (BT O (Aj O (A9 (c:=((y:Nat):Int)) O underlying92 underlying69 (BV Z)) (Aj O (Dh (c:=(((hi*4294967296+lo)%y:Nat):Int)) O O Z (L6 (a:=hi*4294967296+lo) (b:=y))) ?_)))))))))))
  exact Aj O (A9 (c:=(((hi*4294967296+lo)%y:Nat):Int)) O underlying69 underlying92 (C_ Z)) (pS' O (pS' O (zT (zB (sL [0,2,6,7] O) (zA (zF (Dq O (rd_tmp (v:=(vK .u32 ((hi*4294967296+lo)/y))) O) (rd_tmp (v:=(vK .u32 ((hi*4294967296+lo)%y))) O) (λw hw=>⟨rfl,hw.out⟩))))))))
theorem Um (x:Nat) (hx:x<4294967296) (w:World)  :Calls prog 254 #[(vK .u32 x)] w (Ak w (vN (bl x))):=by
 refine Ab (args:=[(vK .u32 x)]) func254 O O (Av O) (zN (sL [0] O) (q4 (asg' O (oNl' (q1 (q4 (AM O (AG (Bp (c:=(decide (65536<=x))) O O (UT (a:=65536) (b:=x))) O (oNl' (zB (sL [0,2,4] O) (zA ?_)))))))))))
 refine y8 (tg λ(u:Nat) (n:Nat)=>u<65536/\n<=16/\bl x=bl u+n) (tg λ(u:Nat) (n:Nat)=>[(0,(vK .u32 u)),(2,(vN n))]) (tg λ(u:Nat) (n:Nat)=>[]) ?_ ?_
 ·refine zM O (λhc0=>?_) (λhc0=>?_)
  ·replace hc0:=xR hc0
   exact q4 (AM O (AG (DI (s:=16) (c:=((x/65536:Nat):Int)) O O O jY (GY (a:=x) (s:=16))) O (asg' O (oNl' (zB (sL [0,2] O) (zA (zH (asg' O (oNl' (yY (x/65536) 16 (⟨Z,Z,O4 (k:=16) hc0⟩) (sF O) sr))))))))))
  ·replace hc0:=xQ hc0
   exact zG (yY x 0 (⟨Z,Z,rfl⟩) (sF O) sr)
 ·intro u n hJ
  obtain ⟨hu,hn,hv⟩:=hJ
  refine q1 (q4 (AM O (AG (Bp (c:=(decide (256<=u))) O O (UT (a:=256) (b:=u))) O (oNl' (zB (sL [0,2,8] O) (zA ?_))))))
  refine y8 (tg λ(u2:Nat) (n2:Nat)=>u2<256/\n2<=24/\bl x=bl u2+n2) (tg λ(u2:Nat) (n2:Nat)=>[(0,(vK .u32 u2)),(2,(vN n2))]) (tg λ(u2:Nat) (n2:Nat)=>[]) ?_ ?_
  ·refine zM O (λhc1=>?_) (λhc1=>?_)
   ·replace hc1:=xR hc1
    refine q4 (AM O (AG (DI (s:=8) (c:=((u/256:Nat):Int)) O O O jY (GY (a:=u) (s:=8))) O (asg' O (oNl' (zB (sL [0,2] O) (zA (zH (AM O (AG (AW (c:=((n+8:Nat):Int)) O O (AU (a:=n) (b:=8) Z)) O (asg' O (oNl' ?_)))))))))))
    exact zB (sL [0,2] O) (yY (u/256) (n+8) (⟨Z,Z,by rw [hv,aK hc1];omega⟩) (sF O) sr)
   ·replace hc1:=xQ hc1
    exact zG (yY u n (⟨Z,Z,hv⟩) (sF O) sr)
  ·intro u2 n2 hJ
   obtain ⟨hu2,hn2,hv2⟩:=hJ
   refine q2 (AM O (AM O (AG (A9 (c:=((u2:Nat):Int)) O underlying92 underlying5 (Ph Z)) O ?_)))
   have hb8:bl u2<=8:=VW (k:=8) hu2
   exact AG (v:=(vK .u8 (bl u2))) (Iy (j:=u2) (m:=bl u2) O O underlying9 (Z1 jV hu2) Z) O (AG (A9 (c:=((bl u2:Nat):Int)) O underlying5 underlying3 (FQ Z)) O (AG (AW (c:=((bl x:Nat):Int)) O O (by rw [hv2,Int.add_comm,<-Int.natCast_add];exact FQ Z)) O (asg' O (oNl' (zB (sL [0,2] O) (zA (zF (ret_one O (rd_tmp (v:=(vN (bl x))) O) (λw hw=>⟨rfl,hw.out⟩)))))))))
theorem X_ (x:Nat) (hx:x<4294967296) (w:World)  :Calls prog 272 #[(vK .u32 x)] w (Ak w (vN (32-bl x))):=by
 have hb:=VW (k:=32) hx
 refine Ab (args:=[(vK .u32 x)]) func272 O O (Av O) (zN (sL [0] O) (q4 (asg' O (oNl' (q2 (AM O (ck' call254 (Um _ Z) O (AG (BY (c:=((32-(bl x):Nat):Int)) O O (CN (a:=32) (b:=bl x) Z Z)) O (asg' O (oNl' (zB (sL [2] O) ?_)))))))))))
 exact zA (zF (ret_one O (rd_tmp (v:=(vN (32-(bl x)))) O) (λw hw=>⟨rfl,hw.out⟩)))
theorem Xv (z:Int) (hz:-9223372036854775808<=z) (hz2:z<9223372036854775808) (w:World)  :Calls prog 296 #[(vI z)] w (Ak w (vI z.sign)):=by
 refine Ab (args:=[(vI z)]) func296 O O (Av O) (zN (sL [0] O) (q4 (asg' O (oNl' (q2 (AM O (AG (FS (c:=(if z<1 then z else 1)) O O O) O (AG (Eu (c:=z.sign) O O (VR z)) O (asg' O (oNl' (zB (sL [2] O) ?_)))))))))))
 exact zA (zF (ret_one O (rd_tmp (v:=(vI z.sign)) O) (λw hw=>⟨rfl,hw.out⟩)))
end
section
section
variable {P:Program} {n:Nat} {F:List (Nat×Value)} {w0:BC} {L:List As} {x y:Operand} {d:Option Tmp} {t:TypeId} {p:String} {af:Array Edge} {g:Option (Nat×Bool)}
def H0 (P:Program) (D:Nat) (T:TypeId) (u v:Value) (b:Bool):Prop:=∀w,(Op.equalIn D T u v).run P w=.ok b w
def Sl (P:Program) (D:Nat) (xs ys:List Value) (fs:List Field) (b:Bool):Prop:=∀w,(Op.eqFields D xs.toArray ys.toArray fs).run P w=.ok b w
theorem H0.int {D:Nat} {T:TypeId} {k k':IntKind} {a b:Int} (h:P.underlying T=some (.int k')):H0 P (D+1) T (.int k a) (.int k b) (a == b):=λw=>run_equalIn_int w D T k k' a b h
theorem H0.bool {D:Nat} {T:TypeId} {a b:Bool} (h:P.underlying T=some .bool):H0 P (D+1) T (.bool a) (.bool b) (a == b):=λw=>run_equalIn_bool' w D T a b h
theorem H0.str {D:Nat} {T:TypeId} {a b:ByteArray} (h:P.underlying T=some .string):H0 P (D+1) T (.string a) (.string b) (a.toList == b.toList):=λw=>run_equalIn_string w D T a b h
theorem H0.struct {D:Nat} {T:TypeId} {xs ys:List Value} {b:Bool} {fs:Array Field} (hu:P.underlying T=some (.struct fs)) (hp:P.stoodInHeld T=false) (h:Sl P D xs ys fs.toList b):H0 P (D+1) T (.agg xs.toArray) (.agg ys.toArray) b:=λw=>by
  have e:P.fieldsOf T=fs:=by simp [Program.fieldsOf,hu]
  rw [run_equalIn_struct w D T _ _ (by rw [e];exact hu) hp,e];exact h w
theorem Sl.nil {D:Nat} {xs ys:List Value}:Sl P D xs ys [] true:=λw=>rfl
theorem Sl.one {D : Nat} {xs ys : List Value} {f : Field} {fs : List Field} {a b : Value} {r s : Bool} (hn : f.name ≠ "_") (hg : ∀ w, (isAgg f.type).run P w = .ok false w) (ha : xs[f.offset]? = some a) (hb : ys[f.offset]? = some b)
    (h:H0 P D f.type a b r) (h2:Sl P D xs ys fs s):Sl P D xs ys (f::fs) (r&&s):=λw=>by
  have e1:(part f.type xs.toArray f.offset).run P w=.ok a w:=by simp [part,hg,ha]
  have e2:(part f.type ys.toArray f.offset).run P w=.ok b w:=by simp [part,hg,hb]
  simp only [Op.eqFields,Sem.run_ite,if_pos hn,Sem.run_bind,e1,e2,Result.andThen_ok,h w]
  cases r
  · simp
  · simp [h2 w]
theorem Sl.agg {D k : Nat} {xs ys us bs : List Value} {f : Field} {fs : List Field} {r s : Bool} (hn : f.name ≠ "_") (hg : ∀ w, (isAgg f.type).run P w = .ok true w) (hs : ∀ w, (sizeOf f.type).run P w = .ok k w)
    (ha:(xs.drop f.offset).take k=us) (hb:(ys.drop f.offset).take k=bs)
    (h:H0 P D f.type (.agg us.toArray) (.agg bs.toArray) r) (h2:Sl P D xs ys fs s):Sl P D xs ys (f::fs) (r&&s):=λw=>by
  have ex:∀l:List Value,l.toArray.extract f.offset (f.offset+k)=((l.drop f.offset).take k).toArray:=λl=>by simp [List.extract_eq_take_drop]
  have e1:(part f.type xs.toArray f.offset).run P w=.ok (.agg us.toArray) w:=by simp [part,hg,hs,ex,ha]
  have e2:(part f.type ys.toArray f.offset).run P w=.ok (.agg bs.toArray) w:=by simp [part,hg,hs,ex,hb]
  simp only [Op.eqFields,Sem.run_ite,if_pos hn,Sem.run_bind,e1,e2,Result.andThen_ok,h w]
  cases r
  · simp
  · simp [h2 w]
theorem CT {xs ys:List Value} {c:Bool} {tx ty:TypeId} (hx:evF F x=some (.agg xs.toArray)) (hy:evF F y=some (.agg ys.toArray)) (hg:P.eqGuardType P.depth tx=false) (hc:H0 P 10000 tx (.agg xs.toArray) (.agg ys.toArray) c) :
    Ex P n F w0 L ⟨d,.binOp .eql tx x y ty,t,p,af,g⟩ (.bool c):=λA w ha _=>by
  simp only [execOp,ha.ev hx,ha.ev hy,Sem.run_bind,run_eqGuard_agg w .eql tx x y _ _ hg,Result.andThen_ok,run_eql_struct,hc w,Sem.run_pure]
theorem Q8 {xs ys:List Value} {c:Bool} {tx ty:TypeId} (hx:evF F x=some (.agg xs.toArray)) (hy:evF F y=some (.agg ys.toArray)) (hg:P.eqGuardType P.depth tx=false) (hc:H0 P 10000 tx (.agg xs.toArray) (.agg ys.toArray) c) :
    Ex P n F w0 L ⟨d,.binOp .neq tx x y ty,t,p,af,g⟩ (.bool (!c)):=λA w ha _=>by
  simp only [execOp,ha.ev hx,ha.ev hy,Sem.run_bind,run_eqGuard_agg w .neq tx x y _ _ hg,Result.andThen_ok,run_neq_struct,hc w,Sem.run_pure]
end
theorem Wo {a b:Nat} (ha:¬a<18446744073709551616) (hb:¬b<18446744073709551616) (h:Bo a=Bo b):a=b:=by
  rw [Fe ha,Fe hb] at h
  have h1:bytesN (AP a)=bytesN (AP b):=by
    have lt:∀(xs:List Nat),∀x∈bytesN xs,x<256:=λxs x hx=>by
      simp only [bytesN,List.mem_flatMap,xL,List.not_mem_nil,or_false] at hx
      obtain ⟨y,_,hy⟩:=hx
      omega
    have inj:∀(l r:List Nat),(∀x∈l,x<256)->(∀x∈r,x<256)->l.map UInt8.ofNat=r.map UInt8.ofNat->l=r:=by
      intro l
      induction l with
      | nil=>intro r _ _ h;cases r<;>simp_all
      | cons x l ih =>
        intro r hl hr h
        cases r with
        | nil=>simp at h
        | cons y r =>
          simp only [List.map_cons,List.cons.injEq] at h
          have e:x=y:=by
            have h3:=congrArg UInt8.toNat h.1
            have h4:=hl x jX
            have h5:=hr y jX
            simp at h3
            omega
          rw [e,ih r (λz hz=>hl z (by simp [hz])) (λz hz=>hr z (by simp [hz])) h.2]
    refine inj _ _ (lt _) (lt _) ?_
    have:=congrArg (λs:ByteArray=>s.data.toList) h
    simpa [Di] using this
  have h2:AP a=AP b:=by
    have hl:(AP a).length=(AP b).length:=by
      have:=congrArg List.length h1
      simp only [CK] at this
      omega
    apply List.ext_getElem hl
    intro i hi hi'
    have g:∀k,k<4->(AP a).getD i 0/256^k%256=(AP b).getD i 0/256^k%256:=λk hk=>by rw [<-GT _ _ _ hi hk,<-GT _ _ _ hi' hk,h1]
    have wa:=(By a).getD i
    have wb:=(By b).getD i
    have ea:(AP a).getD i 0=(AP a)[i]:=by simp [hi]
    have eb:(AP b).getD i 0=(AP b)[i]:=by simp [hi']
    rw [ea,eb] at g
    rw [ea] at wa
    rw [eb] at wb
    have g0:=g 0 Z
    have g1:=g 1 Z
    have g2:=g 2 Z
    have g3:=g 3 Z
    simp only [Nat.pow_zero,Nat.div_one,Nat.pow_one,show (256:Nat)^2=65536 from rfl,show (256:Nat)^3=16777216 from rfl] at g0 g1 g2 g3
    omega
  rw [<-Cs a,<-Cs b,h2]
theorem Ye (a b:Nat):((((CF a:Nat):Int) == ((CF b:Nat):Int))&&(((Bo a).toList == (Bo b).toList)&&true))=decide (a=b):=by
  by_cases e:a=b
  · subst e;simp
  · rw [xx e]
    by_cases ha:a<18446744073709551616
    · by_cases hb:b<18446744073709551616
      · rw [Bl ha,Bl hb]
        have:((a:Int) == (b:Int))=false:=by simp;omega
        rw [this];rfl
      · have h1:=Q7 hb
        rw [IK ha,<-beq_toListBytes]
        have:(ByteArray.empty == Bo b)=false:=by
          rw [beq_toListBytes,ByteArray.toList_eq,ByteArray.toList_eq,Fe hb]
          cases hl:(Di (bytesN (AP b))).data.toList with
          | nil =>
            have h3:=congrArg List.length hl
            simp [Di,CK] at h3
            unfold nw at h1
            omega
          | cons=>rfl
        rw [this];simp
    · by_cases hb:b<18446744073709551616
      · have h1:=Q7 ha
        rw [IK hb,<-beq_toListBytes]
        have:(Bo a == ByteArray.empty)=false:=by
          rw [beq_toListBytes,ByteArray.toList_eq,ByteArray.toList_eq,Fe ha]
          cases hl:(Di (bytesN (AP a))).data.toList with
          | nil =>
            have h3:=congrArg List.length hl
            simp [Di,CK] at h3
            unfold nw at h1
            omega
          | cons=>rfl
        rw [this];simp
      · rw [<-beq_toListBytes]
        have:(Bo a == Bo b)=false:=by
          cases hbb:Bo a == Bo b with
          | false=>rfl
          | true =>
            rw [beq_toListBytes] at hbb
            have h2:(Bo a).toList=(Bo b).toList:=by simpa using hbb
            rw [ByteArray.toList_eq,ByteArray.toList_eq] at h2
            have h3:Bo a=Bo b:=by
              cases hA:Bo a with|mk da=>cases hB:Bo b with|mk db =>
                rw [hA,hB] at h2
                congr 1
                exact Array.toList_inj.1 h2
            exact absurd (Wo ha hb h3) e
        rw [this];simp
theorem I1 (D a b:Nat):H0 prog (D+2) 71 (.agg (Aa a).toArray) (.agg (Aa b).toArray) (decide (a=b)):=by
  rw [<-Ye]
  exact H0.struct underlying71 Tryz.stoodInHeld71 (Sl.one jY isAgg69 O O (H0.int underlying69) (Sl.one jY isAgg9 O O (H0.str underlying9) Sl.nil))
end
section
set_option maxRecDepth 100000
theorem KU (n:Nat) (hn:n<18446744073709551616) (w:World)  :Calls prog 172 #[(vK .u64 n)] w (Ak w (aG (Aa n))):=by
 refine Ab (args:=[(vK .u64 n)]) func172 O O (Av O) (zN (sL [0] O) (q4 (al Gf O λb1=>oNl' (q2 (AM O (AG (v:=(aG ([(vK .u64 n),(Value.string (Bo 0))]))) (AT (zs:=Aa 0) (vs:=[(vK .u64 n),(Value.string (Bo 0))]) (pv:=[(0,(vK .u64 n))]) (places:=[(0,1),(1,1)]) zeroValue71 underlying71 (λw=>by simp [sizeOf9,sizeOf69]) O O) O (zC (k:=4) (u:=(aG (Aa n))) O (by rw [EI hn];rfl) (Ax O sizeOf71 O (oNl' (zB (sL [2] O) ?_))))))))))
 exact zA (zF (ret_one O (Ai (i:=0) (cs:=Aa n) O O isAgg71 sizeOf71 O) (λw hw=>⟨rfl,hw.out⟩)))
theorem Mk  :Instr.fill ([(0,1),(1,1)].toArray[·]?) (Aa 0).toArray []=some (Aa 0).toArray:=by kernel_rfl
theorem R9 (a:Nat) (w:World)  :Calls prog 241 #[(aG (Aa a))] w (Ak w (qa (decide (a=0)))):=by
 refine Ab (args:=[(aG (Aa a))]) func241 O O (Av O) (zN (sL [0] O) (q4 (Bb (cs:=Aa a) O λb1=>asg' O (q3 (sL [1,2] O) (BD 0 CD O (AG (v:=(aG (Aa 0))) (AT (zs:=Aa 0) (vs:=Aa 0) (pv:=[]) (places:=[(0,1),(1,1)]) zeroValue71 underlying71 (λw=>by simp [sizeOf9,sizeOf69]) O (Mk )) O (AG (CT (c:=(decide (a=0))) O O eqGuardType71 (I1 9998 a 0)) O (asg' O (oNl' (zB (sL [2] O) ?_))))))))))
 exact zA (zF (ret_one O (rd_tmp (v:=(qa (decide (a=0)))) O) (λw hw=>⟨rfl,hw.out⟩)))
theorem Dc (v:Nat) (hv:nw v<=1099511627776) (w:World)  :Calls prog 187 #[(aG (Aa v))] w (λe w'=>∃b,e=.returned (.slice (jk b) (nw v) (A8 v).length)/\Gx w.heap.size w w'/\w.heap.size<=b/\w'.heap[b]?=some (.cells (Ao (A8 v)).toArray 92 (0,0))):=by
 refine Ab (args:=[(aG (Aa v))]) func187 O O (Av O) (zN (sL [0] O) (q4 (Bb (cs:=Aa v) O λb1=>asg' O (q6 (sL [1,2] O) (q4 (AG (v:=(pP b1 1)) (AA O underlying71 O sizeOf9 O) O (Az 0 (Value.string (Bo v)) UV O (AG (Bq (c:=(decide (v<18446744073709551616))) O O C1) O (oNl' (zB (sL [1,2,8] O) ?_))))))))))
 refine zA ?_
 refine zM O (λhc0=>?_) (λhc0=>?_)
 ·replace hc0:=xR hc0
  refine q4 (AG (v:=(pP b1 0)) (AA O underlying71 O sizeOf69 O) O (Az 0 (vK .u64 (CF v)) HH O (zC (k:=10) (u:=(vK .u64 v)) O (by rw [Bl hc0]) (AG (A9 (c:=((v%4294967296:Nat):Int)) O underlying69 underlying92 E3) O (AG (v:=(pP b1 0)) (AA O underlying71 O sizeOf69 O) O (Az 0 (vK .u64 (CF v)) HH O (zC (k:=13) (u:=(vK .u64 v)) O (by rw [Bl hc0]) (AG (DI (s:=32) (c:=((v/4294967296:Nat):Int)) O O O jY (GY (a:=v) (s:=32))) O (AG (A9 (c:=((v/4294967296:Nat):Int)) O underlying69 underlying92 (C_ Z)) O (zZ (V:=λb2=>(qw (jk b2) 2 2)) (T:=92) (cs:=Ao ([v%4294967296,v/4294967296])) (AJ O) (Af (cs:=Ao ([v%4294967296,v/4294967296])) (pv:=[(0,(vK .u32 (v%4294967296))),(1,(vK .u32 (v/4294967296)))]) underlying255 sizeOf92 zeroValue92 jY jY O jV) O (Av O) λb2=>Ct call189 (λw hw=>XG _ 2 2 ([v%4294967296,v/4294967296]) (W32.cons Z (W32.cons Z (W32.nil))) jX jX (by simp;try omega) w (hw.get (i:=0) O)) O ?_))))))))))
  refine asg' O (oNl' (zB (sL [1,2] O) (zA (zF (zO ?_)))))
  have hpad:A8 v=[v%4294967296,v/4294967296]:=by simp [A8,hc0]
  have hnw:nw v=ET [v%4294967296,v/4294967296] 2:=by rw [<-Rb (ZH hc0) (m:=2) jX,<-SE v,hpad];simp [val];congr 1;omega
  have hret:∀b:Nat,(Ending.returned (qw (jk b) (ET ([v%4294967296,v/4294967296]) 2) 2))=.returned (qw (jk b) (nw v) (A8 v).length):=λb=>by rw [hnw,hpad];rfl
  replace hret:=hret b2
  have hcells:(some (Obj.cells (Ao ([v%4294967296,v/4294967296])).toArray 92 (0,0)))=some (Obj.cells (Ao (A8 v)).toArray 92 (0,0)):=by rw [hpad]
  exact ret_one O (rd_tmp (v:=(qw (jk b2) (ET ([v%4294967296,v/4294967296]) 2) 2)) O) (λw hw=>⟨b2,hret,hw.out,hw.fresh (i:=0) O,(hw.get (i:=0) O).trans hcells⟩)
 ·replace hc0:=xQ hc0
  refine zG (q2 (AG (v:=(pP b1 1)) (AA O underlying71 O sizeOf9 O) O (Az 0 (Value.string (Bo v)) UV O (AG (v:=(vN ((Bo v).size))) (Mq O underlying9) O (zC (k:=20) (u:=(vN (4*nw v))) O (by rw [Fe hc0,Ly,CK];rfl) (AG (Fc (c:=(((4*nw v)/4:Nat):Int)) O O Z (Fb (a:=4*nw v) (b:=4) Z)) O (zC (k:=21) (u:=(vN (nw v))) O (by rw [Nat.mul_div_cancel_left _ Z]) (zZ (V:=λb2=>(qw (jk b2) (nw v) (nw v))) (T:=92) (cs:=Ao (List.replicate (nw v) 0)) (AJ O) (Dg (m:=nw v) (c:=nw v) O O Z Z) O (Av O) λb2=>asg' O (q6 (sL [1,2,3] O) (q4 ?_))))))))))
  refine AM O (AG (v:=(vN (nw v))) (AC O underlying255) O (AM O (oNl' (zB (sL [1,2,3,24,25] O) (zA (zI ?_))))))
  refine yA (tg λ(i:Nat) (os:List Nat)=>i<=nw v/\os.length=nw v/\os.take i=(AP v).take i/\∀j,i<=j->os.getD j 0=0) (tg λ(i:Nat) (os:List Nat)=>[(1,(pP b1 0)),(2,jj),(3,(qw (jk b2) (nw v) (nw v))),(24,(vN (nw v))),(25,(vN i))]) (tg λ(i:Nat) (os:List Nat)=>[AR b2 92 (Ao os),AR b1 71 (Aa v)]) (tg λ(i:Nat) (os:List Nat)=>nw v-i) 0 (List.replicate (nw v) 0) (⟨xH _,by simp,by simp,λj _=>by simp [List.getD_eq_getElem?_getD,List.getElem?_replicate];split<;>rfl⟩) (sF O) sr (λi os hJ=>?_)
  obtain ⟨hin,hl,ht,h0⟩:=hJ
  refine q4 (AG (Ae (c:=(decide (i<(nw v)))) O O (CM (a:=i) (b:=nw v))) O (oNl' (q1 ?_)))
  refine zM O (λhc1=>?_) (λhc1=>?_)
  ·replace hc1:=xR hc1
   refine zG (q1 (zI (q4 (AM O (asg' O (q3 (sL [1,2,3,24,25,4] O) (AM O (oNl' (zA (zI ?_))))))))))
   refine yA (tg λ(k:Nat) (xs:List Nat)=>k<=4/\xs=os.set i ((AP v).getD i 0%256^k)) (tg λ(k:Nat) (xs:List Nat)=>[(1,(pP b1 0)),(2,jj),(3,(qw (jk b2) (nw v) (nw v))),(24,(vN (nw v))),(25,(vN i)),(4,(vN i)),(28,(vN k))]) (tg λ(k:Nat) (xs:List Nat)=>[AR b2 92 (Ao xs),AR b1 71 (Aa v)]) (tg λ(k:Nat) (xs:List Nat)=>4-k) 0 os (⟨Z,by rw [Nat.pow_zero,Nat.mod_one];exact Vk (h0 i (Nat.le_refl _))⟩) (sF O) sr (λk xs hJ=>?_)
   obtain ⟨hk,hxs⟩:=hJ
   refine q4 (AG (Ae (c:=(decide (k<4))) O O (CM (a:=k) (b:=4))) O (oNl' (q1 ?_)))
   refine zM O (λhc2=>?_) (λhc2=>?_)
   ·replace hc2:=xR hc2
    refine zG (q1 (zI (q4 (AM O (asg' O (oNl' (zB (sL [1,2,3,24,25,4,28,5] O) (zA (CQ [(0,true),(1,true),(2,true),(4,true),(5,true),(6,true),(7,true),(8,true),(9,true),(10,true),(11,true),(12,true),(13,true),(14,true),(3,false),(15,true),(16,true),(17,false)] (sl sr) ?_)))))))))
    have hi:i<nw v:=hc1
    have hxi:xs.getD i 0=(AP v).getD i 0%256^k:=by rw [hxs];simp [hl,hi]
    have hxl:xs.length=nw v:=by rw [hxs];simp [hl]
    have hby:(AP v).getD i 0/256^k%256<256:=Nat.mod_lt _ Z
    have hget:(Bo v)[4*i+k]?=some (UInt8.ofNat ((AP v).getD i 0/256^k%256)):=by rw [Fe hc0,TI (by rw [CK];show 4*i+k<4*nw v;omega),GT _ _ _ hi hc2]
    have hw32:xs.getD i 0<4294967296:=by rw [hxi];exact Nat.lt_of_le_of_lt (Nat.mod_le _ _) ((By v).getD i)
    refine BT O (BT O (Aj (v:=(pP b2 i)) O (AO (j:=i) O O underlying255 sizeOf92 O Z jX) (Aj (v:=(pP b1 1)) O (AA O underlying71 O sizeOf9 O) (Be 0 (Value.string (Bo v)) UV O (BT O (Aj O (EV (c:=((4*i:Nat):Int)) O O (GC (a:=4) (b:=i) Z)) (BT O (Aj O (AW (c:=(((4*i)+k:Nat):Int)) O O (AU (a:=4*i) (b:=k) Z)) (Aj (v:=(vK .u8 ((AP v).getD i 0/256^k%256))) O (Iy (j:=4*i+k) (m:=(AP v).getD i 0/256^k%256) O O underlying9 hget hby) (Aj O (A9 (c:=(((AP v).getD i 0/256^k%256:Nat):Int)) O underlying5 underlying92 (C_ Z)) (BT O ?_)))))))))))
    refine Aj O (EV (c:=((8*k:Nat):Int)) O O (GC (a:=8) (b:=k) Z)) (Aj (v:=(vK .u32 ((AP v).getD i 0/256^k%256*2^(8*k)))) O (Gy (s:=8*k) O O O (show 8*k<=32 by omega) (Vs (Sd hc2))) (zK O (AG (AE (i:=0) (v:=(vK .u32 (xs.getD i 0))) O O isAgg92 (BH (xs:=xs) (j:=i) Z)) O (zD (sl sr) (Aj O (Ji (c:=(((AP v).getD i 0%256^(k+1):Nat):Int)) O O (Kn hw32 (Sd hc2) (UC hxi))) (Aj (v:=(pP b2 i)) O (AO (j:=i) O O underlying255 sizeOf92 O Z jX) (zK O (zw (i:=0) (off:=i) (vs:=[(vK .u32 ((AP v).getD i 0%256^(k+1)))]) (cs':=Ao (xs.set i ((AP v).getD i 0%256^(k+1)))) (L':=[AR b2 92 (Ao (xs.set i ((AP v).getD i 0%256^(k+1)))),AR b1 71 (Aa v)]) (AJ O) O O O O O sizeOf92 O (C7 (BW _) Z) (CZ Z) O (zD (sl sr) (zT (zB (sL [1,2,3,24,25,4,28] O) ?_)))))))))))
    exact zJ (zA (zH (AG (AW (c:=((k+1:Nat):Int)) O O (AU (a:=k) (b:=1) Z)) O (AM O (oNl' (zB (sL [1,2,3,24,25,4,28] O) (zn (k+1) (xs.set i ((AP v).getD i 0%256^(k+1))) (⟨Z,by rw [hxs,List.set_set]⟩) Z (sF O) sr)))))))
   ·replace hc2:=xQ hc2
    refine zU (zP (zi (zS (zJ (zA (zH (AG (AW (c:=((i+1:Nat):Int)) O O (AU (a:=i) (b:=1) Z)) O (AM O (oNl' (zB (sL [1,2,3,24,25,4,28] O) ?_))))))))))
    have hst:=RY (ws:=AP v) (xs:=xs) hl rfl hc1 ht h0 (by rw [hxs,show k=4 by omega];congr 1;exact Nat.mod_eq_of_lt ((By v).getD i))
    exact zn (i+1) xs (⟨Z,hst.1,hst.2.1,hst.2.2⟩) Z (sF O) sr
  ·replace hc1:=xQ hc1
   refine zU (zP (zi (zS (q2 (AM O (asg' O (oNl' (zB (sL [1,2,3,24,25] O) (zA (zF ?_))))))))))
   have hpad:A8 v=AP v:=by simp [A8,hc0]
   have hos:os=AP v:=U6 hl rfl hc1 ht
   have hret:∀b:Nat,(Ending.returned (qw (jk b) (nw v) (nw v)))=.returned (qw (jk b) (nw v) (A8 v).length):=λb=>by rw [hpad];rfl
   replace hret:=hret b2
   have hcells:(some (Obj.cells (Ao os).toArray 92 (0,0)))=some (Obj.cells (Ao (A8 v)).toArray 92 (0,0)):=by rw [hpad,hos]
   exact ret_one O (rd_tmp (v:=(qw (jk b2) (nw v) (nw v))) O) (λw hw=>⟨b2,hret,hw.out,hw.fresh (i:=0) O,(hw.get (i:=0) O).trans hcells⟩)
end
section
set_option maxRecDepth 100000
theorem J0 (b m c:Nat) (bs:List Nat) (hbs:W32 bs) (hm:m<=bs.length) (hc:m<=c) (hL:c<4398046511104) (w:World) (hb:w.heap[b]?=some (.cells (Ao bs).toArray 92 (0,0))):Calls prog 206 #[(qw (jk b) m c)] w (Ak w (aG (Aa (val (bs.take m))))):=by
 have hle:=KW bs m
 have hval:=K7 bs m
 have hwd:=JX hbs hm
 have hnw:=Rb hbs hm
 generalize hK:ET bs m=K at *
 refine Ab (args:=[(qw (jk b) m c)]) func206 O O (Av O) (zN (sL [0] O) (q4 (al Gf O λb1=>oNl' (q2 (AM O (Ct call189 (λw hw=>XG _ m c bs hbs Z Z Z w (hw.old jX hb)) O (zC (k:=10) (u:=(qw (jk b) K c)) O (by rw [hK]) (asg' O (q6 (sL [0,2] O) (q4 ?_))))))))))
 refine AM O (AG (v:=(vN K)) (AC O underlying255) O (AG (Gi (c:=(decide (K<=2))) O O (UT (a:=K) (b:=2))) O (oNl' (zB (sL [0,2,13] O) (zA ?_)))))
 refine zM O (λhc0=>?_) (λhc0=>?_)
 ·replace hc0:=xR hc0
  refine q4 (asg' O (oNl' (q1 (q4 (AM O (AG (v:=(vN K)) (AC O underlying255) O (AM O (oNl' (zA (zI ?_))))))))))
  refine yA (tg λ(i:Nat) (n:Nat)=>i<=K/\n=val (bs.take i)) (tg λ(i:Nat) (n:Nat)=>[(0,(qw (jk b) K c)),(2,(pP b1 0)),(14,(qw (jk b) K c)),(15,(vN K)),(16,(vN i)),(3,(vK .u64 n))]) (tg λ(i:Nat) (n:Nat)=>[AR b1 71 (Aa 0)]) (tg λ(i:Nat) (n:Nat)=>K-i) 0 0 (⟨xH _,by simp [val]⟩) (sF O) sr (λi n hJ=>?_)
  obtain ⟨hi,hn⟩:=hJ
  refine q4 (AG (Ae (c:=(decide (i<K))) O O (CM (a:=i) (b:=K))) O (oNl' (q1 ?_)))
  refine zM O (λhc1=>?_) (λhc1=>?_)
  ·replace hc1:=xR hc1
   refine zG (q1 (zI (q4 (AM O (AG (v:=(pP b i)) (AO (j:=i) O O underlying255 sizeOf92 O Z jX) O ?_)))))
   have hx1:bs.getD i 0<4294967296:=W32.getD hbs i
   refine AG (Bc (v:=(vK .u32 (bs.getD i 0))) O (λw' hw=>CA.at0 (hw.oldCA jX (FA hb)) (BH (xs:=bs) (j:=i) Z)) isAgg92) O (asg' O (asg' O (oNl' (zB (sL [0,2,14,15,16,3,4,5] O) (zA (zH (AM O (AM O (AG (A9 (c:=((bs.getD i 0:Nat):Int)) O underlying92 underlying69 (BV Z)) O (AM O ?_))))))))))
   have hiK:i<K:=hc1
   have hi2:i<2:=by omega
   have hn2:n<4294967296^i:=by rw [hn];exact Nat.lt_of_lt_of_le (G7 (hbs.take i)) (Nat.pow_le_pow_right Z (by simp;omega))
   have hsh:=Uo (i:=i) (hbs.getD i) hi2
   have hn3:n<18446744073709551616:=T_ hn2 hi2
   refine AG (EV (c:=((32*i:Nat):Int)) O O (GC (a:=32) (b:=i) Z)) O (AG (v:=(vK .u64 (bs.getD i 0*2^(32*i)))) (Gy (s:=32*i) O O O (show 32*i<=64 by omega) (HB hsh)) O (AG (Ji (c:=((n+bs.getD i 0*2^(32*i):Nat):Int)) O O (KQ hn3 hsh (IS (by rw [<-ZS];exact hn2)))) O (asg' O (oNl' (zB (sL [0,2,14,15,16,3] O) (zJ (zA (zH (AG (AW (c:=((i+1:Nat):Int)) O O (AU (a:=i) (b:=1) Z)) O (AM O (oNl' ?_)))))))))))
   exact zB (sL [0,2,14,15,16,3] O) (zn (i+1) (n+bs.getD i 0*2^(32*i)) (⟨Z,by rw [Bf,<-hn,ZS]⟩) Z (sF O) sr)
  ·replace hc1:=xQ hc1
   refine zU (zP (zi (zS (q2 (AM O ?_)))))
   have hnn:n=val (bs.take K):=by rw [hn,show i=K by omega]
   have hv2:val (bs.take m)<18446744073709551616:=by rw [<-hval];exact Nat.lt_of_lt_of_le (G7 (hbs.take K)) (by rw [List.length_take];exact xK (Nat.pow_le_pow_right (n:=4294967296) Z (show min K bs.length<=2 by omega)) jY)
   exact AG (v:=(aG ([(vK .u64 n),(Value.string (Bo 0))]))) (AT (zs:=Aa 0) (vs:=[(vK .u64 n),(Value.string (Bo 0))]) (pv:=[(0,(vK .u64 n))]) (places:=[(0,1),(1,1)]) zeroValue71 underlying71 (λw=>by simp [sizeOf9,sizeOf69]) O O) O (zC (k:=30) (u:=(aG (Aa (val (bs.take m))))) O (by rw [EI hv2,<-hval,<-hnn];rfl) (Ax O sizeOf71 O (oNl' (zB (sL [0,2,14,15,16,3] O) (zA (zF (zO (ret_one O (Ai (i:=0) (cs:=Aa (val (bs.take m))) O O isAgg71 sizeOf71 O) (λw hw=>⟨rfl,hw.out⟩)))))))))
 ·replace hc0:=xQ hc0
  refine zG (q2 (AM O (AG (v:=(vN K)) (AC O underlying255) O (AG (EV (c:=((4*K:Nat):Int)) O O (GC (a:=4) (b:=K) Z)) O (zZ (V:=λb2=>(qw (jk b2) 0 (4*K))) (T:=5) (cs:=KG (List.replicate (4*K) 0)) (AJ O) (Rx (m:=0) (c:=4*K) O O Z Z) O (Av O) λb2=>asg' O (q6 (sL [0,2,6] O) (q4 (AM O (AG (v:=(vN K)) (AC O underlying255) O (AM O ?_))))))))))
  refine oNl' (zA (zI ?_))
  refine yA (tg λ(i:Nat) (bz:List Nat)=>i<=K/\bz=bytesN (bs.take i)++List.replicate (4*(K-i)) 0) (tg λ(i:Nat) (bz:List Nat)=>[(2,(pP b1 0)),(35,(qw (jk b) K c)),(36,(vN K)),(37,(vN i)),(6,(qw (jk b2) (4*i) (4*K)))]) (tg λ(i:Nat) (bz:List Nat)=>[AR b2 5 (KG bz),AR b1 71 (Aa 0)]) (tg λ(i:Nat) (bz:List Nat)=>K-i) 0 (List.replicate (4*K) 0) (⟨xH _,by simp [bytesN]⟩) (sF O) sr (λi bz hJ=>?_)
  obtain ⟨hi,hz⟩:=hJ
  refine q4 (AG (Ae (c:=(decide (i<K))) O O (CM (a:=i) (b:=K))) O (oNl' (q1 ?_)))
  refine zM O (λhc2=>?_) (λhc2=>?_)
  ·replace hc2:=xR hc2
   refine zG (q1 (zI (q4 (AG (v:=(pP b i)) (AO (j:=i) O O underlying255 sizeOf92 O Z jX) O ?_))))
   have hx2:bs.getD i 0<4294967296:=W32.getD hbs i
   refine AG (Bc (v:=(vK .u32 (bs.getD i 0))) O (λw' hw=>CA.at0 (hw.oldCA jX (FA hb)) (BH (xs:=bs) (j:=i) Z)) isAgg92) O (asg' O (oNl' (zB (sL [2,35,36,37,6,8] O) (zA (zH (AM O (AM O (AG (A9 (c:=(((bs.getD i 0)%256:Nat):Int)) O underlying92 underlying5 KY) O (AM O (AG (DI (s:=8) (c:=(((bs.getD i 0)/256:Nat):Int)) O O O jY (GY (a:=bs.getD i 0) (s:=8))) O (AG (A9 (c:=((((bs.getD i 0)/256)%256:Nat):Int)) O underlying92 underlying5 KY) O ?_)))))))))))
   refine AM O (AG (DI (s:=16) (c:=(((bs.getD i 0)/65536:Nat):Int)) O O O jY (GY (a:=bs.getD i 0) (s:=16))) O (AG (A9 (c:=((((bs.getD i 0)/65536)%256:Nat):Int)) O underlying92 underlying5 KY) O (AM O (AG (DI (s:=24) (c:=(((bs.getD i 0)/16777216:Nat):Int)) O O O jY (GY (a:=bs.getD i 0) (s:=24))) O (AG (A9 (c:=((((bs.getD i 0)/16777216)%256:Nat):Int)) O underlying92 underlying5 KY) O (zZ (V:=λb3=>(qw (jk b3) 4 4)) (T:=5) (cs:=KG ([(bs.getD i 0)%256,((bs.getD i 0)/256)%256,((bs.getD i 0)/65536)%256,((bs.getD i 0)/16777216)%256])) (AJ O) (Af (cs:=KG ([(bs.getD i 0)%256,((bs.getD i 0)/256)%256,((bs.getD i 0)/65536)%256,((bs.getD i 0)/16777216)%256])) (pv:=[(0,(vK .u8 ((bs.getD i 0)%256))),(1,(vK .u8 (((bs.getD i 0)/256)%256))),(2,(vK .u8 (((bs.getD i 0)/65536)%256))),(3,(vK .u8 (((bs.getD i 0)/16777216)%256)))]) underlying86 sizeOf5 zeroValue5 jY jY O jV) O (Av O) λb3=>?_))))))
   obtain ⟨bz2,hz2,hlay⟩:∃bz2,bz2=bytesN (bs.take (i+1))++List.replicate (4*(K-(i+1))) 0/\Gu (KG bz) (4*i) (KG ([(bs.getD i 0)%256,((bs.getD i 0)/256)%256,((bs.getD i 0)/65536)%256,((bs.getD i 0)/16777216)%256]))=KG bz2:=⟨_,rfl,by rw [hz];exact Rl hc2 Z⟩
   exact AL.append_u8 (i:=1) (j:=0) (m:=4*i) (c:=4*K) (k:=4) (cs':=KG bz2) (L':=[AR b3 5 (KG ([(bs.getD i 0)%256,((bs.getD i 0)/256)%256,((bs.getD i 0)/65536)%256,((bs.getD i 0)/16777216)%256])),AR b2 5 (KG bz2),AR b1 71 (Aa 0)]) O (AJ O) O O O O O O Z (by rw [IW,hz];simp [CK];omega) hlay O (Av O) (asg' O (oNl' (zB (sL [2,35,36,37,6] O) (zJ (zA (zH (AG (AW (c:=((i+1:Nat):Int)) O O (AU (a:=i) (b:=1) Z)) O (AM O (oNl' (zB (sL [2,35,36,37,6] O) (zn (i+1) bz2 (⟨Z,hz2⟩) Z (sF O) (sl sr))))))))))))
  ·replace hc2:=xQ hc2
   refine zU (zP (zi (zS (q2 (AM O ?_)))))
   have hbl:bz.length=4*i:=by rw [hz,xJ,CK,List.length_take,List.length_replicate];omega
   have htk:(KG bz).take (4*i)=KG bz:=List.take_of_length_le (by rw [IW];omega)
   refine AG (v:=(Value.string (Di bz))) (KC (i:=0) (m:=4*i) (ns:=bz) O O htk hbl) O ?_
   have hv3:¬val (bs.take m)<18446744073709551616:=λh=>by have:=ME h;omega
   have hbz:bz=bytesN (bs.take K):=by rw [hz,show i=K by omega];simp
   exact AG (v:=(aG ([(vK .u64 (CF 0)),(Value.string (Di bz))]))) (AT (zs:=Aa 0) (vs:=[(vK .u64 (CF 0)),(Value.string (Di bz))]) (pv:=[(1,(Value.string (Di bz)))]) (places:=[(0,1),(1,1)]) zeroValue71 underlying71 (λw=>by simp [sizeOf9,sizeOf69]) O O) O (zC (k:=58) (u:=(aG (Aa (val (bs.take m))))) O (by rw [Wx hv3,hwd,<-hbz];rfl) (EK O sizeOf71 O (oNl' (zB (sL [2,35,36,37,6] O) (zA (zF (ret_one O (Ai (i:=1) (cs:=Aa (val (bs.take m))) O O isAgg71 sizeOf71 O) (λw hw=>⟨rfl,hw.out⟩))))))))
end
end Go.Proofs.YtpolhpjiahbidaaGreatDoor
