import Derived.Laws.Externs
import Derived.Test.YtbfdamnfcmefmaaGreatDoorPart02
namespace Go.Proofs.YtbfdamnfcmefmaaGreatDoor
open Go Go.RowKit Go.Proofs.Tryz
open Go.Value renaming slice→qz,bool→qa
set_option linter.unusedVariables false
set_option linter.unusedSimpArgs false
def D4 (bs:List Nat):Nat->Nat
  | 0=>0
  | m+1=>if bs.getD m 0=0 then D4 bs m else m+1
theorem SW {bs:List Nat} {k:Nat} (h:0<k) (h0:bs.getD (k-1) 0=0):D4 bs k=D4 bs (k-1):=by
  obtain ⟨j,rfl⟩:∃j,k=j+1:=⟨k-1,Z⟩
  simp only [D4];rw [if_pos (by simpa using h0)];simp
theorem SY {bs:List Nat} {k:Nat} (h:¬(0<k/\bs.getD (k-1) 0=0)):D4 bs k=k:=by
  cases k with
  | zero=>rfl
  | succ j=>simp only [D4];rw [if_neg (by simpa using h)]
theorem KF (bs:List Nat):∀m,D4 bs m<=m
  | 0=>Nat.le_refl _
  | m+1=>by
    simp only [D4]
    split
    · have:=KF bs m;omega
    · exact Nat.le_refl _
theorem Mt (bs:List Nat):∀m,D4 bs m≠0->bs.getD (D4 bs m-1) 0≠0
  | 0,h=>absurd rfl h
  | m+1,h=>by
    simp only [D4] at h ⊢
    split
    · rename_i h0;rw [if_pos h0] at h;exact Mt bs m h
    · rename_i h0;simpa using h0
theorem ME (bs:List Nat):∀m,val (bs.take (D4 bs m))=val (bs.take m)
  | 0=>rfl
  | m+1=>by
    simp only [D4]
    split
    · rename_i h0;rw [ME bs m,BY,h0];omega
    · rfl
theorem Ja {bs:List Nat} (hb:W32 bs) {m:Nat} (hm:m<=bs.length):AN (val (bs.take m))=bs.take (D4 bs m):=by
  rw [<-ME]
  refine Oa (hb.take _) λx hx=>?_
  have hle:=KF bs m
  have hne:D4 bs m≠0:=λh0=>by rw [h0] at hx;simp at hx
  have hl:(bs.take (D4 bs m)).getLast?=some (bs.getD (D4 bs m-1) 0):=by
    rw [List.getLast?_eq_getElem?]
    have h1:(bs.take (D4 bs m)).length-1=D4 bs m-1:=by simp;omega
    rw [h1,List.getElem?_take,if_pos Z]
    have h2:D4 bs m-1<bs.length:=by omega
    simp [h2]
  rw [hl] at hx
  injection hx with hx
  rw [<-hx]
  exact Mt bs m hne
theorem Qg {bs:List Nat} (hb:W32 bs) {m:Nat} (hm:m<=bs.length):nw (val (bs.take m))=D4 bs m:=by
  unfold nw
  rw [Ja hb hm,List.length_take]
  have:=KF bs m
  omega
theorem IG {v:Nat} (h:v<18446744073709551616):small v=true:=by simp [small,h]
theorem Jv {v:Nat} (h:¬v<18446744073709551616):small v=false:=by simp [small,h]
theorem Dt {v:Nat} (h:v<18446744073709551616):AV v=[.int .u64 (v:Nat),.string ByteArray.empty]:=by
  simp [AV,CD,Bo,IG h]
theorem Bh {v:Nat} (h:v<18446744073709551616):CD v=v:=by simp [CD,IG h]
def bytesN (xs:List Nat):List Nat:=xs.flatMap λx=>[x%256,x/256%256,x/65536%256,x/16777216%256]
theorem CI (xs:List Nat):(bytesN xs).length=4*xs.length:=by
  induction xs with
  | nil=>rfl
  | cons x xs ih=>simp [bytesN] at ih ⊢;omega
theorem MM (xs ys:List Nat):bytesN (xs++ys)=bytesN xs++bytesN ys:=by simp [bytesN]
theorem Ml (xs:List Nat):DT (bytesN xs)=⟨(xs.flatMap UV).toArray⟩:=by
  unfold DT
  congr 2
  induction xs with
  | nil=>rfl
  | cons x xs ih =>
    simp only [bytesN,List.flatMap_cons,List.map_append] at ih ⊢
    rw [ih]
    rfl
theorem Vq {v:Nat} (h:¬v<18446744073709551616):AV v=[.int .u64 (0:Nat),.string (DT (bytesN (AN v)))]:=by
  simp [AV,CD,Bo,Jv h,Ml]
theorem Hw {v:Nat} (h:v<18446744073709551616):Bo v=ByteArray.empty:=by simp [Bo,IG h]
theorem E_ {v:Nat} (h:¬v<18446744073709551616):Bo v=DT (bytesN (AN v)):=by simp [Bo,Jv h,Ml]
theorem Lw (xs:List Nat):(DT xs).size=xs.length:=by simp [DT,ByteArray.size]
theorem TR {xs:List Nat} {j:Nat} (h:j<xs.length):(DT xs)[j]?=some (UInt8.ofNat (xs.getD j 0)):=by
  have h1:j<(DT xs).size:=by rw [Lw];exact h
  rw [getElem?_pos (DT xs) j h1]
  congr 1
  show (DT xs).data[j]'h1=_
  simp [DT,h]
theorem GI:∀(xs:List Nat) (i k:Nat),i<xs.length->k<4->(bytesN xs).getD (4*i+k) 0=xs.getD i 0/256^k%256
  | [],i,k,h,_=>by simp at h
  | x::xs,0,k,_,hk=>by
    rcases k with _|_|_|_|k
    · simp [bytesN]
    · simp [bytesN]
    · simp [bytesN]
    · simp [bytesN]
    · omega
  | x::xs,i+1,k,h,hk=>by
    have ih:=GI xs i k (by simpa using h) hk
    have e:4*(i+1)+k=(4*i+k)+4:=by omega
    rw [e,List.getD_cons_succ,<-ih]
    simp [bytesN]
theorem Qf {v:Nat} (h:¬v<18446744073709551616):2<nw v:=by
  rcases Nat.lt_or_ge 2 (nw v) with h1|h1
  · exact h1
  · exact absurd (Cx.1 h1) Z
theorem Cm {v:Nat}:((Bo v).toList == (ByteArray.mk #[]).toList)=decide (v<18446744073709551616):=by
  by_cases h:v<18446744073709551616
  · rw [Hw h];simp [h]
  · have h1:=Qf h
    rw [ByteArray.toList_eq,ByteArray.toList_eq]
    have h2:(Bo v).data.toList≠[]:=λe=>by
      have h3:(Bo v).data.toList.length=0:=by rw [e];rfl
      rw [E_ h] at h3
      simp [DT,CI] at h3
      unfold nw at h1
      omega
    have h4:((Bo v).data.toList == [])=false:=by
      cases hl:(Bo v).data.toList with
      | nil=>exact absurd hl h2
      | cons=>rfl
    rw [show (ByteArray.mk #[]).data.toList=[] from rfl,h4]
    simp [h]
def Ax (v:Nat):List Nat:=if v<18446744073709551616 then [v%4294967296,v/4294967296] else AN v
theorem Ca (v:Nat):W32 (Ax v):=by
  unfold Ax
  split
  · exact W32.cons Z (W32.cons Z W32.nil)
  · exact Bt v
theorem Yd {v:Nat} (h:v<18446744073709551616):W32 [v%4294967296,v/4294967296]:=W32.cons Z (W32.cons Z W32.nil)
theorem CV (v:Nat):nw v<=(Ax v).length:=by
  unfold Ax
  split
  · rename_i h;exact Ll h
  · exact Nat.le_refl _
theorem Ir (v:Nat):(Ax v).take (nw v)=AN v:=by
  unfold Ax
  split
  · rename_i h
    have e:v=val ([v%4294967296,v/4294967296].take 2):=by simp [val];omega
    have hw:W32 [v%4294967296,v/4294967296]:=W32.cons Z (W32.cons Z W32.nil)
    have h1:=Ja hw (m:=2) jX
    have h2:=Qg hw (m:=2) jX
    rw [<-e] at h1 h2
    rw [h2,<-h1]
  · exact List.take_of_length_le (Nat.le_refl _)
theorem SA (v:Nat):val (Ax v)=v:=by
  unfold Ax
  split
  · simp [val];omega
  · exact Ch v
theorem IB {a b s:Nat} (ha:a<2^s):a ||| b*2^s=a+b*2^s:=by
  rw [Nat.or_comm,Nat.mul_comm,<-Nat.two_pow_add_eq_or_of_lt ha];omega
theorem KX {a b:Nat} (ha:a<18446744073709551616) (hb:b<18446744073709551616) {c:Nat} (hc:a ||| b=c):IntKind.u64.wrap ((BitVec.ofInt IntKind.u64.bits (a:Int) ||| BitVec.ofInt IntKind.u64.bits (b:Int)).toNat:Int)=(c:Int):=by
  have e:(BitVec.ofInt IntKind.u64.bits (a:Int) ||| BitVec.ofInt IntKind.u64.bits (b:Int)).toNat=a ||| b:=by
    show (BitVec.ofInt 64 (a:Int) ||| BitVec.ofInt 64 (b:Int)).toNat=_
    rw [BitVec.toNat_or,BitVec.ofInt_natCast,BitVec.ofInt_natCast,BitVec.toNat_ofNat,BitVec.toNat_ofNat,Nat.mod_eq_of_lt (show a<2^64 by omega),Nat.mod_eq_of_lt (show b<2^64 by omega)]
  rw [e,hc]
  have h2:a ||| b<2^64:=Nat.or_lt_two_pow ha hb
  exact ED Z Z
theorem KW {a b:Nat} (ha:a<4294967296) (hb:b<4294967296) {c:Nat} (hc:a ||| b=c):IntKind.u32.wrap ((BitVec.ofInt IntKind.u32.bits (a:Int) ||| BitVec.ofInt IntKind.u32.bits (b:Int)).toNat:Int)=(c:Int):=by
  have e:(BitVec.ofInt IntKind.u32.bits (a:Int) ||| BitVec.ofInt IntKind.u32.bits (b:Int)).toNat=a ||| b:=by
    show (BitVec.ofInt 32 (a:Int) ||| BitVec.ofInt 32 (b:Int)).toNat=_
    rw [BitVec.toNat_or,BitVec.ofInt_natCast,BitVec.ofInt_natCast,BitVec.toNat_ofNat,BitVec.toNat_ofNat,Nat.mod_eq_of_lt (show a<2^32 by omega),Nat.mod_eq_of_lt (show b<2^32 by omega)]
  rw [e,hc]
  have h2:a ||| b<2^32:=Nat.or_lt_two_pow ha hb
  exact HI Z Z
theorem G5 {a s:Nat} (h:a*2^s<18446744073709551616):IntKind.u64.wrap ((a:Int)*2^s)=((a*2^s:Nat):Int):=by
  have e:(a:Int)*2^s=((a*2^s:Nat):Int):=by simp
  rw [e,ED Z Z]
theorem WU {a s:Nat} (h:a*2^s<4294967296):IntKind.u32.wrap ((a:Int)*2^s)=((a*2^s:Nat):Int):=by
  have e:(a:Int)*2^s=((a*2^s:Nat):Int):=by simp
  rw [e,HI Z Z]
theorem NK {a s:Nat}:IntKind.u32.wrap ((a:Int)*2^s)=((a*2^s%4294967296:Nat):Int):=by
  have e:(a:Int)*2^s=((a*2^s:Nat):Int):=by simp
  rw [e];exact Ee
theorem V9 (k:Nat):(256:Nat)^k=2^(8*k):=by rw [show (256:Nat)=2^8 from rfl,<-Nat.pow_mul]
theorem RH {w k:Nat} (hk:k<4):w/256^k%256*2^(8*k)<4294967296:=by
  rcases k with _|_|_|_|k
  · simp;omega
  · simp;omega
  · simp;omega
  · simp;omega
  · omega
theorem SP {w k x:Nat} (hx:x=w%256^k):x ||| w/256^k%256*2^(8*k)=w%256^(k+1):=by
  subst hx
  rw [IB (by rw [<-V9];exact Nat.mod_lt _ (Nat.pow_pos Z)),<-V9,Nat.mod_pow_succ,Nat.mul_comm]
theorem Q4 {os ws xs:List Nat} {n i:Nat} (hl:os.length=n) (hn:ws.length=n) (hi:i<n) (ht:os.take i=ws.take i) (h0:∀j,i<=j->os.getD j 0=0) (hx:xs=os.set i (ws.getD i 0)) :
    xs.length=n/\xs.take (i+1)=ws.take (i+1)/\∀j,i+1<=j->xs.getD j 0=0:=by
  subst hx
  refine ⟨by simp [hl],?_,λj hj=>?_⟩
  · have e1:i<os.length:=by omega
    have e2:i<ws.length:=by omega
    rw [List.take_add_one,List.take_add_one,List.take_set_of_le (Nat.le_refl _),ht]
    simp [e1,e2]
  · have:=h0 j Z
    rw [List.getD_eq_getElem?_getD,List.getElem?_set_ne Z,<-List.getD_eq_getElem?_getD]
    exact this
theorem WQ {os:List Nat} {i:Nat} (h:os.getD i 0=0):os=os.set i 0:=by
  apply List.ext_getElem jX
  intro j h1 h2
  by_cases e:i=j
  · subst e;simpa [h1] using h
  · simp [e]
theorem ZP (k:Nat):(4294967296:Nat)^k=2^(32*k):=by rw [show (4294967296:Nat)=2^32 from rfl,<-Nat.pow_mul]
theorem WT {x i:Nat} (hx:x<4294967296) (hi:i<2):x*2^(32*i)<18446744073709551616:=by
  rcases i with _|_|i
  · simp;omega
  · simp;omega
  · omega
theorem TM {n i:Nat} (h:n<4294967296^i) (hi:i<2):n<18446744073709551616:=by
  rcases i with _|_|i
  · simp at h;omega
  · simp at h;omega
  · omega
theorem P6 {bs:List Nat} {i K:Nat} (hi:i<K) (hK:K<=bs.length) :
    Gi (KA (bytesN (bs.take i)++List.replicate (4*(K-i)) 0)) (4*i) (KA [bs.getD i 0%256,bs.getD i 0/256%256,bs.getD i 0/65536%256,bs.getD i 0/16777216%256])=KA (bytesN (bs.take (i+1))++List.replicate (4*(K-(i+1))) 0):=by
  have hib:i<bs.length:=by omega
  have e1:bs.take (i+1)=bs.take i++[bs.getD i 0]:=by rw [List.take_add_one];simp [hib]
  have hl:(bytesN (bs.take i)).length=4*i:=by rw [CI,List.length_take];omega
  have e2:List.replicate (4*(K-i)) 0=List.replicate 4 0++List.replicate (4*(K-(i+1))) 0:=by rw [List.replicate_append_replicate];congr 1;omega
  have e3:bytesN [bs.getD i 0]=[bs.getD i 0%256,bs.getD i 0/256%256,bs.getD i 0/65536%256,bs.getD i 0/16777216%256]:=by simp [bytesN]
  rw [e1,MM,e3,e2]
  unfold Gi KA
  simp only [List.map_append]
  rw [List.take_append_of_le_length (by simp [hl]),List.take_of_length_le (by simp [hl])]
  rw [show 4*i+(List.map (λx=>Value.int IntKind.u8 (x:Nat)) [bs.getD i 0%256,bs.getD i 0/256%256,bs.getD i 0/65536%256,bs.getD i 0/16777216%256]).length=4*i+4 from rfl]
  rw [List.drop_append,List.drop_of_length_le (by simp [hl])]
  simp [hl]
theorem WK {os ws:List Nat} {n i:Nat} (hl:os.length=n) (hn:ws.length=n) (hi:¬i<n) (ht:os.take i=ws.take i):os=ws:=by
  rwa [List.take_of_length_le Z,List.take_of_length_le Z] at ht
section
theorem Vi {a:Nat}:IntKind.u64.wrap (a:Int)=((a%18446744073709551616:Nat):Int):=by
  simp only [IntKind.wrap,IntKind.bits,IntKind.signed];simp
theorem Vl {a b:Nat}:IntKind.u64.wrap ((a:Int)*(b:Int))=((a*b%18446744073709551616:Nat):Int):=by
  rw [<-Int.natCast_mul];exact Vi
theorem UH {a b:Nat}:IntKind.u32.wrap ((a:Int)+(b:Int))=(((a+b)%4294967296:Nat):Int):=by
  rw [<-Int.natCast_add];exact Ee
theorem Pd {a b:Nat} (h:b<=4294967296):IntKind.u32.wrap ((a:Int)-(b:Int))=(((a+(4294967296-b))%4294967296:Nat):Int):=by
  simp only [IntKind.wrap,IntKind.bits,IntKind.signed];simp;omega
theorem NP {a:Nat} (h:a<18446744073709551616):(BitVec.ofInt IntKind.u64.bits (a:Int)).toNat=a:=by
  show (BitVec.ofInt 64 (a:Int)).toNat=_
  rw [BitVec.ofInt_natCast,BitVec.toNat_ofNat,Nat.mod_eq_of_lt Z]
theorem Hf {a:Nat} (h:a<4294967296):(BitVec.ofInt IntKind.u32.bits (a:Int)).toNat=a:=by
  show (BitVec.ofInt 32 (a:Int)).toNat=_
  rw [BitVec.ofInt_natCast,BitVec.toNat_ofNat,Nat.mod_eq_of_lt Z]
theorem UK {a b:Nat} (ha:a<18446744073709551616) (hb:b<18446744073709551616):IntKind.u64.wrap ((BitVec.ofInt IntKind.u64.bits (a:Int) &&& BitVec.ofInt IntKind.u64.bits (b:Int)).toNat:Int)=((a &&& b:Nat):Int):=by
  rw [BitVec.toNat_and,NP ha,NP hb]
  have:a &&& b<=a:=Nat.and_le_left
  exact ED Z Z
theorem JE {a:Nat} (ha:a<18446744073709551616):IntKind.u64.wrap ((BitVec.ofInt IntKind.u64.bits (a:Int) &&& BitVec.ofInt IntKind.u64.bits ((4294967295:Nat):Int)).toNat:Int)=((a%4294967296:Nat):Int):=by
  rw [UK ha Z,show (4294967295:Nat)=2^32-1 from rfl,Nat.and_two_pow_sub_one_eq_mod]
theorem Oq {a b:Nat} (ha:a<4294967296) (hb:b<4294967296):IntKind.u32.wrap ((BitVec.ofInt IntKind.u32.bits (a:Int) &&& BitVec.ofInt IntKind.u32.bits (b:Int)).toNat:Int)=((a &&& b:Nat):Int):=by
  rw [BitVec.toNat_and,Hf ha,Hf hb]
  have:a &&& b<=a:=Nat.and_le_left
  exact HI Z Z
theorem Pm {a b:Nat} (ha:a<4294967296) (hb:b<4294967296):IntKind.u32.wrap ((BitVec.ofInt IntKind.u32.bits (a:Int) ^^^ BitVec.ofInt IntKind.u32.bits (b:Int)).toNat:Int)=((a ^^^ b:Nat):Int):=by
  rw [BitVec.toNat_xor,Hf ha,Hf hb]
  have:a ^^^ b<2^32:=Nat.xor_lt_two_pow ha hb
  exact HI Z Z
theorem O1 {a:Nat} (ha:a<4294967296):IntKind.u32.wrap ((BitVec.ofInt IntKind.u32.bits (if IntKind.u32.signed then -1 else IntKind.u32.max) ^^^ BitVec.ofInt IntKind.u32.bits (a:Int)).toNat:Int)=((4294967295 ^^^ a:Nat):Int):=by
  rw [show (if IntKind.u32.signed then -1 else IntKind.u32.max)=((4294967295:Nat):Int) from rfl]
  exact Pm Z ha
def Jf (x y:Nat):Nat:=if x<y then 1 else 0
theorem cY {r:Nat} (h:r<4294967296):r/2147483648=if r.testBit 31 then 1 else 0:=by
  have e:r.testBit 31=decide (r/2147483648%2=1):=Nat.testBit_eq_decide_div_mod_eq ..
  rw [e]
  by_cases h1:r/2147483648%2=1
  · rw [if_pos (by simpa using h1)];omega
  · rw [if_neg (by simpa using h1)];omega
theorem RG {x:Nat} (h:x<4294967296):x.testBit 31=decide (2147483648<=x):=by
  rw [Nat.testBit_eq_decide_div_mod_eq]
  exact decide_eq_decide.2 Z
theorem UT {x y c:Nat} (hx:x<4294967296) (hy:y<4294967296) (hc:c<=1) {d:Nat} (hd:d=(x+(4294967296-y)+(4294967296-c))%4294967296) :
    ((4294967295 ^^^ x) &&& y ||| (4294967295 ^^^ (x ^^^ y)) &&& d)/2147483648=Jf x (y+c):=by
  have hd':d<4294967296:=by omega
  have h1:((4294967295 ^^^ x) &&& y ||| (4294967295 ^^^ (x ^^^ y)) &&& d)<2^32:=by
    refine Nat.or_lt_two_pow ?_ ?_
    · exact Nat.lt_of_le_of_lt Nat.and_le_right hy
    · exact Nat.lt_of_le_of_lt Nat.and_le_right hd'
  rw [cY Z]
  simp only [Nat.testBit_or,Nat.testBit_and,Nat.testBit_xor,RG hx,RG hy,RG hd',RG (show 4294967295<4294967296 by omega)]
  unfold Jf
  by_cases h2:2147483648<=x<;>by_cases h3:2147483648<=y<;>by_cases h4:2147483648<=d<;>simp [h2,h3,h4]<;>omega
theorem Vj (x y:Nat):x/4294967296*(y/4294967296)+(x/4294967296*(y%4294967296)+x%4294967296*(y%4294967296)/4294967296)/4294967296+((x/4294967296*(y%4294967296)+x%4294967296*(y%4294967296)/4294967296)%4294967296+x%4294967296*(y/4294967296))/4294967296=x*y/18446744073709551616:=by
  have e:x*y=x%4294967296*(y%4294967296)+4294967296*(x/4294967296*(y%4294967296)+x%4294967296*(y/4294967296))+18446744073709551616*(x/4294967296*(y/4294967296)):=by
    have hx:x=x%4294967296+4294967296*(x/4294967296):=by omega
    have hy:y=y%4294967296+4294967296*(y/4294967296):=by omega
    generalize x%4294967296=a at *
    generalize x/4294967296=b at *
    generalize y%4294967296=c at *
    generalize y/4294967296=d at *
    subst hx;subst hy
    grind
  rw [e]
  generalize x%4294967296*(y%4294967296)=p
  generalize x/4294967296*(y%4294967296)=q
  generalize x%4294967296*(y/4294967296)=r
  generalize x/4294967296*(y/4294967296)=t
  omega
theorem Le {a b:Nat} (ha:a<4294967296) (hb:b<4294967296):a*b<=18446744065119617025:=Nat.mul_le_mul (show a<=4294967295 by omega) (show b<=4294967295 by omega)
def bl (x:Nat):Nat:=if x=0 then 0 else Nat.log2 x+1
theorem QX {x k:Nat} (h:2^k<=x):Nat.log2 x=Nat.log2 (x/2^k)+k:=by
  have hx:x≠0:=by have:=Nat.pow_pos (n:=k) (show 0<2 by omega);omega
  have hq:x/2^k≠0:=by
    have:=Nat.div_pos h (Nat.pow_pos (n:=k) (show 0<2 by omega));omega
  have h1:=(Nat.log2_eq_iff hq).1 rfl
  rw [Nat.log2_eq_iff hx]
  have hm:=Nat.div_add_mod x (2^k)
  have hlt:=Nat.mod_lt x (Nat.pow_pos (n:=k) (show 0<2 by omega))
  constructor
  · rw [Nat.pow_add,Nat.mul_comm]
    exact xN (Nat.mul_le_mul_left _ h1.1) (Nat.mul_div_le x _)
  · rw [show (x/2^k).log2+k+1=((x/2^k).log2+1)+k by omega,Nat.pow_add]
    exact (Nat.div_lt_iff_lt_mul (Nat.pow_pos Z)).1 h1.2
theorem Ou {x k:Nat} (h:2^k<=x):bl x=bl (x/2^k)+k:=by
  have hx:x≠0:=by have:=Nat.pow_pos (n:=k) (show 0<2 by omega);omega
  have hq:x/2^k≠0:=by
    have:=Nat.div_pos h (Nat.pow_pos (n:=k) (show 0<2 by omega));omega
  simp only [bl,hx,hq,if_false,QX h]
  omega
theorem US {x k:Nat} (h:x<2^k):bl x<=k:=by
  unfold bl
  split
  · omega
  · rename_i hx
    have:=(Nat.log2_lt hx).2 h
    omega
theorem Ss {y:Nat} (h0:0<y) (h:y<4294967296):bl y<=32/\0<bl y/\2147483648<=y*2^(32-bl y)/\y*2^(32-bl y)<4294967296:=by
  have hy:y≠0:=by omega
  have h1:=(Nat.log2_eq_iff hy).1 rfl
  have h2:=US (k:=32) (show y<2^32 by omega)
  have hb:bl y=y.log2+1:=by simp [bl,hy]
  refine ⟨h2,Z,?_,?_⟩
  · rw [hb] at h2 ⊢
    calc 2147483648=2^y.log2*2^(32-(y.log2+1)):=by rw [<-Nat.pow_add,show y.log2+(32-(y.log2+1))=31 by omega]
      _<=_:=Nat.mul_le_mul_right _ h1.1
  · rw [hb] at h2 ⊢
    calc y*2^(32-(y.log2+1))<2^(y.log2+1)*2^(32-(y.log2+1)):=Nat.mul_lt_mul_of_pos_right h1.2 (Nat.pow_pos Z)
      _=4294967296:=by rw [<-Nat.pow_add,show y.log2+1+(32-(y.log2+1))=32 by omega]
theorem au {s:ByteArray} (h:((List.range 256).all λj=>s[j]? == some (UInt8.ofNat (bl j)))=true) {j:Nat} (hj:j<256):s[j]?=some (UInt8.ofNat (bl j)):=by
  simpa using List.all_eq_true.1 h j (List.mem_range.2 hj)
theorem Zk {x:Nat} (h:256<=x):bl x=bl (x/256)+8:=Ou (k:=8) h
theorem WW (z:Int):(if (if z<1 then z else 1) > -1 then (if z<1 then z else 1) else -1)=z.sign:=by
  rcases Int.lt_trichotomy z 0 with h|h|h
  · rw [Int.sign_eq_neg_one_of_neg h,if_pos (show z<1 by omega)];split<;>omega
  · subst h;rfl
  · rw [Int.sign_eq_one_of_pos h,if_neg (show ¬z<1 by omega)];rfl
section
variable {P:Program} {n:Nat} {F:List (Nat×Value)} {w0:BF} {L:List As} {x y:Operand} {d:Option Tmp} {t:TypeId} {p:String} {af:Array Edge} {g:Option (Nat×Bool)}
theorem If {s:ByteArray} {k:IntKind} {j m:Nat} {tx:TypeId} (hx:evF F x=some (.string s)) (hy:evF F y=some (.int k ((j:Nat):Int))) (hu:P.underlying tx=some .string) (hb:s[j]?=some (UInt8.ofNat m)) (hm:m<256):Ex P n F w0 L ⟨d,.index tx x y,t,p,af,g⟩ (.int .u8 ((m:Nat):Int)):=by
  have h:=J0 (P:=P) (n:=n) (F:=F) (w0:=w0) (L:=L) (d:=d) (t:=t) (p:=p) (af:=af) (g:=g) hx hy hu rfl hb
  have e:(UInt8.ofNat m).toNat=m:=by simp;omega
  rwa [e] at h
theorem Sc {f:FuncId} {xs:List Operand} {args:List Value} {ts:Array TypeId} {v:Value} (hf:evF F x=some (.func (.func f) #[] #[])) (hargs:xs.map (evF F)=args.map some)
    (hc:∀w,(callFunc f args.toArray).run P w=.ok (.value v) w):Ex P n F w0 L ⟨d,.call { callee:=.value x,args:=xs.toArray,argTypes:=ts },t,p,af,g⟩ v:=λA w ha _=>by
  have e1:xs.toArray.map A.eval=args.toArray:=by rw [<-K4 ha hargs];simp
  simp [execOp,resolve,ha.ev hf,Deferred.ofValue,e1,invoke,hc]
theorem TE {f : FuncId} {fn : Func} (hf : P.funcs[f]? = some fn) (hname : (fn.name == "runtime.NumGoroutine") = false) (hb : fn.body.isNone = true) (hn : Extern.findNext fn = none) (he : Extern.find fn = some add64Entry) (x y c : Nat) (hc : c ≤ 1) (w : World) :
    (callFunc f #[.int .u64 x,.int .u64 y,.int .u64 c]).run P w=.ok (.value (.tuple #[.int .u64 (((x+y+c)%18446744073709551616:Nat):Int),.int .u64 (((x+y+c)/18446744073709551616:Nat):Int)])) w:=by
  rw [run_callFunc_extern hf hname hb hn he,run_add64 x y c Z Z Z Z]
  simp only [Result.andThen]
  congr 5<;>omega
end
theorem BI.fresh {W w:World} {L:List As} (h:BI ⟨W,none⟩ w L) {i b:Nat} {T:TypeId} {cs:List Value} (hi:L[i]?=some (AX b T cs)):W.heap.size<=b:=by
  rcases (h.2.1 _ (List.mem_of_getElem? hi) b rfl).1 with h1|h1|h1
  · cases h1
  · exact h1
  · cases h1
end
section
structure Dj (P:Program) (t:TypeId) (k:Nat):Prop where
  a:∀w,(isAgg t).run P w=.ok true w
  s:∀w,(sizeOf t).run P w=.ok k w
structure Fs (P:Program) (t:TypeId):Prop where
  a:∀w,(isAgg t).run P w=.ok false w
def DI (P:Program) (t:TypeId) (cs:List Value):Prop:=∃u:Value,(∀w,(zeroValue t).run P w=.ok u w)/\u.cells=cs.toArray
section
variable {P:Program} {ops:Array Oper} {rest:List Oper} {Q:Exit->Act->World->Prop} {n d i b off k:Nat} {F F':List (Nat×Value)} {w0:BF} {L Lro:List As} {op:Op} {t ty T:TypeId} {p:String} {af:Array Edge} {u v:Value} {x y:Operand} {l:List Oper} {specs:List Sp} {cs vs:List Value}
theorem CH {a b:Nat} (h:Nat.ble (a+1) b=true):a<b:=Nat.le_of_ble_eq_true h
theorem mv (hx:evF F x=some v) (hd:Nat.ble (d+1) n=true) (next:AU P ops rest Q n ((d,v)::F) w0 L):AU P ops (⟨some d,.move x,t,p,af,none⟩::rest) Q n F w0 L:=AU.step (AK rfl) (DD hx) rfl (CH hd) next
theorem ew (hx:evF F x=some v) (hd:Nat.ble (d+1) n=true) (next:AU P ops rest Q n ((d,v)::F) w0 L):AU P ops (⟨some d,.assign x,t,p,af,none⟩::rest) Q n F w0 L:=AU.step (AK rfl) (M0 hx) rfl (CH hd) next
theorem Lz {cs:List Value} {k:Nat} (h:cs.length=k):(cs.drop 0).take k=cs:=by rw [List.drop_zero,List.take_of_length_le Z]
theorem fB (i:Nat) (ht:Dj P ty k) (hx:evF F x=some (pP b 0)) (hi:L[i]?=some (AX b T cs)) (hl:cs.length=k) (hd:Nat.ble (d+1) n=true) (next:AU P ops rest Q n ((d,aG cs)::F) w0 L) :
    AU P ops (⟨some d,.load ty x,t,p,af,none⟩::rest) Q n F w0 L:=AU.step (AK rfl) (Ab hx hi ht.a ht.s (Lz hl) hl) rfl (CH hd) next
theorem e_ (i:Nat) (vs:List Value) (ht:Dj P ty k) (hx:evF F x=some (pP b off)) (hi:L[i]?=some (AX b T cs)) (hv:(cs.drop off).take k=vs) (hl:vs.length=k) (hd:Nat.ble (d+1) n=true) (next:AU P ops rest Q n ((d,aG vs)::F) w0 L) :
    AU P ops (⟨some d,.load ty x,t,p,af,none⟩::rest) Q n F w0 L:=AU.step (AK rfl) (Ab hx hi ht.a ht.s hv hl) rfl (CH hd) next
theorem fA (i:Nat) (v:Value) (ht:Fs P ty) (hx:evF F x=some (pP b off)) (hi:L[i]?=some (AX b T cs)) (hv:cs[off]?=some v) (hd:Nat.ble (d+1) n=true) (next:AU P ops rest Q n ((d,v)::F) w0 L) :
    AU P ops (⟨some d,.load ty x,t,p,af,none⟩::rest) Q n F w0 L:=AU.step (AK rfl) (AD hx hi ht.a hv) rfl (CH hd) next
theorem bx (hx:evF F x=some v) (hv:v.cells=cs.toArray) (hd:Nat.ble (d+1) n=true) (next:∀b,AU P ops rest Q n ((d,pP b 0)::F) w0 (AX b T cs::L)):AU P ops (⟨some d,.box T x,t,p,af,none⟩::rest) Q n F w0 L :=
  yu (AK rfl) (aH hx hv) rfl (CH hd) next
theorem al (hz:DI P T cs) (hd:Nat.ble (d+1) n=true) (next:∀b,AU P ops rest Q n ((d,pP b 0)::F) w0 (AX b T cs::L)):AU P ops (⟨some d,.alloc T,t,p,af,none⟩::rest) Q n F w0 L :=
  have ⟨_,h1,h2⟩:=hz
  yu (AK rfl) (PL h1 h2) rfl (CH hd) next
theorem cl {f:FuncId} {xs:List Operand} {args:List Value} {ts:Array TypeId} (hc:∀args w,(callFunc f args).run P w=.ok (.enter f args) w) (h:∀w,BI w0 w L->Calls P f args.toArray w (Ag w v))
    (hf:evF F x=some (.func (.func f) #[] #[])) (hargs:xs.map (evF F)=args.map some) (hd:Nat.ble (d+1) n=true) (next:AU P ops rest Q n ((d,v)::F) w0 L) :
    AU P ops (⟨some d,.call { callee:=.value x,args:=xs.toArray,argTypes:=ts },t,p,af,none⟩::rest) Q n F w0 L:=zg (AK rfl) (Ao hf hargs hc) h rfl (CH hd) next
theorem YH {cs vs:List Value} (h:vs.length=cs.length):Gi cs 0 vs=vs:=by simp [Gi,h]
theorem OQ {L':List As} (hx:evF F x=some (pP b 0)) (hy:evF F y=some v) (hi:L[i]?=some (AX b T cs)) (hv:v.cells=vs.toArray) (hs:∀w,(sizeOf ty).run P w=.ok vs.length w) (h1:(vs.all λu=>u.oneCell')=true) (hl:vs.length=cs.length)
    (hL:L.set i (AX b T vs)=L') (next:AU P ops rest Q n F w0 L'):AU P ops (⟨none,.store ty x y,t,p,af,none⟩::rest) Q n F w0 L:=zo (AK rfl) rfl hx hy hi hv hs h1 (Nat.ble_eq_true_of_le Z) (YH hl) hL next
variable {A0 A1 A2 A3 A4 A5:As}
theorem d8 (hx:evF F x=some (pP b 0)) (hy:evF F y=some v) (hv:v.cells=vs.toArray) (hs:∀w,(sizeOf ty).run P w=.ok vs.length w) (h1:(vs.all λu=>u.oneCell')=true) (hl:vs.length=cs.length)
    (next:AU P ops rest Q n F w0 (AX b T vs::L)):AU P ops (⟨none,.store ty x y,t,p,af,none⟩::rest) Q n F w0 (AX b T cs::L):=OQ (i:=0) hx hy rfl hv hs h1 hl rfl next
theorem d9 (hx:evF F x=some (pP b 0)) (hy:evF F y=some v) (hv:v.cells=vs.toArray) (hs:∀w,(sizeOf ty).run P w=.ok vs.length w) (h1:(vs.all λu=>u.oneCell')=true) (hl:vs.length=cs.length)
    (next:AU P ops rest Q n F w0 (A0::AX b T vs::L)):AU P ops (⟨none,.store ty x y,t,p,af,none⟩::rest) Q n F w0 (A0::AX b T cs::L):=OQ (i:=1) hx hy rfl hv hs h1 hl rfl next
theorem d_ (hx:evF F x=some (pP b 0)) (hy:evF F y=some v) (hv:v.cells=vs.toArray) (hs:∀w,(sizeOf ty).run P w=.ok vs.length w) (h1:(vs.all λu=>u.oneCell')=true) (hl:vs.length=cs.length)
    (next:AU P ops rest Q n F w0 (A0::A1::AX b T vs::L)):AU P ops (⟨none,.store ty x y,t,p,af,none⟩::rest) Q n F w0 (A0::A1::AX b T cs::L):=OQ (i:=2) hx hy rfl hv hs h1 hl rfl next
theorem eA (hx:evF F x=some (pP b 0)) (hy:evF F y=some v) (hv:v.cells=vs.toArray) (hs:∀w,(sizeOf ty).run P w=.ok vs.length w) (h1:(vs.all λu=>u.oneCell')=true) (hl:vs.length=cs.length)
    (next:AU P ops rest Q n F w0 (A0::A1::A2::AX b T vs::L)):AU P ops (⟨none,.store ty x y,t,p,af,none⟩::rest) Q n F w0 (A0::A1::A2::AX b T cs::L):=OQ (i:=3) hx hy rfl hv hs h1 hl rfl next
theorem sr {L:List As}:L.Sublist L:=xS _
theorem sl {a:As} {l1 l2:List As} (h:l1.Sublist l2):l1.Sublist (a::l2):=List.Sublist.cons _ h
theorem sk {a:As} {l1 l2:List As} (h:l1.Sublist l2):(a::l1).Sublist (a::l2):=List.Sublist.cons_cons _ h
end
section
variable {P:Program} {ops:Array Oper} {rest:List Oper} {Q:Exit->Act->World->Prop} {n:Nat} {F F':List (Nat×Value)} {w0:BF} {L Lro:List As} {specs:List Sp} {β:Nat->Value} {A0 A1 A2 A3:As}
end
def V8 (F:List (Nat×Value)):List Nat->Option (List (Nat×Value))
  | []=>some []
  | k::ks=>match F.lookup k with
    | some v=>match V8 F ks with
      | some r=>some ((k,v)::r)
      | none=>none
    | none=>none
theorem sL:∀(ks:List Nat) {F F':List (Nat×Value)},V8 F ks=some F'->CU F' F
  | [],_,_,h=>by injection h with h;subst h;trivial
  | k::ks,F,F',h=>by
    unfold V8 at h
    split at h
    · rename_i v hv
      split at h
      · rename_i r hr
        injection h with h;subst h
        exact ⟨hv,sL ks hr⟩
      · cases h
    · cases h
def Pa:List As->Nat->As->Option (List As)
  | [],_,_=>none
  | _::r,0,y=>some (y::r)
  | x::r,i+1,y=>match Pa r i y with
    | some r'=>some (x::r')
    | none=>none
theorem Hc:∀{L:List As} {i:Nat} {y:As} {L':List As},Pa L i y=some L'->L.set i y=L'
  | [],_,_,_,h=>by cases h
  | _::r,0,y,_,h=>by injection h
  | x::r,i+1,y,L',h=>by
    unfold Pa at h
    split at h
    · rename_i r' hr
      injection h with h;subst h
      rw [List.set_cons_succ,Hc hr]
    · cases h
section
variable {α β γ δ ε:Type} {a a':α} {b b':β} {c c':γ} {d d':δ} {e e':ε}
theorem Cf (h:(a,b)=(a',b')):a=a':=congrArg Prod.fst h
theorem BQ (h:(a,b)=(a',b')):b=b':=congrArg Prod.snd h
end
section
variable {P:Program} {ops:Array Oper} {rest:List Oper} {Q:Exit->Act->World->Prop} {n d i b off k:Nat} {F F':List (Nat×Value)} {w0:BF} {L L' Lro:List As} {op:Op} {t ty T:TypeId} {p:String} {af:Array Edge} {u v:Value} {x y:Operand} {l:List Oper} {specs:List Sp} {cs vs:List Value} {o:Oper} {j:Nat} {g:Option (Nat×Bool)}
theorem AY {t:Nat} {b:Bool} (h:(o.guard,(ops[j]?).bind (·.dst),F.lookup t)=(some (j,b),some t,some (.bool b))):Wt ops n F o:=Oc (Cf h) (Cf (BQ h)) (BQ (BQ h))
theorem B9 {t:Nat} {b:Bool} (h:(o.guard,(ops[j]?).bind (·.dst),F.lookup t)=(some (j,b),some t,some (.bool (!b)))):∀a,C1 n a F->Region.wanted o (yielded ops a.tmps)=false:=W4 (Cf h) (Cf (BQ h)) (BQ (BQ h))
theorem AC (he:Ex P n F w0 L ⟨some d,op,t,p,af,none⟩ v) (hd:Nat.ble (d+1) n=true) (next:AU P ops rest Q n ((d,v)::F) w0 L):AU P ops (⟨some d,op,t,p,af,none⟩::rest) Q n F w0 L:=st he (CH hd) next
theorem AM (h:(evF F x,Nat.ble (d+1) n)=(some v,true)) (next:AU P ops rest Q n ((d,v)::F) w0 L):AU P ops (⟨some d,.move x,t,p,af,none⟩::rest) Q n F w0 L:=mv (Cf h) (BQ h) next
theorem asg' (h:(evF F x,Nat.ble (d+1) n)=(some v,true)) (next:AU P ops rest Q n ((d,v)::F) w0 L):AU P ops (⟨some d,.assign x,t,p,af,none⟩::rest) Q n F w0 L:=ew (Cf h) (BQ h) next
theorem Ai (i:Nat) (ht:Dj P ty k) (h:(evF F x,L[i]?,cs.length,Nat.ble (d+1) n)=(some (pP b 0),some (AX b T cs),k,true)) (next:AU P ops rest Q n ((d,aG cs)::F) w0 L) :
    AU P ops (⟨some d,.load ty x,t,p,af,none⟩::rest) Q n F w0 L:=fB i ht (Cf h) (Cf (BQ h)) (Cf (BQ (BQ h))) (BQ (BQ (BQ h))) next
theorem Ds (i:Nat) (vs:List Value) (ht:Dj P ty k) (h:(evF F x,L[i]?,(cs.drop off).take k,vs.length,Nat.ble (d+1) n)=(some (pP b off),some (AX b T cs),vs,k,true)) (next:AU P ops rest Q n ((d,aG vs)::F) w0 L) :
    AU P ops (⟨some d,.load ty x,t,p,af,none⟩::rest) Q n F w0 L:=e_ i vs ht (Cf h) (Cf (BQ h)) (Cf (BQ (BQ h))) (Cf (BQ (BQ (BQ h)))) (BQ (BQ (BQ (BQ h)))) next
theorem BA (i:Nat) (v:Value) (ht:Fs P ty) (h:(evF F x,L[i]?,cs[off]?,Nat.ble (d+1) n)=(some (pP b off),some (AX b T cs),some v,true)) (next:AU P ops rest Q n ((d,v)::F) w0 L) :
    AU P ops (⟨some d,.load ty x,t,p,af,none⟩::rest) Q n F w0 L:=fA i v ht (Cf h) (Cf (BQ h)) (Cf (BQ (BQ h))) (BQ (BQ (BQ h))) next
theorem BZ (h:(evF F x,v.cells,Nat.ble (d+1) n)=(some v,cs.toArray,true)) (next:∀b,AU P ops rest Q n ((d,pP b 0)::F) w0 (AX b T cs::L)):AU P ops (⟨some d,.box T x,t,p,af,none⟩::rest) Q n F w0 L :=
  bx (Cf h) (Cf (BQ h)) (BQ (BQ h)) next
theorem C7 {f:FuncId} {xs:List Operand} {args:List Value} {ts:Array TypeId} (hc:∀args w,(callFunc f args).run P w=.ok (.enter f args) w) (h:∀w,BI w0 w L->Calls P f args.toArray w (Ag w v))
    (h2:(evF F x,xs.map (evF F),Nat.ble (d+1) n)=(some (.func (.func f) #[] #[]),args.map some,true)) (next:AU P ops rest Q n ((d,v)::F) w0 L) :
    AU P ops (⟨some d,.call { callee:=.value x,args:=xs.toArray,argTypes:=ts },t,p,af,none⟩::rest) Q n F w0 L:=cl hc h (Cf h2) (Cf (BQ h2)) (BQ (BQ h2)) next
theorem ck' {f:FuncId} {xs:List Operand} {args:List Value} {ts:Array TypeId} (hc:∀args w,(callFunc f args).run P w=.ok (.enter f args) w) (h:∀w,Calls P f args.toArray w (Ag w v))
    (h2:(evF F x,xs.map (evF F),Nat.ble (d+1) n)=(some (.func (.func f) #[] #[]),args.map some,true)) (next:AU P ops rest Q n ((d,v)::F) w0 L) :
    AU P ops (⟨some d,.call { callee:=.value x,args:=xs.toArray,argTypes:=ts },t,p,af,none⟩::rest) Q n F w0 L:=C7 hc (λw _=>h w) h2 next
variable {A0 A1 A2 A3 A4 A5:As}
theorem Ah (h:(evF F x,evF F y,v.cells)=(some (pP b 0),some v,vs.toArray)) (hs:∀w,(sizeOf ty).run P w=.ok vs.length w) (h2:(vs.all λu=>u.oneCell',vs.length)=(true,cs.length))
    (next:AU P ops rest Q n F w0 (AX b T vs::L)):AU P ops (⟨none,.store ty x y,t,p,af,none⟩::rest) Q n F w0 (AX b T cs::L):=d8 (Cf h) (Cf (BQ h)) (BQ (BQ h)) hs (Cf h2) (BQ h2) next
theorem CS (h:(evF F x,evF F y,v.cells)=(some (pP b 0),some v,vs.toArray)) (hs:∀w,(sizeOf ty).run P w=.ok vs.length w) (h2:(vs.all λu=>u.oneCell',vs.length)=(true,cs.length))
    (next:AU P ops rest Q n F w0 (A0::AX b T vs::L)):AU P ops (⟨none,.store ty x y,t,p,af,none⟩::rest) Q n F w0 (A0::AX b T cs::L):=d9 (Cf h) (Cf (BQ h)) (BQ (BQ h)) hs (Cf h2) (BQ h2) next
theorem Lv (h:(evF F x,evF F y,v.cells)=(some (pP b 0),some v,vs.toArray)) (hs:∀w,(sizeOf ty).run P w=.ok vs.length w) (h2:(vs.all λu=>u.oneCell',vs.length)=(true,cs.length))
    (next:AU P ops rest Q n F w0 (A0::A1::AX b T vs::L)):AU P ops (⟨none,.store ty x y,t,p,af,none⟩::rest) Q n F w0 (A0::A1::AX b T cs::L):=d_ (Cf h) (Cf (BQ h)) (BQ (BQ h)) hs (Cf h2) (BQ h2) next
theorem Gc (h:(evF F x,evF F y,v.cells)=(some (pP b 0),some v,vs.toArray)) (hs:∀w,(sizeOf ty).run P w=.ok vs.length w) (h2:(vs.all λu=>u.oneCell',vs.length)=(true,cs.length))
    (next:AU P ops rest Q n F w0 (A0::A1::A2::AX b T vs::L)):AU P ops (⟨none,.store ty x y,t,p,af,none⟩::rest) Q n F w0 (A0::A1::A2::AX b T cs::L):=eA (Cf h) (Cf (BQ h)) (BQ (BQ h)) hs (Cf h2) (BQ h2) next
theorem Fm (i:Nat) {v:Value} {cs':List Value} (hw:Wt ops n F ⟨none,.store ty x y,t,p,af,g⟩) (h:(evF F x,evF F y,L[i]?,v.cells)=(some (pP b off),some v,some (AX b T cs),vs.toArray))
    (hs:∀w,(sizeOf ty).run P w=.ok vs.length w) (h2:(vs.all λu=>u.oneCell',Nat.ble (off+vs.length) cs.length,Gi cs off vs,Pa L i (AX b T cs'))=(true,true,cs',some L')) (next:AU P ops rest Q n F w0 L'):AU P ops (⟨none,.store ty x y,t,p,af,g⟩::rest) Q n F w0 L :=
  zo hw rfl (Cf h) (Cf (BQ h)) (Cf (BQ (BQ h))) (BQ (BQ (BQ h))) hs (Cf h2) (Cf (BQ h2)) (Cf (BQ (BQ h2))) (Hc (BQ (BQ (BQ h2)))) next
end
theorem Av {P:Program} {ops:Array Oper} {rest:List Oper} {Q:Exit->Act->World->Prop} {n j d t2:Nat} {b:Bool} {F:List (Nat×Value)} {w0:BF} {L:List As} {v:Value} {o:Oper} (h:(o.guard,(ops[j]?).bind (·.dst),F.lookup t2,o.dst,Nat.ble (d+1) n)=(some (j,b),some t2,some (.bool b),some d,true)) (he:Ex P n F w0 L o v) (next:AU P ops rest Q n ((d,v)::F) w0 L):AU P ops (o::rest) Q n F w0 L :=
  AU.step (Oc (Cf h) (Cf (BQ h)) (Cf (BQ (BQ h)))) he (Cf (BQ (BQ (BQ h)))) (Nat.le_of_ble_eq_true (BQ (BQ (BQ (BQ h))))) next
theorem BD {P:Program} {ops:Array Oper} {rest:List Oper} {Q:Exit->Act->World->Prop} {n j d t2:Nat} {b:Bool} {F:List (Nat×Value)} {w0:BF} {L:List As} {o:Oper} (h:(o.guard,(ops[j]?).bind (·.dst),F.lookup t2,o.dst,Nat.ble (d+1) n)=(some (j,b),some t2,some (.bool (!b)),some d,true)) (next:AU P ops rest Q n ((d,undef)::F) w0 L):AU P ops (o::rest) Q n F w0 L :=
  yP (W4 (Cf h) (Cf (BQ h)) (Cf (BQ (BQ h)))) (Cf (BQ (BQ (BQ h)))) (Nat.le_of_ble_eq_true (BQ (BQ (BQ (BQ h))))) next
theorem F0 {P:Program} {ops:Array Oper} {rest:List Oper} {Q:Exit->Act->World->Prop} {n j d t2:Nat} {b:Bool} {F:List (Nat×Value)} {w0:BF} {L:List As} {v:Value} {x:Operand} {t:TypeId} {p:String} {af:Array Edge} (h:((ops[j]?).bind (·.dst),F.lookup t2,evF F x,Nat.ble (d+1) n)=(some t2,some (.bool b),some v,true)) (next:AU P ops rest Q n ((d,v)::F) w0 L):AU P ops (⟨some d,.move x,t,p,af,some (j,b)⟩::rest) Q n F w0 L :=
  AU.step (Oc rfl (Cf h) (Cf (BQ h))) (DD (Cf (BQ (BQ h)))) rfl (Nat.le_of_ble_eq_true (BQ (BQ (BQ h)))) next
end
section
set_option maxRecDepth 100000
theorem OS:Fs prog 2:=⟨isAgg2⟩
theorem BP:Fs prog 3:=⟨isAgg3⟩
theorem Wj:Fs prog 4:=⟨isAgg4⟩
theorem Wl:Fs prog 5:=⟨isAgg5⟩
theorem Tj:Fs prog 9:=⟨isAgg9⟩
theorem ap:Fs prog 22:=⟨isAgg22⟩
theorem Y2:Fs prog 23:=⟨isAgg23⟩
theorem OR:Dj prog 26 9:=⟨isAgg26,sizeOf26⟩
theorem CM:Fs prog 28:=⟨isAgg28⟩
theorem Qx:Fs prog 29:=⟨isAgg29⟩
theorem DC:Fs prog 32:=⟨isAgg32⟩
theorem Bg:Dj prog 34 3:=⟨isAgg34,sizeOf34⟩
theorem G8:Dj prog 54 4:=⟨isAgg54,sizeOf54⟩
theorem G9:Fs prog 60:=⟨isAgg60⟩
theorem CF:Dj prog 62 2:=⟨isAgg62,sizeOf62⟩
theorem TS:Dj prog 64 2:=⟨isAgg64,sizeOf64⟩
theorem DU:Dj prog 66 3:=⟨isAgg66,sizeOf66⟩
theorem Bf:Dj prog 68 5:=⟨isAgg68,sizeOf68⟩
theorem Bm:Dj prog 71 3:=⟨isAgg71,sizeOf71⟩
theorem Cp:Dj prog 72 2:=⟨isAgg72,sizeOf72⟩
theorem BC:Dj prog 78 10:=⟨isAgg78,sizeOf78⟩
theorem Qw:Dj prog 80 3:=⟨isAgg80,sizeOf80⟩
theorem TT:Fs prog 85:=⟨isAgg85⟩
theorem eD:Dj prog 87 3:=⟨isAgg87,sizeOf87⟩
theorem eE:Fs prog 89:=⟨isAgg89⟩
theorem cO:Dj prog 92 2:=⟨isAgg92,sizeOf92⟩
theorem cP:Dj prog 94 4:=⟨isAgg94,sizeOf94⟩
theorem G7:Dj prog 127 6:=⟨isAgg127,sizeOf127⟩
theorem NL:Dj prog 177 2:=⟨isAgg177,sizeOf177⟩
theorem NM:Dj prog 204 30:=⟨isAgg204,sizeOf204⟩
theorem cN:Dj prog 253 15:=⟨isAgg253,sizeOf253⟩
theorem G_:DI prog 34 ([jj,jj,jj]):=⟨_,zeroValue34,rfl⟩
theorem II:DI prog 54 ([(vI 0),(vI 0),(vI 0),(vI 0)]):=⟨_,zeroValue54,rfl⟩
theorem GZ:DI prog 62 (AV 0):=⟨_,zeroValue62,rfl⟩
theorem cW:DI prog 64 (AV 0):=⟨_,zeroValue64,rfl⟩
theorem J9:DI prog 66 (A8 0):=⟨_,zeroValue66,rfl⟩
theorem DV:DI prog 68 (AG (0:Rat)):=⟨_,zeroValue68,rfl⟩
theorem Hk:DI prog 71 ([(vI 0),(vI 0),(vI 0)]):=⟨_,zeroValue71,rfl⟩
theorem OT:DI prog 72 ([(vI 0),(vI 0)]):=⟨_,zeroValue72,rfl⟩
theorem Ep:DI prog 78 (AZ (⟨0,0⟩:Pt)):=⟨_,zeroValue78,rfl⟩
theorem eF:DI prog 80 ([(vI 0),(vI 0),(vI 0)]):=⟨_,zeroValue80,rfl⟩
theorem aq:DI prog 87 ([jj,jj,jj]):=⟨_,zeroValue87,rfl⟩
theorem eG:DI prog 90 ([(vI 0),(vI 0)]):=⟨_,zeroValue90,rfl⟩
theorem eH:DI prog 94 ([(vI 0),(Value.int .u32 (0:Int)),(vI 0),(Value.int .u32 (0:Int))]):=⟨_,zeroValue94,rfl⟩
theorem Ly:DI prog 127 ([(vI 0),(vI 0),(vI 0),(vI 0),(vI 0),(vI 0)]):=⟨_,zeroValue127,rfl⟩
theorem Wm:DI prog 177 ([(vI 0),(vI 0)]):=⟨_,zeroValue177,rfl⟩
theorem cT:DI prog 192 (AG (0:Rat)):=⟨_,zeroValue192,rfl⟩
theorem Wn:DI prog 204 (AZ (⟨0,0⟩:Pt)++AZ (⟨0,0⟩:Pt)++AZ (⟨0,0⟩:Pt)):=⟨_,zeroValue204,rfl⟩
theorem cU:DI prog 210 ([(vI 0),(vI 0),(vI 0),(vI 0)]):=⟨_,zeroValue210,rfl⟩
theorem NN:DI prog 253 (AG (0:Rat)++AG (0:Rat)++AG (0:Rat)):=⟨_,zeroValue253,rfl⟩
theorem cV:DI prog 308 ([(Value.int .u8 (0:Int)),(Value.int .u8 (0:Int)),(Value.int .u8 (0:Int)),(Value.int .u8 (0:Int)),(Value.int .u8 (0:Int)),(Value.int .u8 (0:Int)),(Value.int .u8 (0:Int)),(Value.int .u8 (0:Int)),(Value.int .u8 (0:Int)),(Value.int .u8 (0:Int)),(Value.int .u8 (0:Int)),(Value.int .u8 (0:Int)),(Value.int .u8 (0:Int)),(Value.int .u8 (0:Int)),(Value.int .u8 (0:Int)),(Value.int .u8 (0:Int)),(Value.int .u8 (0:Int)),(Value.int .u8 (0:Int)),(Value.int .u8 (0:Int)),(Value.int .u8 (0:Int)),(Value.int .u8 (0:Int)),(Value.int .u8 (0:Int)),(Value.int .u8 (0:Int)),(Value.int .u8 (0:Int))]):=⟨_,zeroValue308,rfl⟩
end
end Go.Proofs.YtbfdamnfcmefmaaGreatDoor
