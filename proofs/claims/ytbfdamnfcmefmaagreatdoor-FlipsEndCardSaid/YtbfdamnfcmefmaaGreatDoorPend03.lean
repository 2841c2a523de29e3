import Derived.Laws.Externs
import Derived.Test.YtbfdamnfcmefmaaGreatDoorPend02
namespace Go.Proofs.YtbfdamnfcmefmaaGreatDoor
open Go Go.RowKit Go.Proofs.Tryz
open Go.Value renaming slice→qz,bool→qa
set_option linter.unusedVariables false
set_option linter.unusedSimpArgs false
def D0 (bs:List Nat):Nat->Nat
  | 0=>0
  | m+1=>if bs.getD m 0=0 then D0 bs m else m+1
theorem ST {bs:List Nat} {k:Nat} (h:0<k) (h0:bs.getD (k-1) 0=0):D0 bs k=D0 bs (k-1):=by
  obtain ⟨j,rfl⟩:∃j,k=j+1:=⟨k-1,Z⟩
  simp only [D0];rw [if_pos (by simpa using h0)];simp
theorem SU {bs:List Nat} {k:Nat} (h:¬(0<k/\bs.getD (k-1) 0=0)):D0 bs k=k:=by
  cases k with
  | zero=>rfl
  | succ j=>simp only [D0];rw [if_neg (by simpa using h)]
theorem J7 (bs:List Nat):∀m,D0 bs m<=m
  | 0=>Nat.le_refl _
  | m+1=>by
    simp only [D0]
    split
    · have:=J7 bs m;omega
    · exact Nat.le_refl _
theorem Mt (bs:List Nat):∀m,D0 bs m≠0->bs.getD (D0 bs m-1) 0≠0
  | 0,h=>absurd rfl h
  | m+1,h=>by
    simp only [D0] at h ⊢
    split
    · rename_i h0;rw [if_pos h0] at h;exact Mt bs m h
    · rename_i h0;simpa using h0
theorem MA (bs:List Nat):∀m,val (bs.take (D0 bs m))=val (bs.take m)
  | 0=>rfl
  | m+1=>by
    simp only [D0]
    split
    · rename_i h0;rw [MA bs m,BW,h0];omega
    · rfl
theorem JS {bs:List Nat} (hb:W32 bs) {m:Nat} (hm:m<=bs.length):AK (val (bs.take m))=bs.take (D0 bs m):=by
  rw [<-MA]
  refine OU (hb.take _) λx hx=>?_
  have hle:=J7 bs m
  have hne:D0 bs m≠0:=λh0=>by rw [h0] at hx;simp at hx
  have hl:(bs.take (D0 bs m)).getLast?=some (bs.getD (D0 bs m-1) 0):=by
    rw [List.getLast?_eq_getElem?]
    have h1:(bs.take (D0 bs m)).length-1=D0 bs m-1:=by simp;omega
    rw [h1,List.getElem?_take,if_pos Z]
    have h2:D0 bs m-1<bs.length:=by omega
    simp [h2]
  rw [hl] at hx
  injection hx with hx
  rw [<-hx]
  exact Mt bs m hne
theorem Qi {bs:List Nat} (hb:W32 bs) {m:Nat} (hm:m<=bs.length):nw (val (bs.take m))=D0 bs m:=by
  unfold nw
  rw [JS hb hm,List.length_take]
  have:=J7 bs m
  omega
theorem H_ {v:Nat} (h:v<18446744073709551616):small v=true:=by simp [small,h]
theorem Jn {v:Nat} (h:¬v<18446744073709551616):small v=false:=by simp [small,h]
theorem Dq {v:Nat} (h:v<18446744073709551616):AT v=[.int .u64 (v:Nat),.string ByteArray.empty]:=by
  simp [AT,B6,Bm,H_ h]
theorem Bf {v:Nat} (h:v<18446744073709551616):B6 v=v:=by simp [B6,H_ h]
def bytesN (xs:List Nat):List Nat:=xs.flatMap λx=>[x%256,x/256%256,x/65536%256,x/16777216%256]
theorem CB (xs:List Nat):(bytesN xs).length=4*xs.length:=by
  induction xs with
  | nil=>rfl
  | cons x xs ih=>simp [bytesN] at ih ⊢;omega
theorem MK (xs ys:List Nat):bytesN (xs++ys)=bytesN xs++bytesN ys:=by simp [bytesN]
theorem Ml (xs:List Nat):DM (bytesN xs)=⟨(xs.flatMap UY).toArray⟩:=by
  unfold DM
  congr 2
  induction xs with
  | nil=>rfl
  | cons x xs ih =>
    simp only [bytesN,List.flatMap_cons,List.map_append] at ih ⊢
    rw [ih]
    rfl
theorem Vv {v:Nat} (h:¬v<18446744073709551616):AT v=[.int .u64 (0:Nat),.string (DM (bytesN (AK v)))]:=by
  simp [AT,B6,Bm,Jn h,Ml]
theorem Hq {v:Nat} (h:v<18446744073709551616):Bm v=ByteArray.empty:=by simp [Bm,H_ h]
theorem FA {v:Nat} (h:¬v<18446744073709551616):Bm v=DM (bytesN (AK v)):=by simp [Bm,Jn h,Ml]
theorem Lt (xs:List Nat):(DM xs).size=xs.length:=by simp [DM,ByteArray.size]
theorem TN {xs:List Nat} {j:Nat} (h:j<xs.length):(DM xs)[j]?=some (UInt8.ofNat (xs.getD j 0)):=by
  have h1:j<(DM xs).size:=by rw [Lt];exact h
  rw [getElem?_pos (DM xs) j h1]
  congr 1
  show (DM xs).data[j]'h1=_
  simp [DM,h]
theorem GE:∀(xs:List Nat) (i k:Nat),i<xs.length->k<4->(bytesN xs).getD (4*i+k) 0=xs.getD i 0/256^k%256
  | [],i,k,h,_=>by simp at h
  | x::xs,0,k,_,hk=>by
    rcases k with _|_|_|_|k
    · simp [bytesN]
    · simp [bytesN]
    · simp [bytesN]
    · simp [bytesN]
    · omega
  | x::xs,i+1,k,h,hk=>by
    have ih:=GE xs i k (by simpa using h) hk
    have e:4*(i+1)+k=(4*i+k)+4:=by omega
    rw [e,List.getD_cons_succ,<-ih]
    simp [bytesN]
theorem Qh {v:Nat} (h:¬v<18446744073709551616):2<nw v:=by
  rcases Nat.lt_or_ge 2 (nw v) with h1|h1
  · exact h1
  · exact absurd (Cs.1 h1) Z
theorem Cg {v:Nat}:((Bm v).toList == (ByteArray.mk #[]).toList)=decide (v<18446744073709551616):=by
  by_cases h:v<18446744073709551616
  · rw [Hq h];simp [h]
  · have h1:=Qh h
    rw [ByteArray.toList_eq,ByteArray.toList_eq]
    have h2:(Bm v).data.toList≠[]:=λe=>by
      have h3:(Bm v).data.toList.length=0:=by rw [e];rfl
      rw [FA h] at h3
      simp [DM,CB] at h3
      unfold nw at h1
      omega
    have h4:((Bm v).data.toList == [])=false:=by
      cases hl:(Bm v).data.toList with
      | nil=>exact absurd hl h2
      | cons=>rfl
    rw [show (ByteArray.mk #[]).data.toList=[] from rfl,h4]
    simp [h]
def Ar (v:Nat):List Nat:=if v<18446744073709551616 then [v%4294967296,v/4294967296] else AK v
theorem CU (v:Nat):W32 (Ar v):=by
  unfold Ar
  split
  · exact W32.cons Z (W32.cons Z W32.nil)
  · exact Br v
theorem Yp {v:Nat} (h:v<18446744073709551616):W32 [v%4294967296,v/4294967296]:=W32.cons Z (W32.cons Z W32.nil)
theorem CQ (v:Nat):nw v<=(Ar v).length:=by
  unfold Ar
  split
  · rename_i h;exact Lh h
  · exact Nat.le_refl _
theorem Ih (v:Nat):(Ar v).take (nw v)=AK v:=by
  unfold Ar
  split
  · rename_i h
    have e:v=val ([v%4294967296,v/4294967296].take 2):=by simp [val];omega
    have hw:W32 [v%4294967296,v/4294967296]:=W32.cons Z (W32.cons Z W32.nil)
    have h1:=JS hw (m:=2) jX
    have h2:=Qi hw (m:=2) jX
    rw [<-e] at h1 h2
    rw [h2,<-h1]
  · exact List.take_of_length_le (Nat.le_refl _)
theorem R9 (v:Nat):val (Ar v)=v:=by
  unfold Ar
  split
  · simp [val];omega
  · exact CY v
theorem H6 {a b s:Nat} (ha:a<2^s):a ||| b*2^s=a+b*2^s:=by
  rw [Nat.or_comm,Nat.mul_comm,<-Nat.two_pow_add_eq_or_of_lt ha];omega
theorem KR {a b:Nat} (ha:a<18446744073709551616) (hb:b<18446744073709551616) {c:Nat} (hc:a ||| b=c):IntKind.u64.wrap ((BitVec.ofInt IntKind.u64.bits (a:Int) ||| BitVec.ofInt IntKind.u64.bits (b:Int)).toNat:Int)=(c:Int):=by
  have e:(BitVec.ofInt IntKind.u64.bits (a:Int) ||| BitVec.ofInt IntKind.u64.bits (b:Int)).toNat=a ||| b:=by
    show (BitVec.ofInt 64 (a:Int) ||| BitVec.ofInt 64 (b:Int)).toNat=_
    rw [BitVec.toNat_or,BitVec.ofInt_natCast,BitVec.ofInt_natCast,BitVec.toNat_ofNat,BitVec.toNat_ofNat,Nat.mod_eq_of_lt (show a<2^64 by omega),Nat.mod_eq_of_lt (show b<2^64 by omega)]
  rw [e,hc]
  have h2:a ||| b<2^64:=Nat.or_lt_two_pow ha hb
  exact EC Z Z
theorem KQ {a b:Nat} (ha:a<4294967296) (hb:b<4294967296) {c:Nat} (hc:a ||| b=c):IntKind.u32.wrap ((BitVec.ofInt IntKind.u32.bits (a:Int) ||| BitVec.ofInt IntKind.u32.bits (b:Int)).toNat:Int)=(c:Int):=by
  have e:(BitVec.ofInt IntKind.u32.bits (a:Int) ||| BitVec.ofInt IntKind.u32.bits (b:Int)).toNat=a ||| b:=by
    show (BitVec.ofInt 32 (a:Int) ||| BitVec.ofInt 32 (b:Int)).toNat=_
    rw [BitVec.toNat_or,BitVec.ofInt_natCast,BitVec.ofInt_natCast,BitVec.toNat_ofNat,BitVec.toNat_ofNat,Nat.mod_eq_of_lt (show a<2^32 by omega),Nat.mod_eq_of_lt (show b<2^32 by omega)]
  rw [e,hc]
  have h2:a ||| b<2^32:=Nat.or_lt_two_pow ha hb
  exact HF Z Z
theorem G2 {a s:Nat} (h:a*2^s<18446744073709551616):IntKind.u64.wrap ((a:Int)*2^s)=((a*2^s:Nat):Int):=by
  have e:(a:Int)*2^s=((a*2^s:Nat):Int):=by simp
  rw [e,EC Z Z]
theorem WX {a s:Nat} (h:a*2^s<4294967296):IntKind.u32.wrap ((a:Int)*2^s)=((a*2^s:Nat):Int):=by
  have e:(a:Int)*2^s=((a*2^s:Nat):Int):=by simp
  rw [e,HF Z Z]
theorem NH {a s:Nat}:IntKind.u32.wrap ((a:Int)*2^s)=((a*2^s%4294967296:Nat):Int):=by
  have e:(a:Int)*2^s=((a*2^s:Nat):Int):=by simp
  rw [e];exact EX
theorem WC (k:Nat):(256:Nat)^k=2^(8*k):=by rw [show (256:Nat)=2^8 from rfl,<-Nat.pow_mul]
theorem RI {w k:Nat} (hk:k<4):w/256^k%256*2^(8*k)<4294967296:=by
  rcases k with _|_|_|_|k
  · simp;omega
  · simp;omega
  · simp;omega
  · simp;omega
  · omega
theorem SM {w k x:Nat} (hx:x=w%256^k):x ||| w/256^k%256*2^(8*k)=w%256^(k+1):=by
  subst hx
  rw [H6 (by rw [<-WC];exact Nat.mod_lt _ (Nat.pow_pos Z)),<-WC,Nat.mod_pow_succ,Nat.mul_comm]
theorem Q6 {os ws xs:List Nat} {n i:Nat} (hl:os.length=n) (hn:ws.length=n) (hi:i<n) (ht:os.take i=ws.take i) (h0:∀j,i<=j->os.getD j 0=0) (hx:xs=os.set i (ws.getD i 0)) :
    xs.length=n/\xs.take (i+1)=ws.take (i+1)/\∀j,i+1<=j->xs.getD j 0=0:=by
  subst hx
  refine ⟨by simp [hl],?_,λj hj=>?_⟩
  · have e1:i<os.length:=by omega
    have e2:i<ws.length:=by omega
    rw [List.take_add_one,List.take_add_one,List.take_set_of_le (Nat.le_refl _),ht]
    simp [e1,e2]
  · have:=h0 j Z
    rw [List.getD_eq_getElem?_getD,List.getElem?_set_ne Z,<-List.getD_eq_getElem?_getD]
    exact this
theorem WU {os:List Nat} {i:Nat} (h:os.getD i 0=0):os=os.set i 0:=by
  apply List.ext_getElem jX
  intro j h1 h2
  by_cases e:i=j
  · subst e;simpa [h1] using h
  · simp [e]
theorem ZU (k:Nat):(4294967296:Nat)^k=2^(32*k):=by rw [show (4294967296:Nat)=2^32 from rfl,<-Nat.pow_mul]
theorem WW {x i:Nat} (hx:x<4294967296) (hi:i<2):x*2^(32*i)<18446744073709551616:=by
  rcases i with _|_|i
  · simp;omega
  · simp;omega
  · omega
theorem TJ {n i:Nat} (h:n<4294967296^i) (hi:i<2):n<18446744073709551616:=by
  rcases i with _|_|i
  · simp at h;omega
  · simp at h;omega
  · omega
theorem P4 {bs:List Nat} {i K:Nat} (hi:i<K) (hK:K<=bs.length) :
    Gc (J3 (bytesN (bs.take i)++List.replicate (4*(K-i)) 0)) (4*i) (J3 [bs.getD i 0%256,bs.getD i 0/256%256,bs.getD i 0/65536%256,bs.getD i 0/16777216%256])=J3 (bytesN (bs.take (i+1))++List.replicate (4*(K-(i+1))) 0):=by
  have hib:i<bs.length:=by omega
  have e1:bs.take (i+1)=bs.take i++[bs.getD i 0]:=by rw [List.take_add_one];simp [hib]
  have hl:(bytesN (bs.take i)).length=4*i:=by rw [CB,List.length_take];omega
  have e2:List.replicate (4*(K-i)) 0=List.replicate 4 0++List.replicate (4*(K-(i+1))) 0:=by rw [List.replicate_append_replicate];congr 1;omega
  have e3:bytesN [bs.getD i 0]=[bs.getD i 0%256,bs.getD i 0/256%256,bs.getD i 0/65536%256,bs.getD i 0/16777216%256]:=by simp [bytesN]
  rw [e1,MK,e3,e2]
  unfold Gc J3
  simp only [List.map_append]
  rw [List.take_append_of_le_length (by simp [hl]),List.take_of_length_le (by simp [hl])]
  rw [show 4*i+(List.map (λx=>Value.int IntKind.u8 (x:Nat)) [bs.getD i 0%256,bs.getD i 0/256%256,bs.getD i 0/65536%256,bs.getD i 0/16777216%256]).length=4*i+4 from rfl]
  rw [List.drop_append,List.drop_of_length_le (by simp [hl])]
  simp [hl]
theorem WO {os ws:List Nat} {n i:Nat} (hl:os.length=n) (hn:ws.length=n) (hi:¬i<n) (ht:os.take i=ws.take i):os=ws:=by
  rwa [List.take_of_length_le Z,List.take_of_length_le Z] at ht
section
theorem Vm {a:Nat}:IntKind.u64.wrap (a:Int)=((a%18446744073709551616:Nat):Int):=by
  simp only [IntKind.wrap,IntKind.bits,IntKind.signed];simp
theorem Vp {a b:Nat}:IntKind.u64.wrap ((a:Int)*(b:Int))=((a*b%18446744073709551616:Nat):Int):=by
  rw [<-Int.natCast_mul];exact Vm
theorem UK {a b:Nat}:IntKind.u32.wrap ((a:Int)+(b:Int))=(((a+b)%4294967296:Nat):Int):=by
  rw [<-Int.natCast_add];exact EX
theorem Pb {a b:Nat} (h:b<=4294967296):IntKind.u32.wrap ((a:Int)-(b:Int))=(((a+(4294967296-b))%4294967296:Nat):Int):=by
  simp only [IntKind.wrap,IntKind.bits,IntKind.signed];simp;omega
theorem NM {a:Nat} (h:a<18446744073709551616):(BitVec.ofInt IntKind.u64.bits (a:Int)).toNat=a:=by
  show (BitVec.ofInt 64 (a:Int)).toNat=_
  rw [BitVec.ofInt_natCast,BitVec.toNat_ofNat,Nat.mod_eq_of_lt Z]
theorem Hd {a:Nat} (h:a<4294967296):(BitVec.ofInt IntKind.u32.bits (a:Int)).toNat=a:=by
  show (BitVec.ofInt 32 (a:Int)).toNat=_
  rw [BitVec.ofInt_natCast,BitVec.toNat_ofNat,Nat.mod_eq_of_lt Z]
theorem UN {a b:Nat} (ha:a<18446744073709551616) (hb:b<18446744073709551616):IntKind.u64.wrap ((BitVec.ofInt IntKind.u64.bits (a:Int) &&& BitVec.ofInt IntKind.u64.bits (b:Int)).toNat:Int)=((a &&& b:Nat):Int):=by
  rw [BitVec.toNat_and,NM ha,NM hb]
  have:a &&& b<=a:=Nat.and_le_left
  exact EC Z Z
theorem I4 {a:Nat} (ha:a<18446744073709551616):IntKind.u64.wrap ((BitVec.ofInt IntKind.u64.bits (a:Int) &&& BitVec.ofInt IntKind.u64.bits ((4294967295:Nat):Int)).toNat:Int)=((a%4294967296:Nat):Int):=by
  rw [UN ha Z,show (4294967295:Nat)=2^32-1 from rfl,Nat.and_two_pow_sub_one_eq_mod]
theorem Om {a b:Nat} (ha:a<4294967296) (hb:b<4294967296):IntKind.u32.wrap ((BitVec.ofInt IntKind.u32.bits (a:Int) &&& BitVec.ofInt IntKind.u32.bits (b:Int)).toNat:Int)=((a &&& b:Nat):Int):=by
  rw [BitVec.toNat_and,Hd ha,Hd hb]
  have:a &&& b<=a:=Nat.and_le_left
  exact HF Z Z
theorem Po {a b:Nat} (ha:a<4294967296) (hb:b<4294967296):IntKind.u32.wrap ((BitVec.ofInt IntKind.u32.bits (a:Int) ^^^ BitVec.ofInt IntKind.u32.bits (b:Int)).toNat:Int)=((a ^^^ b:Nat):Int):=by
  rw [BitVec.toNat_xor,Hd ha,Hd hb]
  have:a ^^^ b<2^32:=Nat.xor_lt_two_pow ha hb
  exact HF Z Z
theorem Oy {a:Nat} (ha:a<4294967296):IntKind.u32.wrap ((BitVec.ofInt IntKind.u32.bits (if IntKind.u32.signed then -1 else IntKind.u32.max) ^^^ BitVec.ofInt IntKind.u32.bits (a:Int)).toNat:Int)=((4294967295 ^^^ a:Nat):Int):=by
  rw [show (if IntKind.u32.signed then -1 else IntKind.u32.max)=((4294967295:Nat):Int) from rfl]
  exact Po Z ha
def JX (x y:Nat):Nat:=if x<y then 1 else 0
theorem cu {r:Nat} (h:r<4294967296):r/2147483648=if r.testBit 31 then 1 else 0:=by
  have e:r.testBit 31=decide (r/2147483648%2=1):=Nat.testBit_eq_decide_div_mod_eq ..
  rw [e]
  by_cases h1:r/2147483648%2=1
  · rw [if_pos (by simpa using h1)];omega
  · rw [if_neg (by simpa using h1)];omega
theorem RH {x:Nat} (h:x<4294967296):x.testBit 31=decide (2147483648<=x):=by
  rw [Nat.testBit_eq_decide_div_mod_eq]
  exact decide_eq_decide.2 Z
theorem UW {x y c:Nat} (hx:x<4294967296) (hy:y<4294967296) (hc:c<=1) {d:Nat} (hd:d=(x+(4294967296-y)+(4294967296-c))%4294967296) :
    ((4294967295 ^^^ x) &&& y ||| (4294967295 ^^^ (x ^^^ y)) &&& d)/2147483648=JX x (y+c):=by
  have hd':d<4294967296:=by omega
  have h1:((4294967295 ^^^ x) &&& y ||| (4294967295 ^^^ (x ^^^ y)) &&& d)<2^32:=by
    refine Nat.or_lt_two_pow ?_ ?_
    · exact Nat.lt_of_le_of_lt Nat.and_le_right hy
    · exact Nat.lt_of_le_of_lt Nat.and_le_right hd'
  rw [cu Z]
  simp only [Nat.testBit_or,Nat.testBit_and,Nat.testBit_xor,RH hx,RH hy,RH hd',RH (show 4294967295<4294967296 by omega)]
  unfold JX
  by_cases h2:2147483648<=x<;>by_cases h3:2147483648<=y<;>by_cases h4:2147483648<=d<;>simp [h2,h3,h4]<;>omega
theorem Vn (x y:Nat):x/4294967296*(y/4294967296)+(x/4294967296*(y%4294967296)+x%4294967296*(y%4294967296)/4294967296)/4294967296+((x/4294967296*(y%4294967296)+x%4294967296*(y%4294967296)/4294967296)%4294967296+x%4294967296*(y/4294967296))/4294967296=x*y/18446744073709551616:=by
  have e:x*y=x%4294967296*(y%4294967296)+4294967296*(x/4294967296*(y%4294967296)+x%4294967296*(y/4294967296))+18446744073709551616*(x/4294967296*(y/4294967296)):=by
    have hx:x=x%4294967296+4294967296*(x/4294967296):=by omega
    have hy:y=y%4294967296+4294967296*(y/4294967296):=by omega
    generalize x%4294967296=a at *
    generalize x/4294967296=b at *
    generalize y%4294967296=c at *
    generalize y/4294967296=d at *
    subst hx;subst hy
    grind
  rw [e]
  generalize x%4294967296*(y%4294967296)=p
  generalize x/4294967296*(y%4294967296)=q
  generalize x%4294967296*(y/4294967296)=r
  generalize x/4294967296*(y/4294967296)=t
  omega
theorem LY {a b:Nat} (ha:a<4294967296) (hb:b<4294967296):a*b<=18446744065119617025:=Nat.mul_le_mul (show a<=4294967295 by omega) (show b<=4294967295 by omega)
def bl (x:Nat):Nat:=if x=0 then 0 else Nat.log2 x+1
theorem QY {x k:Nat} (h:2^k<=x):Nat.log2 x=Nat.log2 (x/2^k)+k:=by
  have hx:x≠0:=by have:=Nat.pow_pos (n:=k) (show 0<2 by omega);omega
  have hq:x/2^k≠0:=by
    have:=Nat.div_pos h (Nat.pow_pos (n:=k) (show 0<2 by omega));omega
  have h1:=(Nat.log2_eq_iff hq).1 rfl
  rw [Nat.log2_eq_iff hx]
  have hm:=Nat.div_add_mod x (2^k)
  have hlt:=Nat.mod_lt x (Nat.pow_pos (n:=k) (show 0<2 by omega))
  constructor
  · rw [Nat.pow_add,Nat.mul_comm]
    exact xM (Nat.mul_le_mul_left _ h1.1) (Nat.mul_div_le x _)
  · rw [show (x/2^k).log2+k+1=((x/2^k).log2+1)+k by omega,Nat.pow_add]
    exact (Nat.div_lt_iff_lt_mul (Nat.pow_pos Z)).1 h1.2
theorem Oo {x k:Nat} (h:2^k<=x):bl x=bl (x/2^k)+k:=by
  have hx:x≠0:=by have:=Nat.pow_pos (n:=k) (show 0<2 by omega);omega
  have hq:x/2^k≠0:=by
    have:=Nat.div_pos h (Nat.pow_pos (n:=k) (show 0<2 by omega));omega
  simp only [bl,hx,hq,if_false,QY h]
  omega
theorem UU {x k:Nat} (h:x<2^k):bl x<=k:=by
  unfold bl
  split
  · omega
  · rename_i hx
    have:=(Nat.log2_lt hx).2 h
    omega
theorem Sr {y:Nat} (h0:0<y) (h:y<4294967296):bl y<=32/\0<bl y/\2147483648<=y*2^(32-bl y)/\y*2^(32-bl y)<4294967296:=by
  have hy:y≠0:=by omega
  have h1:=(Nat.log2_eq_iff hy).1 rfl
  have h2:=UU (k:=32) (show y<2^32 by omega)
  have hb:bl y=y.log2+1:=by simp [bl,hy]
  refine ⟨h2,Z,?_,?_⟩
  · rw [hb] at h2 ⊢
    calc 2147483648=2^y.log2*2^(32-(y.log2+1)):=by rw [<-Nat.pow_add,show y.log2+(32-(y.log2+1))=31 by omega]
      _<=_:=Nat.mul_le_mul_right _ h1.1
  · rw [hb] at h2 ⊢
    calc y*2^(32-(y.log2+1))<2^(y.log2+1)*2^(32-(y.log2+1)):=Nat.mul_lt_mul_of_pos_right h1.2 (Nat.pow_pos Z)
      _=4294967296:=by rw [<-Nat.pow_add,show y.log2+1+(32-(y.log2+1))=32 by omega]
theorem bE {s:ByteArray} (h:((List.range 256).all λj=>s[j]? == some (UInt8.ofNat (bl j)))=true) {j:Nat} (hj:j<256):s[j]?=some (UInt8.ofNat (bl j)):=by
  simpa using List.all_eq_true.1 h j (List.mem_range.2 hj)
theorem Zs {x:Nat} (h:256<=x):bl x=bl (x/256)+8:=Oo (k:=8) h
theorem Wb (z:Int):(if (if z<1 then z else 1) > -1 then (if z<1 then z else 1) else -1)=z.sign:=by
  rcases Int.lt_trichotomy z 0 with h|h|h
  · rw [Int.sign_eq_neg_one_of_neg h,if_pos (show z<1 by omega)];split<;>omega
  · subst h;rfl
  · rw [Int.sign_eq_one_of_pos h,if_neg (show ¬z<1 by omega)];rfl
section
variable {P:Program} {n:Nat} {F:List (Nat×Value)} {w0:BD} {L:List As} {x y:Operand} {d:Option Tmp} {t:TypeId} {p:String} {af:Array Edge} {g:Option (Nat×Bool)}
theorem IT {s:ByteArray} {k:IntKind} {j m:Nat} {tx:TypeId} (hx:evF F x=some (.string s)) (hy:evF F y=some (.int k ((j:Nat):Int))) (hu:P.underlying tx=some .string) (hb:s[j]?=some (UInt8.ofNat m)) (hm:m<256):Ex P n F w0 L ⟨d,.index tx x y,t,p,af,g⟩ (.int .u8 ((m:Nat):Int)):=by
  have h:=Js (P:=P) (n:=n) (F:=F) (w0:=w0) (L:=L) (d:=d) (t:=t) (p:=p) (af:=af) (g:=g) hx hy hu rfl hb
  have e:(UInt8.ofNat m).toNat=m:=by simp;omega
  rwa [e] at h
theorem Sa {f:FuncId} {xs:List Operand} {args:List Value} {ts:Array TypeId} {v:Value} (hf:evF F x=some (.func (.func f) #[] #[])) (hargs:xs.map (evF F)=args.map some)
    (hc:∀w,(callFunc f args.toArray).run P w=.ok (.value v) w):Ex P n F w0 L ⟨d,.call { callee:=.value x,args:=xs.toArray,argTypes:=ts },t,p,af,g⟩ v:=λA w ha _=>by
  have e1:xs.toArray.map A.eval=args.toArray:=by rw [<-K0 ha hargs];simp
  simp [execOp,resolve,ha.ev hf,Deferred.ofValue,e1,invoke,hc]
theorem TB {f : FuncId} {fn : Func} (hf : P.funcs[f]? = some fn) (hname : (fn.name == "runtime.NumGoroutine") = false) (hb : fn.body.isNone = true) (hn : Extern.findNext fn = none) (he : Extern.find fn = some add64Entry) (x y c : Nat) (hc : c ≤ 1) (w : World) :
    (callFunc f #[.int .u64 x,.int .u64 y,.int .u64 c]).run P w=.ok (.value (.tuple #[.int .u64 (((x+y+c)%18446744073709551616:Nat):Int),.int .u64 (((x+y+c)/18446744073709551616:Nat):Int)])) w:=by
  rw [run_callFunc_extern hf hname hb hn he,run_add64 x y c Z Z Z Z]
  simp only [Result.andThen]
  congr 5<;>omega
end
theorem BH.fresh {W w:World} {L:List As} (h:BH ⟨W,none⟩ w L) {i b:Nat} {T:TypeId} {cs:List Value} (hi:L[i]?=some (AY b T cs)):W.heap.size<=b:=by
  rcases (h.2.1 _ (List.mem_of_getElem? hi) b rfl).1 with h1|h1|h1
  · cases h1
  · exact h1
  · cases h1
end
section
structure Dd (P:Program) (t:TypeId) (k:Nat):Prop where
  a:∀w,(isAgg t).run P w=.ok true w
  s:∀w,(sizeOf t).run P w=.ok k w
structure Fu (P:Program) (t:TypeId):Prop where
  a:∀w,(isAgg t).run P w=.ok false w
def DF (P:Program) (t:TypeId) (cs:List Value):Prop:=∃u:Value,(∀w,(zeroValue t).run P w=.ok u w)/\u.cells=cs.toArray
section
variable {P:Program} {ops:Array Oper} {rest:List Oper} {Q:Exit->Act->World->Prop} {n d i b off k:Nat} {F F':List (Nat×Value)} {w0:BD} {L Lro:List As} {op:Op} {t ty T:TypeId} {p:String} {af:Array Edge} {u v:Value} {x y:Operand} {l:List Oper} {specs:List Sp} {cs vs:List Value}
theorem B_ {a b:Nat} (h:Nat.ble (a+1) b=true):a<b:=Nat.le_of_ble_eq_true h
theorem mv (hx:evF F x=some v) (hd:Nat.ble (d+1) n=true) (next:AR P ops rest Q n ((d,v)::F) w0 L):AR P ops (⟨some d,.move x,t,p,af,none⟩::rest) Q n F w0 L:=AR.step (AI rfl) (Cn hx) rfl (B_ hd) next
theorem fJ (hx:evF F x=some v) (hd:Nat.ble (d+1) n=true) (next:AR P ops rest Q n ((d,v)::F) w0 L):AR P ops (⟨some d,.assign x,t,p,af,none⟩::rest) Q n F w0 L:=AR.step (AI rfl) (Mz hx) rfl (B_ hd) next
theorem Lw {cs:List Value} {k:Nat} (h:cs.length=k):(cs.drop 0).take k=cs:=by rw [List.drop_zero,List.take_of_length_le Z]
theorem fQ (i:Nat) (ht:Dd P ty k) (hx:evF F x=some (pP b 0)) (hi:L[i]?=some (AY b T cs)) (hl:cs.length=k) (hd:Nat.ble (d+1) n=true) (next:AR P ops rest Q n ((d,aG cs)::F) w0 L) :
    AR P ops (⟨some d,.load ty x,t,p,af,none⟩::rest) Q n F w0 L:=AR.step (AI rfl) (Ad hx hi ht.a ht.s (Lw hl) hl) rfl (B_ hd) next
theorem fO (i:Nat) (vs:List Value) (ht:Dd P ty k) (hx:evF F x=some (pP b off)) (hi:L[i]?=some (AY b T cs)) (hv:(cs.drop off).take k=vs) (hl:vs.length=k) (hd:Nat.ble (d+1) n=true) (next:AR P ops rest Q n ((d,aG vs)::F) w0 L) :
    AR P ops (⟨some d,.load ty x,t,p,af,none⟩::rest) Q n F w0 L:=AR.step (AI rfl) (Ad hx hi ht.a ht.s hv hl) rfl (B_ hd) next
theorem fP (i:Nat) (v:Value) (ht:Fu P ty) (hx:evF F x=some (pP b off)) (hi:L[i]?=some (AY b T cs)) (hv:cs[off]?=some v) (hd:Nat.ble (d+1) n=true) (next:AR P ops rest Q n ((d,v)::F) w0 L) :
    AR P ops (⟨some d,.load ty x,t,p,af,none⟩::rest) Q n F w0 L:=AR.step (AI rfl) (AH hx hi ht.a hv) rfl (B_ hd) next
theorem bx (hx:evF F x=some v) (hv:v.cells=cs.toArray) (hd:Nat.ble (d+1) n=true) (next:∀b,AR P ops rest Q n ((d,pP b 0)::F) w0 (AY b T cs::L)):AR P ops (⟨some d,.box T x,t,p,af,none⟩::rest) Q n F w0 L :=
  yv (AI rfl) (aU hx hv) rfl (B_ hd) next
theorem al (hz:DF P T cs) (hd:Nat.ble (d+1) n=true) (next:∀b,AR P ops rest Q n ((d,pP b 0)::F) w0 (AY b T cs::L)):AR P ops (⟨some d,.alloc T,t,p,af,none⟩::rest) Q n F w0 L :=
  have ⟨_,h1,h2⟩:=hz
  yv (AI rfl) (PL h1 h2) rfl (B_ hd) next
theorem cl {f:FuncId} {xs:List Operand} {args:List Value} {ts:Array TypeId} (hc:∀args w,(callFunc f args).run P w=.ok (.enter f args) w) (h:∀w,BH w0 w L->Calls P f args.toArray w (Ac w v))
    (hf:evF F x=some (.func (.func f) #[] #[])) (hargs:xs.map (evF F)=args.map some) (hd:Nat.ble (d+1) n=true) (next:AR P ops rest Q n ((d,v)::F) w0 L) :
    AR P ops (⟨some d,.call { callee:=.value x,args:=xs.toArray,argTypes:=ts },t,p,af,none⟩::rest) Q n F w0 L:=zg (AI rfl) (Am hf hargs hc) h rfl (B_ hd) next
theorem YT {cs vs:List Value} (h:vs.length=cs.length):Gc cs 0 vs=vs:=by simp [Gc,h]
theorem OM {L':List As} (hx:evF F x=some (pP b 0)) (hy:evF F y=some v) (hi:L[i]?=some (AY b T cs)) (hv:v.cells=vs.toArray) (hs:∀w,(sizeOf ty).run P w=.ok vs.length w) (h1:(vs.all λu=>u.oneCell')=true) (hl:vs.length=cs.length)
    (hL:L.set i (AY b T vs)=L') (next:AR P ops rest Q n F w0 L'):AR P ops (⟨none,.store ty x y,t,p,af,none⟩::rest) Q n F w0 L:=zo (AI rfl) rfl hx hy hi hv hs h1 (Nat.ble_eq_true_of_le Z) (YT hl) hL next
variable {A0 A1 A2 A3 A4 A5:As}
theorem eI (hx:evF F x=some (pP b 0)) (hy:evF F y=some v) (hv:v.cells=vs.toArray) (hs:∀w,(sizeOf ty).run P w=.ok vs.length w) (h1:(vs.all λu=>u.oneCell')=true) (hl:vs.length=cs.length)
    (next:AR P ops rest Q n F w0 (AY b T vs::L)):AR P ops (⟨none,.store ty x y,t,p,af,none⟩::rest) Q n F w0 (AY b T cs::L):=OM (i:=0) hx hy rfl hv hs h1 hl rfl next
theorem eJ (hx:evF F x=some (pP b 0)) (hy:evF F y=some v) (hv:v.cells=vs.toArray) (hs:∀w,(sizeOf ty).run P w=.ok vs.length w) (h1:(vs.all λu=>u.oneCell')=true) (hl:vs.length=cs.length)
    (next:AR P ops rest Q n F w0 (A0::AY b T vs::L)):AR P ops (⟨none,.store ty x y,t,p,af,none⟩::rest) Q n F w0 (A0::AY b T cs::L):=OM (i:=1) hx hy rfl hv hs h1 hl rfl next
theorem eK (hx:evF F x=some (pP b 0)) (hy:evF F y=some v) (hv:v.cells=vs.toArray) (hs:∀w,(sizeOf ty).run P w=.ok vs.length w) (h1:(vs.all λu=>u.oneCell')=true) (hl:vs.length=cs.length)
    (next:AR P ops rest Q n F w0 (A0::A1::AY b T vs::L)):AR P ops (⟨none,.store ty x y,t,p,af,none⟩::rest) Q n F w0 (A0::A1::AY b T cs::L):=OM (i:=2) hx hy rfl hv hs h1 hl rfl next
theorem eL (hx:evF F x=some (pP b 0)) (hy:evF F y=some v) (hv:v.cells=vs.toArray) (hs:∀w,(sizeOf ty).run P w=.ok vs.length w) (h1:(vs.all λu=>u.oneCell')=true) (hl:vs.length=cs.length)
    (next:AR P ops rest Q n F w0 (A0::A1::A2::AY b T vs::L)):AR P ops (⟨none,.store ty x y,t,p,af,none⟩::rest) Q n F w0 (A0::A1::A2::AY b T cs::L):=OM (i:=3) hx hy rfl hv hs h1 hl rfl next
theorem sr {L:List As}:L.Sublist L:=xR _
theorem sl {a:As} {l1 l2:List As} (h:l1.Sublist l2):l1.Sublist (a::l2):=List.Sublist.cons _ h
theorem sk {a:As} {l1 l2:List As} (h:l1.Sublist l2):(a::l1).Sublist (a::l2):=List.Sublist.cons_cons _ h
end
section
variable {P:Program} {ops:Array Oper} {rest:List Oper} {Q:Exit->Act->World->Prop} {n:Nat} {F F':List (Nat×Value)} {w0:BD} {L Lro:List As} {specs:List Sp} {β:Nat->Value} {A0 A1 A2 A3:As}
end
def WB (F:List (Nat×Value)):List Nat->Option (List (Nat×Value))
  | []=>some []
  | k::ks=>match F.lookup k with
    | some v=>match WB F ks with
      | some r=>some ((k,v)::r)
      | none=>none
    | none=>none
theorem sL:∀(ks:List Nat) {F F':List (Nat×Value)},WB F ks=some F'->CO F' F
  | [],_,_,h=>by injection h with h;subst h;trivial
  | k::ks,F,F',h=>by
    unfold WB at h
    split at h
    · rename_i v hv
      split at h
      · rename_i r hr
        injection h with h;subst h
        exact ⟨hv,sL ks hr⟩
      · cases h
    · cases h
def Pa:List As->Nat->As->Option (List As)
  | [],_,_=>none
  | _::r,0,y=>some (y::r)
  | x::r,i+1,y=>match Pa r i y with
    | some r'=>some (x::r')
    | none=>none
theorem Ha:∀{L:List As} {i:Nat} {y:As} {L':List As},Pa L i y=some L'->L.set i y=L'
  | [],_,_,_,h=>by cases h
  | _::r,0,y,_,h=>by injection h
  | x::r,i+1,y,L',h=>by
    unfold Pa at h
    split at h
    · rename_i r' hr
      injection h with h;subst h
      rw [List.set_cons_succ,Ha hr]
    · cases h
section
variable {α β γ δ ε:Type} {a a':α} {b b':β} {c c':γ} {d d':δ} {e e':ε}
theorem CV (h:(a,b)=(a',b')):a=a':=congrArg Prod.fst h
theorem BN (h:(a,b)=(a',b')):b=b':=congrArg Prod.snd h
end
section
variable {P:Program} {ops:Array Oper} {rest:List Oper} {Q:Exit->Act->World->Prop} {n d i b off k:Nat} {F F':List (Nat×Value)} {w0:BD} {L L' Lro:List As} {op:Op} {t ty T:TypeId} {p:String} {af:Array Edge} {u v:Value} {x y:Operand} {l:List Oper} {specs:List Sp} {cs vs:List Value} {o:Oper} {j:Nat} {g:Option (Nat×Bool)}
theorem AU {t:Nat} {b:Bool} (h:(o.guard,(ops[j]?).bind (·.dst),F.lookup t)=(some (j,b),some t,some (.bool b))):Wt ops n F o:=OW (CV h) (CV (BN h)) (BN (BN h))
theorem B3 {t:Nat} {b:Bool} (h:(o.guard,(ops[j]?).bind (·.dst),F.lookup t)=(some (j,b),some t,some (.bool (!b)))):∀a,Cx n a F->Region.wanted o (yielded ops a.tmps)=false:=W7 (CV h) (CV (BN h)) (BN (BN h))
theorem AD (he:Ex P n F w0 L ⟨some d,op,t,p,af,none⟩ v) (hd:Nat.ble (d+1) n=true) (next:AR P ops rest Q n ((d,v)::F) w0 L):AR P ops (⟨some d,op,t,p,af,none⟩::rest) Q n F w0 L:=st he (B_ hd) next
theorem AL (h:(evF F x,Nat.ble (d+1) n)=(some v,true)) (next:AR P ops rest Q n ((d,v)::F) w0 L):AR P ops (⟨some d,.move x,t,p,af,none⟩::rest) Q n F w0 L:=mv (CV h) (BN h) next
theorem asg' (h:(evF F x,Nat.ble (d+1) n)=(some v,true)) (next:AR P ops rest Q n ((d,v)::F) w0 L):AR P ops (⟨some d,.assign x,t,p,af,none⟩::rest) Q n F w0 L:=fJ (CV h) (BN h) next
theorem Ak (i:Nat) (ht:Dd P ty k) (h:(evF F x,L[i]?,cs.length,Nat.ble (d+1) n)=(some (pP b 0),some (AY b T cs),k,true)) (next:AR P ops rest Q n ((d,aG cs)::F) w0 L) :
    AR P ops (⟨some d,.load ty x,t,p,af,none⟩::rest) Q n F w0 L:=fQ i ht (CV h) (CV (BN h)) (CV (BN (BN h))) (BN (BN (BN h))) next
theorem Dp (i:Nat) (vs:List Value) (ht:Dd P ty k) (h:(evF F x,L[i]?,(cs.drop off).take k,vs.length,Nat.ble (d+1) n)=(some (pP b off),some (AY b T cs),vs,k,true)) (next:AR P ops rest Q n ((d,aG vs)::F) w0 L) :
    AR P ops (⟨some d,.load ty x,t,p,af,none⟩::rest) Q n F w0 L:=fO i vs ht (CV h) (CV (BN h)) (CV (BN (BN h))) (CV (BN (BN (BN h)))) (BN (BN (BN (BN h)))) next
theorem BG (i:Nat) (v:Value) (ht:Fu P ty) (h:(evF F x,L[i]?,cs[off]?,Nat.ble (d+1) n)=(some (pP b off),some (AY b T cs),some v,true)) (next:AR P ops rest Q n ((d,v)::F) w0 L) :
    AR P ops (⟨some d,.load ty x,t,p,af,none⟩::rest) Q n F w0 L:=fP i v ht (CV h) (CV (BN h)) (CV (BN (BN h))) (BN (BN (BN h))) next
theorem BV (h:(evF F x,v.cells,Nat.ble (d+1) n)=(some v,cs.toArray,true)) (next:∀b,AR P ops rest Q n ((d,pP b 0)::F) w0 (AY b T cs::L)):AR P ops (⟨some d,.box T x,t,p,af,none⟩::rest) Q n F w0 L :=
  bx (CV h) (CV (BN h)) (BN (BN h)) next
theorem C3 {f:FuncId} {xs:List Operand} {args:List Value} {ts:Array TypeId} (hc:∀args w,(callFunc f args).run P w=.ok (.enter f args) w) (h:∀w,BH w0 w L->Calls P f args.toArray w (Ac w v))
    (h2:(evF F x,xs.map (evF F),Nat.ble (d+1) n)=(some (.func (.func f) #[] #[]),args.map some,true)) (next:AR P ops rest Q n ((d,v)::F) w0 L) :
    AR P ops (⟨some d,.call { callee:=.value x,args:=xs.toArray,argTypes:=ts },t,p,af,none⟩::rest) Q n F w0 L:=cl hc h (CV h2) (CV (BN h2)) (BN (BN h2)) next
theorem ck' {f:FuncId} {xs:List Operand} {args:List Value} {ts:Array TypeId} (hc:∀args w,(callFunc f args).run P w=.ok (.enter f args) w) (h:∀w,Calls P f args.toArray w (Ac w v))
    (h2:(evF F x,xs.map (evF F),Nat.ble (d+1) n)=(some (.func (.func f) #[] #[]),args.map some,true)) (next:AR P ops rest Q n ((d,v)::F) w0 L) :
    AR P ops (⟨some d,.call { callee:=.value x,args:=xs.toArray,argTypes:=ts },t,p,af,none⟩::rest) Q n F w0 L:=C3 hc (λw _=>h w) h2 next
variable {A0 A1 A2 A3 A4 A5:As}
theorem Ah (h:(evF F x,evF F y,v.cells)=(some (pP b 0),some v,vs.toArray)) (hs:∀w,(sizeOf ty).run P w=.ok vs.length w) (h2:(vs.all λu=>u.oneCell',vs.length)=(true,cs.length))
    (next:AR P ops rest Q n F w0 (AY b T vs::L)):AR P ops (⟨none,.store ty x y,t,p,af,none⟩::rest) Q n F w0 (AY b T cs::L):=eI (CV h) (CV (BN h)) (BN (BN h)) hs (CV h2) (BN h2) next
theorem CM (h:(evF F x,evF F y,v.cells)=(some (pP b 0),some v,vs.toArray)) (hs:∀w,(sizeOf ty).run P w=.ok vs.length w) (h2:(vs.all λu=>u.oneCell',vs.length)=(true,cs.length))
    (next:AR P ops rest Q n F w0 (A0::AY b T vs::L)):AR P ops (⟨none,.store ty x y,t,p,af,none⟩::rest) Q n F w0 (A0::AY b T cs::L):=eJ (CV h) (CV (BN h)) (BN (BN h)) hs (CV h2) (BN h2) next
theorem Ls (h:(evF F x,evF F y,v.cells)=(some (pP b 0),some v,vs.toArray)) (hs:∀w,(sizeOf ty).run P w=.ok vs.length w) (h2:(vs.all λu=>u.oneCell',vs.length)=(true,cs.length))
    (next:AR P ops rest Q n F w0 (A0::A1::AY b T vs::L)):AR P ops (⟨none,.store ty x y,t,p,af,none⟩::rest) Q n F w0 (A0::A1::AY b T cs::L):=eK (CV h) (CV (BN h)) (BN (BN h)) hs (CV h2) (BN h2) next
theorem Fi (h:(evF F x,evF F y,v.cells)=(some (pP b 0),some v,vs.toArray)) (hs:∀w,(sizeOf ty).run P w=.ok vs.length w) (h2:(vs.all λu=>u.oneCell',vs.length)=(true,cs.length))
    (next:AR P ops rest Q n F w0 (A0::A1::A2::AY b T vs::L)):AR P ops (⟨none,.store ty x y,t,p,af,none⟩::rest) Q n F w0 (A0::A1::A2::AY b T cs::L):=eL (CV h) (CV (BN h)) (BN (BN h)) hs (CV h2) (BN h2) next
theorem Fj (i:Nat) {v:Value} {cs':List Value} (hw:Wt ops n F ⟨none,.store ty x y,t,p,af,g⟩) (h:(evF F x,evF F y,L[i]?,v.cells)=(some (pP b off),some v,some (AY b T cs),vs.toArray))
    (hs:∀w,(sizeOf ty).run P w=.ok vs.length w) (h2:(vs.all λu=>u.oneCell',Nat.ble (off+vs.length) cs.length,Gc cs off vs,Pa L i (AY b T cs'))=(true,true,cs',some L')) (next:AR P ops rest Q n F w0 L'):AR P ops (⟨none,.store ty x y,t,p,af,g⟩::rest) Q n F w0 L :=
  zo hw rfl (CV h) (CV (BN h)) (CV (BN (BN h))) (BN (BN (BN h))) hs (CV h2) (CV (BN h2)) (CV (BN (BN h2))) (Ha (BN (BN (BN h2)))) next
end
theorem BI {P:Program} {ops:Array Oper} {rest:List Oper} {Q:Exit->Act->World->Prop} {n j d t2:Nat} {b:Bool} {F:List (Nat×Value)} {w0:BD} {L:List As} {v:Value} {o:Oper} (h:(o.guard,(ops[j]?).bind (·.dst),F.lookup t2,o.dst,Nat.ble (d+1) n)=(some (j,b),some t2,some (.bool b),some d,true)) (he:Ex P n F w0 L o v) (next:AR P ops rest Q n ((d,v)::F) w0 L):AR P ops (o::rest) Q n F w0 L :=
  AR.step (OW (CV h) (CV (BN h)) (CV (BN (BN h)))) he (CV (BN (BN (BN h)))) (Nat.le_of_ble_eq_true (BN (BN (BN (BN h))))) next
theorem BT {P:Program} {ops:Array Oper} {rest:List Oper} {Q:Exit->Act->World->Prop} {n j d t2:Nat} {b:Bool} {F:List (Nat×Value)} {w0:BD} {L:List As} {o:Oper} (h:(o.guard,(ops[j]?).bind (·.dst),F.lookup t2,o.dst,Nat.ble (d+1) n)=(some (j,b),some t2,some (.bool (!b)),some d,true)) (next:AR P ops rest Q n ((d,undef)::F) w0 L):AR P ops (o::rest) Q n F w0 L :=
  yq (W7 (CV h) (CV (BN h)) (CV (BN (BN h)))) (CV (BN (BN (BN h)))) (Nat.le_of_ble_eq_true (BN (BN (BN (BN h))))) next
theorem Gq {P:Program} {ops:Array Oper} {rest:List Oper} {Q:Exit->Act->World->Prop} {n j d t2:Nat} {b:Bool} {F:List (Nat×Value)} {w0:BD} {L:List As} {v:Value} {x:Operand} {t:TypeId} {p:String} {af:Array Edge} (h:((ops[j]?).bind (·.dst),F.lookup t2,evF F x,Nat.ble (d+1) n)=(some t2,some (.bool b),some v,true)) (next:AR P ops rest Q n ((d,v)::F) w0 L):AR P ops (⟨some d,.move x,t,p,af,some (j,b)⟩::rest) Q n F w0 L :=
  AR.step (OW rfl (CV h) (CV (BN h))) (Cn (CV (BN (BN h)))) rfl (Nat.le_of_ble_eq_true (BN (BN (BN h)))) next
end
section
set_option maxRecDepth 100000
theorem OO:Fu prog 2:=⟨isAgg2⟩
theorem Bk:Fu prog 3:=⟨isAgg3⟩
theorem Wn:Fu prog 4:=⟨isAgg4⟩
theorem Wo:Fu prog 5:=⟨isAgg5⟩
theorem Tj:Fu prog 9:=⟨isAgg9⟩
theorem bC:Fu prog 22:=⟨isAgg22⟩
theorem Y_:Fu prog 23:=⟨isAgg23⟩
theorem ON:Dd prog 26 9:=⟨isAgg26,sizeOf26⟩
theorem C5:Fu prog 28:=⟨isAgg28⟩
theorem Qz:Fu prog 29:=⟨isAgg29⟩
theorem C2:Fu prog 32:=⟨isAgg32⟩
theorem BY:Dd prog 34 3:=⟨isAgg34,sizeOf34⟩
theorem IB:Dd prog 54 4:=⟨isAgg54,sizeOf54⟩
theorem G5:Fu prog 60:=⟨isAgg60⟩
theorem B8:Dd prog 62 2:=⟨isAgg62,sizeOf62⟩
theorem TO:Dd prog 64 2:=⟨isAgg64,sizeOf64⟩
theorem DN:Dd prog 66 3:=⟨isAgg66,sizeOf66⟩
theorem Be:Dd prog 68 5:=⟨isAgg68,sizeOf68⟩
theorem Ec:Dd prog 71 3:=⟨isAgg71,sizeOf71⟩
theorem Cl:Dd prog 72 2:=⟨isAgg72,sizeOf72⟩
theorem A9:Dd prog 78 10:=⟨isAgg78,sizeOf78⟩
theorem Qy:Dd prog 80 3:=⟨isAgg80,sizeOf80⟩
theorem TP:Fu prog 85:=⟨isAgg85⟩
theorem eO:Dd prog 87 3:=⟨isAgg87,sizeOf87⟩
theorem eP:Fu prog 89:=⟨isAgg89⟩
theorem cd:Dd prog 92 2:=⟨isAgg92,sizeOf92⟩
theorem cf:Dd prog 94 4:=⟨isAgg94,sizeOf94⟩
theorem G4:Dd prog 127 6:=⟨isAgg127,sizeOf127⟩
theorem NI:Dd prog 177 2:=⟨isAgg177,sizeOf177⟩
theorem NJ:Dd prog 204 30:=⟨isAgg204,sizeOf204⟩
theorem cb:Dd prog 253 15:=⟨isAgg253,sizeOf253⟩
theorem G6:DF prog 34 ([jj,jj,jj]):=⟨_,zeroValue34,rfl⟩
theorem JN:DF prog 54 ([(vI 0),(vI 0),(vI 0),(vI 0)]):=⟨_,zeroValue54,rfl⟩
theorem GV:DF prog 62 (AT 0):=⟨_,zeroValue62,rfl⟩
theorem ct:DF prog 64 (AT 0):=⟨_,zeroValue64,rfl⟩
theorem J0:DF prog 66 (A6 0):=⟨_,zeroValue66,rfl⟩
theorem DO:DF prog 68 (AF (0:Rat)):=⟨_,zeroValue68,rfl⟩
theorem J1:DF prog 71 ([(vI 0),(vI 0),(vI 0)]):=⟨_,zeroValue71,rfl⟩
theorem Pe:DF prog 72 ([(vI 0),(vI 0)]):=⟨_,zeroValue72,rfl⟩
theorem Em:DF prog 78 (Aa (⟨0,0⟩:Pt)):=⟨_,zeroValue78,rfl⟩
theorem eQ:DF prog 80 ([(vI 0),(vI 0),(vI 0)]):=⟨_,zeroValue80,rfl⟩
theorem bD:DF prog 87 ([jj,jj,jj]):=⟨_,zeroValue87,rfl⟩
theorem eR:DF prog 90 ([(vI 0),(vI 0)]):=⟨_,zeroValue90,rfl⟩
theorem eS:DF prog 94 ([(vI 0),(Value.int .u32 (0:Int)),(vI 0),(Value.int .u32 (0:Int))]):=⟨_,zeroValue94,rfl⟩
theorem Lv:DF prog 127 ([(vI 0),(vI 0),(vI 0),(vI 0),(vI 0),(vI 0)]):=⟨_,zeroValue127,rfl⟩
theorem Wp:DF prog 177 ([(vI 0),(vI 0)]):=⟨_,zeroValue177,rfl⟩
theorem cj:DF prog 192 (AF (0:Rat)):=⟨_,zeroValue192,rfl⟩
theorem Wq:DF prog 204 (Aa (⟨0,0⟩:Pt)++Aa (⟨0,0⟩:Pt)++Aa (⟨0,0⟩:Pt)):=⟨_,zeroValue204,rfl⟩
theorem cm:DF prog 210 ([(vI 0),(vI 0),(vI 0),(vI 0)]):=⟨_,zeroValue210,rfl⟩
theorem NK:DF prog 253 (AF (0:Rat)++AF (0:Rat)++AF (0:Rat)):=⟨_,zeroValue253,rfl⟩
theorem cq:DF prog 308 ([(Value.int .u8 (0:Int)),(Value.int .u8 (0:Int)),(Value.int .u8 (0:Int)),(Value.int .u8 (0:Int)),(Value.int .u8 (0:Int)),(Value.int .u8 (0:Int)),(Value.int .u8 (0:Int)),(Value.int .u8 (0:Int)),(Value.int .u8 (0:Int)),(Value.int .u8 (0:Int)),(Value.int .u8 (0:Int)),(Value.int .u8 (0:Int)),(Value.int .u8 (0:Int)),(Value.int .u8 (0:Int)),(Value.int .u8 (0:Int)),(Value.int .u8 (0:Int)),(Value.int .u8 (0:Int)),(Value.int .u8 (0:Int)),(Value.int .u8 (0:Int)),(Value.int .u8 (0:Int)),(Value.int .u8 (0:Int)),(Value.int .u8 (0:Int)),(Value.int .u8 (0:Int)),(Value.int .u8 (0:Int))]):=⟨_,zeroValue308,rfl⟩
end
end Go.Proofs.YtbfdamnfcmefmaaGreatDoor
