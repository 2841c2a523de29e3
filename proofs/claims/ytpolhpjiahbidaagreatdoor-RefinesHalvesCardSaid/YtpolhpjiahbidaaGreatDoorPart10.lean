import Derived.Lib.ItoaNum
import Derived.Laws.Runes
import Derived.Test.YtpolhpjiahbidaaGreatDoorPart02
import Derived.Test.YtpolhpjiahbidaaGreatDoorPart05
import Derived.Test.YtpolhpjiahbidaaGreatDoorPart07
import Derived.Test.YtpolhpjiahbidaaGreatDoorPart09
namespace Go.Proofs.YtpolhpjiahbidaaGreatDoor
open Go Go.RowKit Go.Proofs.Tryz
set_option linter.unusedVariables false
set_option linter.unusedSimpArgs false
def Sz (q:Rat):Nat:=max (nw q.num.natAbs) (nw q.den)
theorem Cj (q:Rat):nw q.num.natAbs<=Sz q:=Nat.le_max_left ..
theorem CP (q:Rat):nw q.den<=Sz q:=Nat.le_max_right ..
theorem Eh (q:Rat):nw (q.den-1)<=Sz q:=Nat.le_trans (Ca (Nat.sub_le _ _)) (CP q)
theorem V2 {q:Rat} {k:Nat} (h1:nw q.num.natAbs<=k) (h2:nw q.den<=k):Sz q<=k:=Nat.max_le.2 ⟨h1,h2⟩
theorem Hm:nw 1=1:=by decide
theorem N6 (q:Rat):1<=Sz q:=Nat.le_trans (by rw [<-Hm];exact Ca q.den_pos) (CP q)
theorem Jw {n:Int} {d k:Nat} (h1:nw n.natAbs<=k) (h2:nw d<=k) (hk:1<=k):Sz (mkRat n d)<=k:=by
  refine V2 ?_ ?_
  · rw [Rat.num_mkRat]
    split
    · exact Nat.zero_le _
    · refine Nat.le_trans (Ca ?_) h1
      rw [Int.natAbs_ediv_of_dvd (by rw [Int.ofNat_dvd_left];exact Nat.gcd_dvd_right ..)]
      exact Nat.div_le_self _ _
  · rw [Rat.den_mkRat]
    split
    · rw [Hm];exact hk
    · exact Nat.le_trans (Ca (Nat.div_le_self _ _)) h2
theorem PT (a b:Int):nw (a*b).natAbs<=nw a.natAbs+nw b.natAbs:=by rw [Int.natAbs_mul];exact Tu _ _
theorem Dp (a b:Int):nw (a+b).natAbs<=max (nw a.natAbs) (nw b.natAbs)+1:=Nat.le_trans (Ca (Int.natAbs_add_le a b)) (WT _ _)
theorem CC (a b:Rat):nw (a.num*((b.den:Nat):Int)).natAbs<=Sz a+Sz b:=by
  have h1:=PT a.num ((b.den:Nat):Int)
  have h2:=Cj a
  have h3:=CP b
  rw [Int.natAbs_natCast] at h1
  omega
theorem Fs (a b:Rat):nw (a.den*b.den)<=Sz a+Sz b:=by
  have h1:=Tu a.den b.den
  have h2:=CP a
  have h3:=CP b
  omega
theorem Gq (a b:Rat):nw (a.num*b.num).natAbs<=Sz a+Sz b:=by
  have h1:=PT a.num b.num
  have h2:=Cj a
  have h3:=Cj b
  omega
theorem H0 (a b:Rat):mkRat (a.num*((b.den:Nat):Int)+b.num*((a.den:Nat):Int)) (a.den*b.den)=a+b:=by rw [Rat.add_def,Rat.normalize_eq_mkRat]
theorem H5 (a b:Rat):mkRat (a.num*b.num) (a.den*b.den)=a*b:=by rw [Rat.mul_def,Rat.normalize_eq_mkRat]
theorem Hb {a:Rat} (h:a.den-1=0):a=((a.num:Int):Rat):=by
  have h1:a.den=1:=by have:=a.den_pos;omega
  exact Rat.ext rfl h1
theorem Qo {a b:Rat} (ha:a.den-1=0) (hb:b.den-1=0):((a.num+b.num:Int):Rat)=a+b:=by
  rw [Rat.intCast_add,<-Hb ha,<-Hb hb]
theorem Qn {a b:Rat} (ha:a.den-1=0) (hb:b.den-1=0):((a.num*b.num:Int):Rat)=a*b:=by
  rw [Rat.intCast_mul,<-Hb ha,<-Hb hb]
theorem R9 {a b:Rat} (h:a.den-1=b.den-1):a.den=b.den:=by
  have h1:=a.den_pos
  have h2:=b.den_pos
  omega
theorem SE {a b:Rat} (h:a.den-1=b.den-1):mkRat (a.num+b.num) a.den=a+b:=by
  have h1:=R9 h
  have h2:a+b=mkRat a.num a.den+mkRat b.num a.den:=by rw [Rat.mkRat_self];conv=>lhs;rw [<-Rat.mkRat_self b,<-h1]
  rw [h2,Rat.mkRat_eq_div,Rat.mkRat_eq_div,Rat.mkRat_eq_div,Rat.intCast_add,Rat.div_def,Rat.div_def,Rat.div_def,Rat.add_mul]
theorem Fz (a b:Rat):Sz (a+b)<=Sz a+Sz b+1:=by
  rw [<-H0]
  have h1:=CC a b
  have h2:=CC b a
  have h3:=Dp (a.num*((b.den:Nat):Int)) (b.num*((a.den:Nat):Int))
  have h4:=Fs a b
  exact Jw (by omega) (by omega) (by omega)
theorem GA (a b:Rat):Sz (a*b)<=Sz a+Sz b:=by
  rw [<-H5]
  have:=N6 a
  exact Jw (Gq a b) (Fs a b) (by omega)
theorem DT (a:Rat):Sz (-a)=Sz a:=by unfold Sz;rw [Rat.neg_num,Rat.neg_den,Int.natAbs_neg]
theorem Lf (a b:Rat):Sz (a-b)<=Sz a+Sz b+1:=by rw [Rat.sub_eq_add_neg,<-DT b];exact Fz a (-b)
theorem Hq {b:Rat} (h:b≠0):mkRat (Dc (decide (b.num.sign<0)) b.den) b.num.natAbs=b⁻¹:=by
  have hn:b.num≠0:=λe=>h (Rat.num_eq_zero.1 e)
  have hb:b=(b.num:Rat)/((b.den:Nat):Rat):=by rw [<-Rat.mkRat_eq_div,Rat.mkRat_self]
  have hd:((b.den:Nat):Rat)≠0:=by
    intro e
    have:=b.den_pos
    have h2:b.den=0:=by exact_mod_cast e
    omega
  have hn2:((b.num:Int):Rat)≠0:=by
    intro e
    exact hn (by exact_mod_cast e)
  rw [Rat.mkRat_eq_div]
  conv=>rhs;rw [hb]
  by_cases hs:b.num<0
  · have e1:decide (b.num.sign<0)=true:=by simp [Int.sign_eq_neg_one_of_neg hs]
    have e2:((b.num.natAbs:Nat):Rat) = -((b.num:Int):Rat):=by
      have:((b.num.natAbs:Nat):Int) = -b.num:=by omega
      rw [<-Rat.intCast_natCast,this,Rat.intCast_neg]
    rw [e1,e2]
    simp only [Dc,if_true,Rat.intCast_neg,Rat.intCast_natCast]
    grind
  · have e1:decide (b.num.sign<0)=false:=by
      have:0<=b.num.sign:=Int.sign_nonneg_iff.2 (by omega)
      exact decide_eq_false (by omega)
    have e2:((b.num.natAbs:Nat):Rat)=((b.num:Int):Rat):=by
      have:((b.num.natAbs:Nat):Int)=b.num:=by omega
      rw [<-Rat.intCast_natCast,this]
    rw [e1,e2]
    simp only [Dc,Bool.false_eq_true,if_false,Rat.intCast_natCast]
    grind
theorem OY {b:Rat} (h:b≠0):Sz b⁻¹<=Sz b:=by
  rw [<-Hq h]
  exact Jw (by rw [A8];exact CP b) (Cj b) (N6 b)
theorem N1 {a b:Rat} (h:b≠0):Sz (a/b)<=Sz a+Sz b:=by
  rw [Rat.div_def]
  have h1:=GA a b⁻¹
  have h2:=OY h
  omega
def Zq (a b:Rat):Int:=if a<b then -1 else if a=b then 0 else 1
theorem Mz (q:Rat):AW q=A7 q.num++AS (q.den-1):=rfl
theorem O2 {n:Int} {d:Nat} (hd:d≠0):(mkRat n d).num=Dc (decide (n.sign<0)) (n.natAbs/Nat.gcd n.natAbs d):=by
  rw [Rat.num_mkRat,if_neg hd,Nat.gcd_comm]
  unfold Dc
  by_cases h:n<0
  · rw [Int.sign_eq_neg_one_of_neg h]
    have e:n = -((n.natAbs:Nat):Int):=by omega
    simp only [show decide ((-1:Int)<0)=true from rfl,if_true]
    conv=>lhs;rw [e]
    rw [Int.natAbs_neg,Int.natAbs_natCast,Int.neg_ediv_of_dvd (by rw [Int.natCast_dvd_natCast];exact Nat.gcd_dvd_left ..)]
    rfl
  · have h0:0<=n.sign:=Int.sign_nonneg_iff.2 (by omega)
    have e:n=((n.natAbs:Nat):Int):=by omega
    rw [if_neg (by simp;omega)]
    conv=>lhs;rw [e]
    rw [Int.natAbs_natCast]
    rfl
theorem Pe {n:Int} {d:Nat} (hd:d≠0):(mkRat n d).den=d/Nat.gcd n.natAbs d:=by rw [Rat.den_mkRat,if_neg hd,Nat.gcd_comm]
section
instance:Add Pt:=⟨λa b=>⟨a.x+b.x,a.y+b.y⟩⟩
instance:Sub Pt:=⟨λa b=>⟨a.x-b.x,a.y-b.y⟩⟩
def Bc (a:Pt) (k:Rat):Pt:=⟨a.x*k,a.y*k⟩
def W5 (a b:Pt):Rat:=a.x*b.y-a.y*b.x
def IF (a b c:Pt):Rat:=W5 (b-a) (c-a)
def D9 (p:Pt):Nat:=max (Sz p.x) (Sz p.y)
theorem Ek (p:Pt):Sz p.x<=D9 p:=Nat.le_max_left ..
theorem Em (p:Pt):Sz p.y<=D9 p:=Nat.le_max_right ..
theorem LU {p:Pt} {k:Nat} (h1:Sz p.x<=k) (h2:Sz p.y<=k):D9 p<=k:=Nat.max_le.2 ⟨h1,h2⟩
theorem G_ (a b:Pt):D9 (a+b)<=D9 a+D9 b+1:=by
  have h1:=Ek a;have h2:=Em a;have h3:=Ek b;have h4:=Em b
  refine LU ?_ ?_
  · exact Nat.le_trans (Fz a.x b.x) (by omega)
  · exact Nat.le_trans (Fz a.y b.y) (by omega)
theorem VG (a b:Pt):D9 (a-b)<=D9 a+D9 b+1:=by
  have h1:=Ek a;have h2:=Em a;have h3:=Ek b;have h4:=Em b
  refine LU ?_ ?_
  · exact Nat.le_trans (Lf a.x b.x) (by omega)
  · exact Nat.le_trans (Lf a.y b.y) (by omega)
theorem FE (a:Pt) (k:Rat):D9 (Bc a k)<=D9 a+Sz k:=by
  have h1:=Ek a;have h2:=Em a
  refine LU ?_ ?_
  · exact Nat.le_trans (GA a.x k) (by omega)
  · exact Nat.le_trans (GA a.y k) (by omega)
theorem Uk:Sz (1/2:Rat)<=1:=by decide +kernel
theorem VJ:((1:Int):Rat)/((2:Int):Rat)=1/2:=by decide +kernel
theorem Hp {z:Int} (h1:-9223372036854775808<=z) (h2:z<9223372036854775808):Sz ((z:Int):Rat)<=2:=V2 (JZ (by show z.natAbs<_;omega)) (by show nw 1<=2;rw [Hm];omega)
theorem Uv (a b:Pt):BC (a+b)=AW (a.x+b.x)++AW (a.y+b.y):=rfl
theorem Pr (a:Pt) (k:Rat):BC (Bc a k)=AW (a.x*k)++AW (a.y*k):=rfl
theorem WO (x y:Rat):BC ⟨x,y⟩=AW x++AW y:=rfl
section
variable {P:Program} {Q:Exit->Act->World->Prop} {n:Nat} {F:List (Nat×Value)} {w0:A_} {L:List As} {c:Code}
def Nc (P:Program) (c:Code) (Q:Exit->Act->World->Prop) (k n:Nat) (F:List (Nat×Value)) (w0:A_) (L:List As):Prop:=∀a w,Cf n a F->BB w0 w L->Code.rounds P c Q k a w
theorem OkC.unroll (k:Nat) (h:Nc P c Q k n F w0 L):OkC P (.loop c) Q n F w0 L:=λa w ha hw=>wp_loop_rounds k (h a w ha hw)
theorem Nc.step {k:Nat} (h:OkC P c (Exit.then (Code.rounds P c Q k) Q) n F w0 L):Nc P c Q (k+1) n F w0 L:=λa w ha hw=>by
  rw [rounds_succ];exact h a w ha hw
theorem OkQ.again {k:Nat} (h:Nc P c Q k n F w0 L):OkQ (Exit.then (Code.rounds P c Q k) Q) .normal n F w0 L:=h
end
end
section
def txB (l:List UInt8):ByteArray:=⟨l.toArray⟩
theorem C_ (l:List UInt8):(txB l).size=l.length:=by simp [txB,ByteArray.size]
theorem DF (a b:List UInt8):txB a++txB b=txB (a++b):=by
  apply ByteArray.ext
  simp [txB]
def Et:Nat->Nat->List UInt8
  | 0,_=>[]
  | k+1,x=>UInt8.ofNat (48+x/10^k%10)::Et k x
theorem M0 (k x:Nat):(Et k x).length=k:=by
  induction k with
  | zero=>rfl
  | succ k ih=>rw [Et,List.length_cons,ih]
theorem Ps (k x:Nat):Et (k+1) x=Et k (x/10)++[UInt8.ofNat (48+x%10)]:=by
  induction k with
  | zero=>simp [Et]
  | succ k ih =>
    rw [Et,ih,Et,List.cons_append,Nat.pow_succ',<-Nat.div_div_eq_div_mul]
theorem KB (m x:Nat) (h0:x/10^(m+1)=0) (h1:m=0\/x/10^m≠0):Lib.decDigits x=Et (m+1) x:=by
  induction m generalizing x with
  | zero =>
    have hx:x<10:=by omega
    rw [Lib.decDigits,dif_pos hx]
    simp [Et,Nat.mod_eq_of_lt hx]
  | succ m ih =>
    have h2:x/10^(m+1)≠0:=h1.resolve_left (by omega)
    rw [Nat.pow_succ',<-Nat.div_div_eq_div_mul] at h0 h2
    have hx:¬x<10:=λh=>h2 (by rw [Nat.div_eq_of_lt h];exact Nat.zero_div _)
    rw [Lib.decDigits,dif_neg hx,Ps (m+1),ih (x/10) h0 (.inr h2)]
theorem XL (i:Nat):10^(4*i)=10000^i:=by rw [Nat.pow_mul]
theorem Wi {x i k:Nat} (hk:k<4):x/10^(4*i+k)%10=(dg x).getD i 0/10^k%10:=by
  rw [Nat.pow_add,XL,<-Nat.div_div_eq_div_mul,OR]
  generalize x/10000^i=y
  match k,hk with
  | 0,_=>simp only [Nat.pow_zero,Nat.div_one];omega
  | 1,_=>show y/10%10=y%10000/10%10;omega
  | 2,_=>show y/100%10=y%10000/100%10;omega
  | 3,_=>show y/1000%10=y%10000/1000%10;omega
theorem Rr {x i k d:Nat} (hk:k<4) (hd:d=(dg x).getD i 0/10^k):txB [UInt8.ofNat (48+d%10)]++txB (Et (4*i+k) x)=txB (Et (4*i+(k+1)) x):=by
  rw [DF,<-Nat.add_assoc,Et,Wi hk,hd]
  rfl
theorem RI {x i k d:Nat} (hx:0<x) (hi:i+1=(dg x).length) (hk:k<=4) (hd:d=(dg x).getD i 0/10^k) (hnz:k=0\/(dg x).getD i 0/10^(k-1)≠0) (hex:k=4\/d=0):Et (4*i+k) x=Lib.decDigits x:=by
  have h1:=Ce (Dh x)
  rw [CF,<-hi,Nat.pow_succ] at h1
  have h2:=Jv hx
  rw [<-hi,Nat.add_sub_cancel] at h2
  have hy:x/10000^i<10000:=Nat.div_lt_of_lt_mul h1
  have hy1:1<=x/10000^i:=(Nat.le_div_iff_mul_le (Nat.pow_pos (by omega))).2 (by omega)
  rw [OR,Nat.mod_eq_of_lt hy] at hd hnz
  have e:∀j,x/10^(4*i+j)=x/10000^i/10^j:=λj=>by rw [Nat.pow_add,XL,<-Nat.div_div_eq_div_mul]
  generalize hyy:x/10000^i=y at *
  have hk1:1<=k:=by
    rcases Nat.eq_zero_or_pos k with h|h
    · subst h;simp at hd;omega
    · exact h
  have hz:y/10^k=0:=by
    rcases hex with h|h
    · subst h;exact Nat.div_eq_of_lt hy
    · omega
  obtain ⟨m,hm⟩:∃m,m+1=4*i+k:=⟨4*i+k-1,by omega⟩
  rw [<-hm]
  refine (KB m x ?_ (.inr ?_)).symm
  · rw [hm,e,hz]
  · rw [show m=4*i+(k-1) by omega,e]
    exact hnz.resolve_left (by omega)
theorem Ji:Lib.decDigits 0=[48]:=by rw [Lib.decDigits,dif_pos (by omega)];rfl
section
variable {P:Program} {n:Nat} {F:List (Nat×Value)} {w0:A_} {L:List As} {t:TypeId} {p:String} {af:Array Edge} {d:Option Tmp} {g:Option (Nat×Bool)} {x:Operand}
theorem MY {k:IntKind} {a:Nat} {src dst:TypeId} {ds:TypeDesc} (hx:evF F x=some (.int k (a:Nat))) (h1:P.underlying src=some ds) (h2:P.underlying dst=some .string) (ha:a<128):Ex P n F w0 L ⟨d,.convert src dst x,t,p,af,g⟩ (.string (txB [UInt8.ofNat a])):=λA w hf _=>by
  have e:Utf8.encode (a:Nat)=txB [UInt8.ofNat a]:=by
    have hv:Utf8.valid (a:Int)=true:=by simp [Utf8.valid];omega
    simp only [Utf8.encode,hv,if_true,Int.toNat_natCast]
    rw [if_pos (by omega)]
    rfl
  simp only [execOp,hf.ev hx,Sem.run_bind,run_convert_int_string w src dst k (a:Nat) (by rw [h1];rfl) h2,Result.andThen_ok,Sem.run_pure,e]
end
end
section
structure NX (x:Nat) where
  p:Option Addr
  c:Nat
  ok:Ak p (dg x).length c
@[reducible] def NX.nv {x:Nat} (a:NX x):NV:=⟨a.p,a.c,x,a.ok⟩
@[reducible] def NX.cast {x y:Nat} (h:x=y) (a:NX x):NX y:=⟨a.p,a.c,h▸a.ok⟩
def NX.zero:NX 0:=⟨none,0,⟨λ_=>⟨rfl,rfl⟩,(λ_ e=>by cases e),Nat.le_refl _⟩⟩
@[reducible] def Bu {x:Nat} (a:NX x):Value:=.slice a.p (dg x).length a.c
def By {x:Nat} (a:NX x):As:=AF a.p (dgL (dg x))
structure ZX (z:Int) where
  n:NX z.natAbs
structure FX (q:Rat) where
  z:ZX q.num
  m:NX (q.den-1)
structure PX (p:Pt) where
  x:FX p.x
  y:FX p.y
def Cn {z:Int} (a:ZX z):List Value:=[.bool (decide (z<0)),Bu a.n]
def fxL {q:Rat} (a:FX q):List Value:=Cn a.z++[Bu a.m]
def D7 {p:Pt} (a:PX p):List Value:=fxL a.x++fxL a.y
instance {x:Nat}:Ci (NX x):=⟨λa=>Bu a,λa=>[By a],λa y hy=>by rcases List.mem_singleton.1 hy with rfl;rfl⟩
instance {z:Int}:Ci (ZX z):=⟨λa=>aG (Cn a),λa=>[By a.n],λa y hy=>by rcases List.mem_singleton.1 hy with rfl;rfl⟩
theorem Oc {a b y:As} (ha:a.ro=true) (hb:b.ro=true) (hy:y∈[a,b]):y.ro=true:=by
  rcases List.mem_cons.1 hy with rfl|hy
  · exact ha
  · rcases List.mem_singleton.1 hy with rfl;exact hb
instance {q:Rat}:Ci (FX q):=⟨λa=>aG (fxL a),λa=>[By a.z.n,By a.m],λa y hy=>Oc rfl rfl hy⟩
instance {p:Pt}:Ci (PX p):=⟨λa=>aG (D7 a),λa=>[By a.x.z.n,By a.x.m,By a.y.z.n,By a.y.m],λa y hy=>by
  rcases List.mem_cons.1 hy with rfl|hy
  · rfl
  · rcases List.mem_cons.1 hy with rfl|hy
    · rfl
    · exact Oc rfl rfl hy⟩
section
variable {w0:A_} {S:Nat->Prop} {w W:World} {L:List As} {α:Type} [Ci α]
-- parts
theorem T9 {q:Rat} {a:FX q} (h:Ro S w a):Ro S w a.z:=λy hy=>h y (by rcases List.mem_singleton.1 hy with rfl;exact List.mem_cons_self)
theorem Y6 {q:Rat} {a:FX q} (h:Ro S w a):Ro S w a.m:=λy hy=>h y (by rcases List.mem_singleton.1 hy with rfl;exact List.mem_cons_of_mem _ List.mem_cons_self)
theorem MD {z:Int} {a:ZX z} (h:Ro S w a):Ro S w a.n:=λy hy=>h y hy
theorem V8 {p:Pt} {a:PX p} (h:Ro S w a):Ro S w a.x:=λy hy=>h y (by
  rcases List.mem_cons.1 hy with rfl|hy
  · exact List.mem_cons_self
  · rcases List.mem_singleton.1 hy with rfl;exact List.mem_cons_of_mem _ List.mem_cons_self)
theorem XB {p:Pt} {a:PX p} (h:Ro S w a):Ro S w a.y:=λy hy=>h y (List.mem_cons_of_mem _ (List.mem_cons_of_mem _ hy))
theorem ZC {z:Int} {a:NX z.natAbs} (h:Ro S w a):Ro S w (ZX.mk a:ZX z):=λy hy=>h y hy
theorem YT {q:Rat} {a:ZX q.num} {b:NX (q.den-1)} (h:Ro S w a) (k:Ro S w b):Ro S w (FX.mk a b:FX q):=λy hy=>by
  rcases List.mem_cons.1 hy with rfl|hy
  · exact h _ List.mem_cons_self
  · exact k y hy
theorem YO {p:Pt} {a:FX p.x} {b:FX p.y} (h:Ro S w a) (k:Ro S w b):Ro S w (PX.mk a b:PX p):=λy hy=>by
  rcases List.mem_cons.1 hy with rfl|hy
  · exact h _ List.mem_cons_self
  · rcases List.mem_cons.1 hy with rfl|hy
    · exact h _ (List.mem_cons_of_mem _ List.mem_cons_self)
    · exact k y hy
theorem Wb:Ro S w NX.zero:=λy hy=>by
  rcases List.mem_singleton.1 hy with rfl
  exact ⟨(λb e=>by cases e),(λb e=>by cases e)⟩
theorem W3 {x y:Nat} {h:x=y} {a:NX x} (k:Ro S w a):Ro S w (a.cast h):=by subst h;exact k
theorem Qh {x:Nat} {a:NX x} (h:Ro S w a):Holds w (nA a.nv):=(h _ List.mem_cons_self).1
-- what a walk starts with
theorem YP {x:Nat} {a:NX x} (h:Ro S w a) (t:∀y∈L,y.ro=true/\Holds w y):∀y∈By a::L,y.ro=true/\Holds w y:=Bs rfl (h _ List.mem_cons_self).1 t
theorem VV {z:Int} {a:ZX z} (h:Ro S w a) (t:∀y∈L,y.ro=true/\Holds w y):∀y∈By a.n::L,y.ro=true/\Holds w y:=YP (MD h) t
theorem NJ {q:Rat} {a:FX q} (h:Ro S w a) (t:∀y∈L,y.ro=true/\Holds w y):∀y∈By a.z.n::By a.m::L,y.ro=true/\Holds w y:=VV (T9 h) (YP (Y6 h) t)
theorem V3 {p:Pt} {a:PX p} (h:Ro S w a) (t:∀y∈L,y.ro=true/\Holds w y):∀y∈By a.x.z.n::By a.x.m::By a.y.z.n::By a.y.m::L,y.ro=true/\Holds w y:=NJ (V8 h) (NJ (XB h) t)
end
section
variable {P:Program} {ops:Array Oper} {rest:List Oper} {Q:Exit->Act->World->Prop} {n d:Nat} {F:List (Nat×Value)} {w0:A_} {S:Nat->Prop} {L:List As} {t:TypeId} {p:String} {af:Array Edge} {y:Operand} {f:FuncId} {xs:List Operand} {args:List Value} {ts:Array TypeId}
theorem cN {x:Nat} (hc:∀args w,(callFunc f args).run P w=.ok (.enter f args) w) (h:∀w,BB w0 w L->Calls P f args.toArray w (Ah (NX x) (SL w0 S L) w))
    (hf:evF F y=some (.func (.func f) #[] #[])) (hargs:xs.map (evF F)=args.map some) (hd:Nat.ble (d+1) n=true) (next:∀a:NX x,At w0 S a->OkL P ops rest Q n ((d,Bu a)::F) w0 (By a::L)) :
    OkL P ops (⟨some d,.call { callee:=.value y,args:=xs.toArray,argTypes:=ts },t,p,af,none⟩::rest) Q n F w0 L:=OkL.callR hc h hf hargs hd next
theorem cZ {x:Int} (hc:∀args w,(callFunc f args).run P w=.ok (.enter f args) w) (h:∀w,BB w0 w L->Calls P f args.toArray w (Ah (ZX x) (SL w0 S L) w))
    (hf:evF F y=some (.func (.func f) #[] #[])) (hargs:xs.map (evF F)=args.map some) (hd:Nat.ble (d+1) n=true) (next:∀a:ZX x,At w0 S a->OkL P ops rest Q n ((d,aG (Cn a))::F) w0 (By a.n::L)) :
    OkL P ops (⟨some d,.call { callee:=.value y,args:=xs.toArray,argTypes:=ts },t,p,af,none⟩::rest) Q n F w0 L:=OkL.callR hc h hf hargs hd next
theorem cF {x:Rat} (hc:∀args w,(callFunc f args).run P w=.ok (.enter f args) w) (h:∀w,BB w0 w L->Calls P f args.toArray w (Ah (FX x) (SL w0 S L) w))
    (hf:evF F y=some (.func (.func f) #[] #[])) (hargs:xs.map (evF F)=args.map some) (hd:Nat.ble (d+1) n=true) (next:∀a:FX x,At w0 S a->OkL P ops rest Q n ((d,aG (fxL a))::F) w0 (By a.z.n::By a.m::L)) :
    OkL P ops (⟨some d,.call { callee:=.value y,args:=xs.toArray,argTypes:=ts },t,p,af,none⟩::rest) Q n F w0 L:=OkL.callR hc h hf hargs hd next
theorem cP {x:Pt} (hc:∀args w,(callFunc f args).run P w=.ok (.enter f args) w) (h:∀w,BB w0 w L->Calls P f args.toArray w (Ah (PX x) (SL w0 S L) w))
    (hf:evF F y=some (.func (.func f) #[] #[])) (hargs:xs.map (evF F)=args.map some) (hd:Nat.ble (d+1) n=true) (next:∀a:PX x,At w0 S a->OkL P ops rest Q n ((d,aG (D7 a))::F) w0 (By a.x.z.n::By a.x.m::By a.y.z.n::By a.y.m::L)) :
    OkL P ops (⟨some d,.call { callee:=.value y,args:=xs.toArray,argTypes:=ts },t,p,af,none⟩::rest) Q n F w0 L:=OkL.callR hc h hf hargs hd next
end
theorem WA (x:Nat):(dg x).length<=3*nw x:=FR (Nat.lt_of_lt_of_le (Bi x) (by rw [Nat.pow_mul];exact Nat.pow_le_pow_left (by decide) _))
end
section
set_option maxRecDepth 100000
theorem YN:Ez Tryz.prog 2:=⟨Tryz.isAgg2⟩
theorem BH:Ez Tryz.prog 3:=⟨Tryz.isAgg3⟩
theorem KL:Ez Tryz.prog 4:=⟨Tryz.isAgg4⟩
theorem Q5:Ez Tryz.prog 9:=⟨Tryz.isAgg9⟩
theorem Mf:Ez Tryz.prog 22:=⟨Tryz.isAgg22⟩
theorem Ds:Ez Tryz.prog 23:=⟨Tryz.isAgg23⟩
theorem Dk:Ez Tryz.prog 24:=⟨Tryz.isAgg24⟩
theorem Wx:C3 Tryz.prog 26 3:=⟨Tryz.isAgg26,Tryz.sizeOf26⟩
theorem Dm:Ez Tryz.prog 28:=⟨Tryz.isAgg28⟩
theorem E8:C3 Tryz.prog 30 3:=⟨Tryz.isAgg30,Tryz.sizeOf30⟩
theorem G1:Ez Tryz.prog 36:=⟨Tryz.isAgg36⟩
theorem GX:Ez Tryz.prog 37:=⟨Tryz.isAgg37⟩
theorem D_:C3 Tryz.prog 39 3:=⟨Tryz.isAgg39,Tryz.sizeOf39⟩
theorem MI:C3 Tryz.prog 49 4:=⟨Tryz.isAgg49,Tryz.sizeOf49⟩
theorem WQ:C3 Tryz.prog 50 4:=⟨Tryz.isAgg50,Tryz.sizeOf50⟩
theorem F9:Ez Tryz.prog 69:=⟨Tryz.isAgg69⟩
theorem Bw:C3 Tryz.prog 71 2:=⟨Tryz.isAgg71,Tryz.sizeOf71⟩
theorem Qs:C3 Tryz.prog 73 2:=⟨Tryz.isAgg73,Tryz.sizeOf73⟩
theorem D0:C3 Tryz.prog 75 3:=⟨Tryz.isAgg75,Tryz.sizeOf75⟩
theorem Ck:C3 Tryz.prog 77 5:=⟨Tryz.isAgg77,Tryz.sizeOf77⟩
theorem FA:Ez Tryz.prog 79:=⟨Tryz.isAgg79⟩
theorem NU:C3 Tryz.prog 81 2:=⟨Tryz.isAgg81,Tryz.sizeOf81⟩
theorem DM:C3 Tryz.prog 83 3:=⟨Tryz.isAgg83,Tryz.sizeOf83⟩
theorem Wd:Ez Tryz.prog 92:=⟨Tryz.isAgg92⟩
theorem Qz:C3 Tryz.prog 94 2:=⟨Tryz.isAgg94,Tryz.sizeOf94⟩
theorem Xx:C3 Tryz.prog 96 4:=⟨Tryz.isAgg96,Tryz.sizeOf96⟩
theorem HM:C3 Tryz.prog 99 10:=⟨Tryz.isAgg99,Tryz.sizeOf99⟩
theorem FC:C3 Tryz.prog 105 3:=⟨Tryz.isAgg105,Tryz.sizeOf105⟩
theorem I7:C3 Tryz.prog 110 3:=⟨Tryz.isAgg110,Tryz.sizeOf110⟩
theorem XV:C3 Tryz.prog 119 3:=⟨Tryz.isAgg119,Tryz.sizeOf119⟩
theorem KX:C3 Tryz.prog 121 6:=⟨Tryz.isAgg121,Tryz.sizeOf121⟩
theorem Kl:C3 Tryz.prog 240 2:=⟨Tryz.isAgg240,Tryz.sizeOf240⟩
theorem Ll:C8 Tryz.prog 30 ([(Value.slice none 0 0),(Value.slice none 0 0),(Value.slice none 0 0)]):=⟨_,Tryz.zeroValue30,rfl⟩
theorem UK:C8 Tryz.prog 39 ([(Value.slice none 0 0),(Value.slice none 0 0),(Value.slice none 0 0)]):=⟨_,Tryz.zeroValue39,rfl⟩
theorem MK:C8 Tryz.prog 49 ([(vI 0),(vI 0),(vI 0),(vI 0)]):=⟨_,Tryz.zeroValue49,rfl⟩
theorem XM:C8 Tryz.prog 50 ([(vI 0),(vI 0),(vI 0),(vI 0)]):=⟨_,Tryz.zeroValue50,rfl⟩
theorem FV:C8 Tryz.prog 71 (AS 0):=⟨_,Tryz.zeroValue71,rfl⟩
theorem XN:C8 Tryz.prog 73 (AS 0):=⟨_,Tryz.zeroValue73,rfl⟩
theorem KE:C8 Tryz.prog 75 (A7 0):=⟨_,Tryz.zeroValue75,rfl⟩
theorem H9:C8 Tryz.prog 77 (AW (0:Rat)):=⟨_,Tryz.zeroValue77,rfl⟩
theorem QP:C8 Tryz.prog 81 ([(Value.bool false),(Value.slice none 0 0)]):=⟨_,Tryz.zeroValue81,rfl⟩
theorem LH:C8 Tryz.prog 83 ([(Value.bool false),(Value.slice none 0 0),(Value.slice none 0 0)]):=⟨_,Tryz.zeroValue83,rfl⟩
theorem Nm:C8 Tryz.prog 99 (BC (⟨0,0⟩:Pt)):=⟨_,Tryz.zeroValue99,rfl⟩
theorem NR:C8 Tryz.prog 105 ([(vI 0),(vI 0),(vI 0)]):=⟨_,Tryz.zeroValue105,rfl⟩
theorem Pf:C8 Tryz.prog 110 ([(vI 0),(vI 0),(vI 0)]):=⟨_,Tryz.zeroValue110,rfl⟩
theorem YE:C8 Tryz.prog 114 ([(vI 0),(vI 0)]):=⟨_,Tryz.zeroValue114,rfl⟩
theorem X7:C8 Tryz.prog 119 ([(vI 0),(vI 0),(vI 0)]):=⟨_,Tryz.zeroValue119,rfl⟩
theorem MU:C8 Tryz.prog 121 ([(Value.bool false),(Value.slice none 0 0),(Value.slice none 0 0),(Value.bool false),(Value.slice none 0 0),(Value.slice none 0 0)]):=⟨_,Tryz.zeroValue121,rfl⟩
theorem TK:C8 Tryz.prog 240 ([(vI 0),(vI 0)]):=⟨_,Tryz.zeroValue240,rfl⟩
theorem X3:C8 Tryz.prog 331 ([(Value.int .u8 (0:Int)),(Value.int .u8 (0:Int)),(Value.int .u8 (0:Int)),(Value.int .u8 (0:Int)),(Value.int .u8 (0:Int)),(Value.int .u8 (0:Int)),(Value.int .u8 (0:Int)),(Value.int .u8 (0:Int)),(Value.int .u8 (0:Int)),(Value.int .u8 (0:Int)),(Value.int .u8 (0:Int)),(Value.int .u8 (0:Int)),(Value.int .u8 (0:Int)),(Value.int .u8 (0:Int)),(Value.int .u8 (0:Int)),(Value.int .u8 (0:Int)),(Value.int .u8 (0:Int)),(Value.int .u8 (0:Int)),(Value.int .u8 (0:Int)),(Value.int .u8 (0:Int)),(Value.int .u8 (0:Int)),(Value.int .u8 (0:Int)),(Value.int .u8 (0:Int)),(Value.int .u8 (0:Int))]):=⟨_,Tryz.zeroValue331,rfl⟩
end
end Go.Proofs.YtpolhpjiahbidaaGreatDoor
