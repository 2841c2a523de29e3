import Derived.ChangeKeysEq
import Derived.Test.YtbfdamnfcmefmaaGreatDoorRows
import Derived.Test.YtbfdamnfcmefmaaGreatDoorPend15
namespace Go.Proofs.YtbfdamnfcmefmaaGreatDoor
open Go Go.RowKit Go.Proofs.Tryz
open Go.Value renaming slice→qz,bool→qa
set_option linter.unusedVariables false
set_option linter.unusedSimpArgs false
section
section
variable {P:Program} {n:Nat} {F:List (Nat×Value)} {w0:BD} {L:List As} {v:Value} {x lo hi:Operand} {d:Option Tmp} {t:TypeId} {p:String} {af:Array Edge} {g:Option (Nat×Bool)}
end
end
section
set_option maxRecDepth 100000
end
theorem ZL (a b:Pt):(a+b).x=a.x+b.x:=rfl
theorem ZM (a b:Pt):(a+b).y=a.y+b.y:=rfl
theorem Pc (a b:Pt):(a-b).x=a.x-b.x:=rfl
theorem Pd (a b:Pt):(a-b).y=a.y-b.y:=rfl
theorem R6 (a:Pt) (k:Rat):(G0 a k).x=a.x*k:=rfl
theorem R7 (a:Pt) (k:Rat):(G0 a k).y=a.y*k:=rfl
theorem BC (a b c:Pt):AC a b c=(b.x-a.x)*(c.y-a.y)-(b.y-a.y)*(c.x-a.x):=rfl
theorem HJ (a b:Pt):B0 a b=a.x*b.x+a.y*b.y:=rfl
theorem HI (a b:Pt):BL a b=a.x*b.y-a.y*b.x:=rfl
theorem OL {q:Rat} (h:q<0):q.num.sign = -1:=by
  have h1:¬0<=q.num:=λe=>by have:=Rat.num_nonneg.1 e;grind
  exact Int.sign_eq_neg_one_of_neg Z
theorem KX {q:Rat} (h:0<q):q.num.sign=1:=by
  have h1:0<=q.num:=Rat.num_nonneg.2 (by grind)
  have h2:q.num≠0:=λe=>by have:=Rat.num_eq_zero.1 e;grind
  exact Int.sign_eq_one_of_pos Z
theorem Lq {q:Rat} (h:q=0):q.num.sign=0:=by subst h;rfl
def Y5 (q:Rat):Int:=if q<0 then -1 else if q=0 then 0 else 1
theorem WV (q:Rat):q.num.sign=Y5 q:=by
  unfold Y5
  split
  · exact OL ‹_›
  · split
    · exact Lq ‹_›
    · exact KX (by grind)
theorem BZ (a b c:Pt):AC b c a=AC a b c:=by simp only [BC];grind
section
theorem Xw (a b:Int):(decide (a.natAbs=b.natAbs)&&((decide (a<0) == decide (b<0))&&true))=decide (a=b):=by
  by_cases e:a=b
  · subst e;simp
  · rw [xH e]
    by_cases h1:a<0<;>by_cases h2:b<0<;>simp [h1,h2]<;>omega
theorem Xv (D:Nat) (a b:Int):Ef prog (D+4) 66 (.agg (A6 a).toArray) (.agg (A6 b).toArray) (decide (a=b)):=by
  rw [<-Xw]
  exact Ef.struct underlying66 Tryz.stoodInHeld66 (Iu.agg (us:=AT a.natAbs) (bs:=AT b.natAbs) jY isAgg64 sizeOf64 O O (O3 D _ _) (Iu.one jY isAgg4 O O (Ef.bool underlying4) Iu.nil))
theorem Ux (a b:Rat):(decide (a.num=b.num)&&(decide (a.den-1=b.den-1)&&true))=decide (a=b):=by
  by_cases e:a=b
  · subst e;simp
  · rw [xH e]
    have h1:=a.den_pos
    have h2:=b.den_pos
    simp only [Bool.and_true,xZ,xU]
    apply Classical.byContradiction
    intro h
    refine e (Rat.ext ?_ ?_)
    · exact Classical.byContradiction λk=>h (.inl k)
    · exact Classical.byContradiction λk=>h (.inr Z)
theorem Kz (D:Nat) (a b:Rat):Ef prog (D+5) 68 (.agg (AF a).toArray) (.agg (AF b).toArray) (decide (a=b)):=by
  rw [<-Ux]
  exact Ef.struct underlying68 Tryz.stoodInHeld68 (Iu.agg (us:=A6 a.num) (bs:=A6 b.num) jY isAgg66 sizeOf66 O O (Xv D _ _) (Iu.agg (us:=AT (a.den-1)) (bs:=AT (b.den-1)) jY isAgg62 sizeOf62 O O (HM (D+2) _ _) Iu.nil))
instance:DecidableEq Pt:=λa b=>decidable_of_iff (a.x=b.x/\a.y=b.y) ⟨λh=>Pt.ext h.1 h.2,λh=>h▸⟨rfl,rfl⟩⟩
theorem Z9 (a b:Pt):(decide (a.x=b.x)&&(decide (a.y=b.y)&&true))=decide (a=b):=by
  by_cases e:a=b
  · subst e;simp
  · rw [xH e]
    simp only [Bool.and_true,xZ,xU]
    apply Classical.byContradiction
    intro h
    refine e (Pt.ext ?_ ?_)
    · exact Classical.byContradiction λk=>h (.inl k)
    · exact Classical.byContradiction λk=>h (.inr k)
theorem Uw (D:Nat) (a b:Pt):Ef prog (D+6) 78 (.agg (Aa a).toArray) (.agg (Aa b).toArray) (decide (a=b)):=by
  rw [<-Z9]
  exact Ef.struct underlying78 Tryz.stoodInHeld78 (Iu.agg (us:=AF a.x) (bs:=AF b.x) jY isAgg68 sizeOf68 O O (Kz D _ _) (Iu.agg (us:=AF a.y) (bs:=AF b.y) jY isAgg68 sizeOf68 O O (Kz D _ _) Iu.nil))
section
variable {P:Program}
def Oe (P:Program) (D:Nat) (e:TypeId) (c:Nat) (xs ys:List Value) (is:List Nat) (b:Bool):Prop:=∀w,(Go.Op.eqItems D e c xs.toArray ys.toArray is).run P w=.ok b w
theorem Oe.nil {D c:Nat} {e:TypeId} {xs ys:List Value}:Oe P D e c xs ys [] true:=λw=>rfl
theorem Ef.array {D n c:Nat} {T e:TypeId} {xs ys:List Value} {b:Bool} (hu:P.underlying T=some (.array n e)) (hi:∃i,P.info? e=some i) (hc:P.cellsOf e=c) (h:Oe P D e c xs ys (List.range n) b) :
    Ef P (D+1) T (.agg xs.toArray) (.agg ys.toArray) b:=λw=>by
  obtain ⟨i,hi⟩:=hi
  rw [Go.run_equalIn_array w D xs.toArray ys.toArray hu hi,hc]
  exact h w
end
theorem QC (D:Nat) {a b:Rat} (h:a=b):Ef prog (D+5) 68 (.agg (AF a).toArray) (.agg (AF b).toArray) true:=by
  have:=Kz D a b;rwa [xI h] at this
section
variable {P:Program} {n:Nat} {F:List (Nat×Value)} {w0:BD} {L:List As} {x y:Operand} {d:Option Tmp} {t:TypeId} {p:String} {af:Array Edge} {g:Option (Nat×Bool)}
theorem Nn {xs ys:List Value} {tx ty:TypeId} (hx:evF F x=some (.agg xs.toArray)) (hy:evF F y=some (.agg ys.toArray)) (hg:P.eqGuardType P.depth tx=false) (hc:Ef P 10000 tx (.agg xs.toArray) (.agg ys.toArray) true) :
    Ex P n F w0 L ⟨d,.binOp .neq tx x y ty,t,p,af,g⟩ (.bool false):=QF hx hy hg hc
end
end
section
structure QD where
  n:Int
  d:Nat
structure PD where
  x:QD
  y:QD
def aX (q:QD):List Value:=[.int .i64 q.n,.int .u32 (q.d:Nat)]
def dH (p:PD):List Value:=aX p.x++aX p.y
def QD.ok (q:QD):Prop := -9223372036854775808<=q.n/\q.n<9223372036854775808/\q.d<4294967296
def PD.ok (p:PD):Prop:=p.x.ok/\p.y.ok
def Oa (q:QD):Rat:=((q.n:Int):Rat)/(((max q.d 1:Nat):Int):Rat)
def CK (p:PD):Pt:=⟨Oa p.x,Oa p.y⟩
theorem UI {q:QD} (h:q.ok):Sz (Oa q)<=4:=by
  obtain ⟨h1,h2,h3⟩:=h
  have s1:=NR h1 h2
  have s2:=NR (z:=((max q.d 1:Nat):Int)) Z Z
  have hb:(((max q.d 1:Nat):Int):Rat)≠0:=λe=>by
    have:((max q.d 1:Nat):Int)=0:=by exact_mod_cast e
    omega
  have:=Ke (a:=((q.n:Int):Rat)) hb
  unfold Oa
  omega
theorem UF {p:PD} (h:p.ok):Bl (CK p)<=4:=UE (UI h.1) (UI h.2)
section
variable {P:Program} {w:World} {r:Reach} {base:Nat}
end
section
variable {P:Program} {w:World} {r:Reach} {base:Nat} {t:TypeId} {v:Value} {ts:List TypeId}
end
end
section
def rowsL {α:Type} (enc:α->List Value) (xs:List α):List Value:=xs.flatMap enc
section
variable {α:Type} {enc:α->List Value} {z:Nat}
theorem Bb (xs ys:List α):rowsL enc (xs++ys)=rowsL enc xs++rowsL enc ys:=by simp [rowsL]
theorem AZ (h:∀x,(enc x).length=z) (xs:List α):(rowsL enc xs).length=xs.length*z:=by
  induction xs with
  | nil=>simp [rowsL]
  | cons x r ih =>
    have e:rowsL enc (x::r)=enc x++rowsL enc r:=rfl
    rw [e,xL,ih,h,List.length_cons,Nat.add_mul];omega
theorem Ae (h:∀x,(enc x).length=z) (d:α):∀(xs:List α) (j:Nat),j<xs.length->((rowsL enc xs).drop (j*z)).take z=enc (xs.getD j d)
  | x::r,0,_=>by
    have e:rowsL enc (x::r)=enc x++rowsL enc r:=rfl
    rw [e,Nat.zero_mul,List.drop_zero,List.take_append_of_le_length (by rw [h];exact Nat.le_refl _),List.take_of_length_le (by rw [h];exact Nat.le_refl _)];rfl
  | x::r,j+1,hj=>by
    have e:rowsL enc (x::r)=enc x++rowsL enc r:=rfl
    rw [e,show (j+1)*z=(enc x).length+j*z by rw [h,Nat.add_mul];omega,List.drop_append,List.drop_of_length_le Z,Nat.add_sub_cancel_left,List.nil_append,Ae h d r j (by simpa using hj)];rfl
end
structure RX (cs:List Value) (n:Nat) where
  p:Option Addr
  c:Nat
  ok:A8 p n c
@[reducible] def RX.val {cs:List Value} {n:Nat} (a:RX cs n):Value:=.slice a.p n a.c
@[reducible] def RX.row {cs:List Value} {n:Nat} (a:RX cs n):As:=AN a.p cs
instance {cs:List Value} {n:Nat}:Cy (RX cs n):=⟨λa=>.slice a.p n a.c,λa=>[AN a.p cs],λa y hy=>by rcases xO.1 hy with rfl;rfl⟩
theorem eD {S:Nat->Prop} {W w:World} {L:List As} (hw:BH ⟨W,none⟩ w L) (i:Nat) {p:Option Addr} {T:TypeId} {z n c:Nat} {cs:List Value} (hi:L[i]?=some (rowW p T z n c cs)) (ho:OwnOk p n c) (hl:cs.length=n*z) {v:Value} (hv:v=.slice p n c):BP (RX cs n) S W (.returned v) w:=by
  have hb:=hw.newRow hi
  refine ⟨⟨p,c,ho.row⟩,by rw [hv];rfl,hw.out,λy hy=>?_⟩
  rcases xO.1 hy with rfl
  refine ⟨λd e=>?_,λd e=>.inl (hb d e)⟩
  obtain ⟨_,o,ho2,hp⟩:=hw.2.1 _ (List.mem_of_getElem? hi) d e
  exact ⟨o,ho2,DY ho hl hp⟩
def DC (xs:List Nat):List Value:=xs.map λx=>Value.int .u8 (x:Nat)
theorem UX {xs:List Nat} {j:Nat} (h:j<xs.length):(DC xs)[j*1]?=some (.int .u8 ((xs.getD j 0:Nat):Int)):=by rw [Nat.mul_one];simp [DC,h]
structure MQ where
  nx:Nat
  ny:Nat
  cs:List Nat
  p:Option Addr
  cap:Nat
  a:Int
  b:Int
  c:Int
  d:Int
  den:Nat
  fst:Nat
  hx:nx<256
  hy:ny<256
  ha:-128<=a/\a<=127
  hb:-128<=b/\b<=127
  hc:-128<=c/\c<=127
  hd:-128<=d/\d<=127
  hden:den<256
  hfst:fst<256
  hcs:∀x∈cs,x<256
  ok:A8 p cs.length cap
def E2 (m:MQ):List Value:=[.int .u8 m.nx,.int .u8 m.ny,.slice m.p m.cs.length m.cap,.int .i8 m.a,.int .i8 m.b,.int .i8 m.c,.int .i8 m.d,.int .u8 m.den,.int .u8 m.fst]
instance:Cy MQ:=⟨λm=>aG (E2 m),λm=>[AN m.p (DC m.cs)],λa y hy=>by rcases xO.1 hy with rfl;rfl⟩
theorem OJ {a b:Nat} (h:a<256):IntKind.u8.wrap ((a:Int).tdiv (b:Int))=((a/b:Nat):Int):=by
  have:a/b<=a:=Nat.div_le_self _ _
  rw [<-Int.ofNat_tdiv]
  generalize a/b=q at *
  exact OV Z Z
theorem XY {a b:Nat} (h:a+b<256):IntKind.u8.wrap ((a:Int)+(b:Int))=((a+b:Nat):Int):=by rw [OV Z Z];omega
abbrev P2:=Nat×Nat
def Co (nx way i:Nat):List (P2×P2×P2) :=
  let x:=2*(i%nx);let y:=2*(i/nx)
  if way<3\/(way=7/\i=0) then [((x,y),(x+2,y),(x+2,y+2)),((x,y),(x+2,y+2),(x,y+2))]
  else if way<5 then [((x,y),(x+2,y),(x,y+2)),((x+2,y),(x+2,y+2),(x,y+2))]
  else if way<7 then [((x,y),(x+2,y),(x+1,y+1)),((x+2,y),(x+2,y+2),(x+1,y+1)),((x+2,y+2),(x,y+2),(x+1,y+1)),((x,y+2),(x,y),(x+1,y+1))] else []
def Bq (p q r:P2):Int:=((q.1:Int)-p.1)*((r.2:Int)-p.2)-((q.2:Int)-p.2)*((r.1:Int)-p.1)
def RE (t:P2×P2×P2):Prop:=0<Bq t.1 t.2.1 t.2.2/\(t.1.1<=6/\t.1.2<=6)/\(t.2.1.1<=6/\t.2.1.2<=6)/\(t.2.2.1<=6/\t.2.2.2<=6)
theorem Ub {nx ny way i:Nat} (hx:nx<=3) (hy:ny<=3) (hi:i<nx*ny):∀t∈Co nx way i,RE t:=by
  have h1:i%nx<=2:=by
    have:nx≠0:=λe=>by subst e;omega
    have:=Nat.mod_lt i (show 0<nx by omega)
    omega
  have h2:i/nx<=2:=by
    have:i/nx<ny:=Nat.div_lt_of_lt_mul (by rwa [Nat.mul_comm] at hi ⊢)
    omega
  intro t ht
  unfold Co at ht
  generalize i%nx=u at *
  generalize i/nx=v at *
  have key:∀t:P2×P2×P2,t∈[((2*u,2*v),(2*u+2,2*v),(2*u+2,2*v+2)),((2*u,2*v),(2*u+2,2*v+2),(2*u,2*v+2)),((2*u,2*v),(2*u+2,2*v),(2*u,2*v+2)),((2*u+2,2*v),(2*u+2,2*v+2),(2*u,2*v+2)),
      ((2*u,2*v),(2*u+2,2*v),(2*u+1,2*v+1)),((2*u+2,2*v),(2*u+2,2*v+2),(2*u+1,2*v+1)),((2*u+2,2*v+2),(2*u,2*v+2),(2*u+1,2*v+1)),((2*u,2*v+2),(2*u,2*v),(2*u+1,2*v+1))]->RE t:=by
    intro t ht
    simp only [xN,List.not_mem_nil,or_false] at ht
    rcases ht with rfl|rfl|rfl|rfl|rfl|rfl|rfl|rfl<;>refine ⟨?_,⟨?_,?_⟩,⟨?_,?_⟩,?_,?_⟩<;>dsimp only [Bq]<;>first|omega|grind
  refine key t ?_
  simp only at ht
  split at ht
  · simp only [xN,List.not_mem_nil,or_false] at ht ⊢;rcases ht with h|h<;>simp [h]
  · split at ht
    · simp only [xN,List.not_mem_nil,or_false] at ht ⊢;rcases ht with h|h<;>simp [h]
    · split at ht
      · simp only [xN,List.not_mem_nil,or_false] at ht ⊢;rcases ht with h|h|h|h<;>simp [h]
      · cases ht
theorem SN (nx way i:Nat):(Co nx way i).length<=4:=by
  unfold Co;simp only;split
  · simp
  · split
    · simp
    · split<;>simp
theorem Ou (nx way:Nat) (h:way<8):Co nx way 0≠[]:=by
  unfold Co;simp only;split
  · simp
  · split
    · simp
    · split
      · simp
      · rename_i h1 h2 h3;simp only [and_true,not_or] at h1;omega
section
variable {nx way i u v:Nat}
theorem Xc (hu:u=i%nx) (hv:v=i/nx) (h:way<3\/(way=7/\i=0)):Co nx way i=[((2*u,2*v),(2*u+2,2*v),(2*u+2,2*v+2)),((2*u,2*v),(2*u+2,2*v+2),(2*u,2*v+2))]:=by
  subst hu;subst hv;exact if_pos h
theorem Xd (hu:u=i%nx) (hv:v=i/nx) (h0:¬(way<3\/(way=7/\i=0))) (h:way<5):Co nx way i=[((2*u,2*v),(2*u+2,2*v),(2*u,2*v+2)),((2*u+2,2*v),(2*u+2,2*v+2),(2*u,2*v+2))]:=by
  subst hu;subst hv;exact (if_neg h0).trans (if_pos h)
theorem Xe (hu:u=i%nx) (hv:v=i/nx) (h0:¬(way<3\/(way=7/\i=0))) (h1:¬way<5) (h:way<7):Co nx way i=[((2*u,2*v),(2*u+2,2*v),(2*u+1,2*v+1)),((2*u+2,2*v),(2*u+2,2*v+2),(2*u+1,2*v+1)),((2*u+2,2*v+2),(2*u,2*v+2),(2*u+1,2*v+1)),((2*u,2*v+2),(2*u,2*v),(2*u+1,2*v+1))]:=by
  subst hu;subst hv;exact (if_neg h0).trans ((if_neg h1).trans (if_pos h))
theorem Xf (h0:¬(way<3\/(way=7/\i=0))) (h1:¬way<5) (h:¬way<7):Co nx way i=[]:=(if_neg h0).trans ((if_neg h1).trans (if_neg h))
end
def Ay (p:P2):List Value:=[vN p.1,vN p.2]
theorem C4 (p:P2):(Ay p).length=2:=rfl
def A7 (t:P2×P2×P2):List Value:=Ay t.1++Ay t.2.1++Ay t.2.2
theorem F8 (t:P2×P2×P2):(A7 t).length=6:=rfl
def Af (t:Tq3):List Value:=[vN t.1,vN t.2.1,vN t.2.2]
theorem Av (t:Tq3):(Af t).length=3:=rfl
def CT (z:Int×Int):List Value:=[.int .i64 z.1,.int .i64 z.2]
theorem F4 (z:Int×Int):(CT z).length=2:=rfl
def Gg (m:MQ) (i:Nat):Nat:=if 0<m.cs.length then m.cs.getD (i%m.cs.length) 0%8 else 0
theorem R_ (m:MQ) (i:Nat):Gg m i<8:=by unfold Gg;split<;>omega
def GA (m:MQ):Nat:=1+m.nx%3
def S4 (m:MQ):Nat:=1+m.ny%3
def EG (m:MQ):Nat->List (P2×P2×P2)
  | 0=>[]
  | i+1=>EG m i++Co (GA m) (Gg m i) i
def Aw (m:MQ):List (P2×P2×P2):=EG m (GA m*S4 m)
theorem JB (m:MQ):1<=GA m/\GA m<=3:=by unfold GA;omega
theorem JC (m:MQ):1<=S4 m/\S4 m<=3:=by unfold S4;omega
theorem Hs (m:MQ):∀i,(EG m i).length<=4*i
  | 0=>Nat.le_refl _
  | i+1=>by
    have h1:=Hs m i
    have h2:=SN (GA m) (Gg m i) i
    show (EG m i++Co (GA m) (Gg m i) i).length<=_
    rw [xL];omega
theorem Mp (m:MQ):∀i,i<=GA m*S4 m->∀t∈EG m i,RE t
  | 0,_,t,ht=>by cases ht
  | i+1,hi,t,ht=>by
    rcases List.mem_append.1 ht with h|h
    · exact Mp m i Z t h
    · exact Ub (JB m).2 (JC m).2 Z t h
theorem Mo (m:MQ):∀i,1<=i->EG m i≠[]
  | 1,_=>by
    show []++Co (GA m) (Gg m 0) 0≠[]
    rw [List.nil_append];exact Ou _ _ (R_ m 0)
  | i+2,_=>λe=>Mo m (i+1) Z (List.append_eq_nil_iff.1 e).1
theorem SO (m:MQ):Aw m≠[]:=Mo m _ (Nat.mul_pos (JB m).1 (JC m).1)
theorem HH (m:MQ):∀t∈Aw m,RE t:=Mp m _ (Nat.le_refl _)
theorem JY (m:MQ):GA m*S4 m<=9:=Nat.mul_le_mul (JB m).2 (JC m).2
theorem Hr (m:MQ):(Aw m).length<=36:=by
  have h1:=Hs m (GA m*S4 m)
  have h2:=JY m
  unfold Aw;omega
theorem C7 {a b:Int} {k:Int} (ha:-3<=a/\a<=3) (hb:-k<=b/\b<=k):-(3*k)<=a*b/\a*b<=3*k:=by
  obtain ⟨h3,h4⟩:=ha
  have e:a = -3\/a = -2\/a = -1\/a=0\/a=1\/a=2\/a=3:=by omega
  rcases e with rfl|rfl|rfl|rfl|rfl|rfl|rfl<;>omega
def XC (k:Int×Int×Int×Int):List Value:=[.int .i64 k.1,.int .i64 k.2.1,.int .i64 k.2.2.1,.int .i64 k.2.2.2]
structure DB where
  a:Int
  b:Int
  c:Int
  d:Int
def DB.det (k:DB):Int:=k.a*k.d-k.b*k.c
structure DB.Ok (k:DB):Prop where
  a:-3<=k.a/\k.a<=3
  b:-3<=k.b/\k.b<=3
  c:-3<=k.c/\k.c<=3
  d:-3<=k.d/\k.d<=3
  pos:0<k.det
def DB.at_ (k:DB) (p:P2):Int×Int:=(k.a*p.1+k.b*p.2,k.c*p.1+k.d*p.2)
def Gd (a b c d:Int):DB :=
  let k:DB:=⟨a.tmod 4,b.tmod 4,c.tmod 4,d.tmod 4⟩
  if k.det=0 then ⟨1,0,0,1⟩ else if k.det<0 then ⟨k.a,k.b,-k.c,-k.d⟩ else k
theorem Jo (a:Int):-3<=a.tmod 4/\a.tmod 4<=3:=by
  have h:=Int.tmod_eq_emod (a:=a) (b:=4)
  have h1:=Int.emod_nonneg a (show (4:Int)≠0 by decide)
  have h2:=Int.emod_lt_of_pos a (show (0:Int)<4 by decide)
  rw [h]
  split<;>omega
theorem N9 {a b c d A B C D:Int} (hA:A=a.tmod 4) (hB:B=b.tmod 4) (hC:C=c.tmod 4) (hD:D=d.tmod 4) (h:A*D-B*C=0):Gd a b c d=⟨1,0,0,1⟩:=by
  subst hA;subst hB;subst hC;subst hD;exact if_pos h
theorem N7 {a b c d A B C D:Int} (hA:A=a.tmod 4) (hB:B=b.tmod 4) (hC:C=c.tmod 4) (hD:D=d.tmod 4) (h:A*D-B*C<0):Gd a b c d=⟨A,B,-C,-D⟩:=by
  subst hA;subst hB;subst hC;subst hD;exact (if_neg (λe:a.tmod 4*d.tmod 4-b.tmod 4*c.tmod 4=0=>by rw [e] at h;omega)).trans (if_pos h)
theorem N8 {a b c d A B C D:Int} (hA:A=a.tmod 4) (hB:B=b.tmod 4) (hC:C=c.tmod 4) (hD:D=d.tmod 4) (h0:¬A*D-B*C=0) (h:¬A*D-B*C<0):Gd a b c d=⟨A,B,C,D⟩:=by
  subst hA;subst hB;subst hC;subst hD;exact (if_neg h0).trans (if_neg h)
theorem Fe (a b c d:Int):(Gd a b c d).Ok:=by
  have ha:=Jo a;have hb:=Jo b;have hc:=Jo c;have hd:=Jo d
  unfold Gd
  generalize a.tmod 4=a' at *
  generalize b.tmod 4=b' at *
  generalize c.tmod 4=c' at *
  generalize d.tmod 4=d' at *
  show (if a'*d'-b'*c'=0 then (⟨1,0,0,1⟩:DB) else if a'*d'-b'*c'<0 then ⟨a',b',-c',-d'⟩ else ⟨a',b',c',d'⟩).Ok
  by_cases h0:a'*d'-b'*c'=0
  · rw [if_pos h0];exact ⟨by decide,by decide,by decide,by decide,by decide⟩
  · rw [if_neg h0]
    by_cases h:a'*d'-b'*c'<0
    · rw [if_pos h];exact ⟨ha,hb,by dsimp only;omega,by dsimp only;omega,by show 0<a' * -d'-b' * -c';rw [Int.mul_neg,Int.mul_neg];omega⟩
    · rw [if_neg h];exact ⟨ha,hb,hc,hd,by show 0<a'*d'-b'*c';omega⟩
theorem UP {k:DB} (h:k.Ok) {p:P2} (hp:p.1<=6/\p.2<=6):(-36<=(k.at_ p).1/\(k.at_ p).1<=36) /\ -36<=(k.at_ p).2/\(k.at_ p).2<=36:=by
  obtain ⟨x,y⟩:=p
  have key:∀(z:Int) (n:Nat),-3<=z/\z<=3->n<=6 -> -18<=z*n/\z*n<=18:=λz n h1 h2=>by
    obtain ⟨h3,h4⟩:=h1
    have e:z = -3\/z = -2\/z = -1\/z=0\/z=1\/z=2\/z=3:=by omega
    rcases e with rfl|rfl|rfl|rfl|rfl|rfl|rfl<;>omega
  have h1:=key k.a x h.a hp.1;have h2:=key k.b y h.b hp.2;have h3:=key k.c x h.c hp.1;have h4:=key k.d y h.d hp.2
  simp only [DB.at_]
  exact ⟨⟨Z,Z⟩,Z,Z⟩
def Ge (k:DB) (den:Nat) (p:P2):PD:=⟨⟨(k.at_ p).1,den⟩,⟨(k.at_ p).2,den⟩⟩
theorem ZC {k:DB} (h:k.Ok) (den:Nat) {p q r:P2} (ht:0<Bq p q r):0<AC (CK (Ge k den p)) (CK (Ge k den q)) (CK (Ge k den r)):=by
  have hD:0<(((max den 1:Nat):Int):Rat):=by exact_mod_cast (show (0:Int)<((max den 1:Nat):Int) by omega)
  have e:AC (CK (Ge k den p)) (CK (Ge k den q)) (CK (Ge k den r))=((k.det*Bq p q r:Int):Rat)*((((max den 1:Nat):Int):Rat)⁻¹*(((max den 1:Nat):Int):Rat)⁻¹):=by
    simp only [BC,CK,Ge,Oa,DB.at_,DB.det,Bq,Rat.div_def,Rat.intCast_add,Rat.intCast_mul,Rat.intCast_sub]
    generalize (((max den 1:Nat):Int):Rat)⁻¹=D
    grind
  rw [e]
  have h1:0<k.det*Bq p q r:=Int.mul_pos h.pos ht
  have h2:(0:Rat)<((k.det*Bq p q r:Int):Rat):=by exact_mod_cast h1
  have h3:=Rat.inv_pos.2 hD
  exact Rat.mul_pos h2 (Rat.mul_pos h3 h3)
end
end Go.Proofs.YtbfdamnfcmefmaaGreatDoor
