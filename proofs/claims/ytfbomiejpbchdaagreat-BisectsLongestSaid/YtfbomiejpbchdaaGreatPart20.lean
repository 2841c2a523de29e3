import Derived.ChangeKeysEq
import Derived.Test.YtfbomiejpbchdaaGreatRows
import Derived.Test.YtfbomiejpbchdaaGreatPart06
import Derived.Test.YtfbomiejpbchdaaGreatPart08
import Derived.Test.YtfbomiejpbchdaaGreatPart19
namespace Go.Proofs.YtfbomiejpbchdaaGreat
open Go Go.RowKit Go.Proofs.Tryz
set_option linter.unusedVariables false
set_option linter.unusedSimpArgs false
section
section
variable {P:Program} {n:Nat} {F:List (Nat×Value)} {w0:BM} {L:List As} {v:Value} {x:Operand} {d:Option Tmp} {t:TypeId} {p:String} {af:Array Edge} {g:Option (Nat×Bool)}
theorem FA {tx e:TypeId} {b len k:Nat} (hx:evF F x=some (.pointer (some ⟨b,0,none⟩))) (hu:P.underlying tx=some (.array len e)) (hs:∀w,(sizeOf e).run P w=.ok k w) (h0:0<len) :
    Ex P n F w0 L ⟨d,.slice tx x none none none,t,p,af,g⟩ (.slice (some ⟨b,0,none⟩) len len):=λA w ha _=>by
  have e1:¬len=0:=by omega
  simp [execOp,ha.ev hx,Instr.sliceAt,run_underlying hu,Instr.sureAddr,Instr.sliceBounds,Instr.sliceBound,hs,e1,Addr.add_lit]
end
end
section
set_option maxRecDepth 100000
end
section
set_option maxRecDepth 100000
end
section
set_option maxRecDepth 100000
end
section
set_option maxRecDepth 100000
end
section
set_option maxRecDepth 100000
end
section
set_option maxRecDepth 100000
end
section
section
variable {P:Program} {n:Nat} {F:List (Nat×Value)} {w0:BM} {L:List As} {v:Value} {x lo hi:Operand} {d:Option Tmp} {t:TypeId} {p:String} {af:Array Edge} {g:Option (Nat×Bool)}
end
end
section
set_option maxRecDepth 100000
end
theorem XK (a b:Pt):(a+b).x=a.x+b.x:=rfl
theorem XI (a b:Pt):(a+b).y=a.y+b.y:=rfl
theorem Y4 (a b:Pt):(a-b).x=a.x-b.x:=rfl
theorem Y1 (a b:Pt):(a-b).y=a.y-b.y:=rfl
theorem Qi (a:Pt) (k:Rat):(Cp a k).x=a.x*k:=rfl
theorem QN (a:Pt) (k:Rat):(Cp a k).y=a.y*k:=rfl
theorem Ch (a b c:Pt):AU a b c=(b.x-a.x)*(c.y-a.y)-(b.y-a.y)*(c.x-a.x):=rfl
theorem Vd (a b:Pt):D6 a b=a.x*b.x+a.y*b.y:=rfl
theorem P_ {q:Rat} (h:q<0):q.num.sign = -1:=by
  have h1:¬0<=q.num:=λe=>by have:=Rat.num_nonneg.1 e;grind
  exact Int.sign_eq_neg_one_of_neg Z
theorem NO {q:Rat} (h:0<q):q.num.sign=1:=by
  have h1:0<=q.num:=Rat.num_nonneg.2 (by grind)
  have h2:q.num≠0:=λe=>by have:=Rat.num_eq_zero.1 e;grind
  exact Int.sign_eq_one_of_pos Z
theorem Nc {q:Rat} (h:q=0):q.num.sign=0:=by subst h;rfl
theorem Fg (a b c:Pt):AU b c a=AU a b c:=by simp only [Ch];grind
def ng (q:Rat):Nat:=if q.num.sign<0 then 1 else 0
section
theorem WI (a b:Int):(decide (a.natAbs=b.natAbs)&&((decide (a<0) == decide (b<0))&&true))=decide (a=b):=by
  by_cases e:a=b
  · subst e;simp
  · rw [decide_eq_false e]
    by_cases h1:a<0<;>by_cases h2:b<0<;>simp [h1,h2]<;>omega
theorem Vf (D:Nat) (a b:Int):Ej prog (D+4) 51 (.agg (BH a).toArray) (.agg (BH b).toArray) (decide (a=b)):=by
  rw [<-WI]
  exact Ej.struct underlying51 Tryz.stoodInHeld51 (Ia.agg (us:=Ab a.natAbs) (bs:=Ab b.natAbs) (by decide) isAgg49 sizeOf49 O O (Ns D _ _) (Ia.one (by decide) isAgg4 O O (Ej.bool underlying4) Ia.nil))
theorem Uw (a b:Rat):(decide (a.num=b.num)&&(decide (a.den-1=b.den-1)&&true))=decide (a=b):=by
  by_cases e:a=b
  · subst e;simp
  · rw [decide_eq_false e]
    have h1:=a.den_pos
    have h2:=b.den_pos
    simp only [Bool.and_true,Bool.and_eq_false_iff,decide_eq_false_iff_not]
    apply Classical.byContradiction
    intro h
    refine e (Rat.ext ?_ ?_)
    · exact Classical.byContradiction λk=>h (.inl k)
    · exact Classical.byContradiction λk=>h (.inr Z)
theorem OD (D:Nat) (a b:Rat):Ej prog (D+5) 53 (.agg (AJ a).toArray) (.agg (AJ b).toArray) (decide (a=b)):=by
  rw [<-Uw]
  exact Ej.struct underlying53 Tryz.stoodInHeld53 (Ia.agg (us:=BH a.num) (bs:=BH b.num) (by decide) isAgg51 sizeOf51 O O (Vf D _ _) (Ia.agg (us:=Ab (a.den-1)) (bs:=Ab (b.den-1)) (by decide) isAgg47 sizeOf47 O O (G5 (D+2) _ _) Ia.nil))
instance:DecidableEq Pt:=λa b=>decidable_of_iff (a.x=b.x/\a.y=b.y) ⟨λh=>Pt.ext h.1 h.2,λh=>h▸⟨rfl,rfl⟩⟩
theorem XW (a b:Pt):(decide (a.x=b.x)&&(decide (a.y=b.y)&&true))=decide (a=b):=by
  by_cases e:a=b
  · subst e;simp
  · rw [decide_eq_false e]
    simp only [Bool.and_true,Bool.and_eq_false_iff,decide_eq_false_iff_not]
    apply Classical.byContradiction
    intro h
    refine e (Pt.ext ?_ ?_)
    · exact Classical.byContradiction λk=>h (.inl k)
    · exact Classical.byContradiction λk=>h (.inr k)
theorem UR (D:Nat) (a b:Pt):Ej prog (D+6) 55 (.agg (Am a).toArray) (.agg (Am b).toArray) (decide (a=b)):=by
  rw [<-XW]
  exact Ej.struct underlying55 Tryz.stoodInHeld55 (Ia.agg (us:=AJ a.x) (bs:=AJ b.x) (by decide) isAgg53 sizeOf53 O O (OD D _ _) (Ia.agg (us:=AJ a.y) (bs:=AJ b.y) (by decide) isAgg53 sizeOf53 O O (OD D _ _) Ia.nil))
section
variable {P:Program}
def OZ (P:Program) (D:Nat) (e:TypeId) (c:Nat) (xs ys:List Value) (is:List Nat) (b:Bool):Prop:=∀w,(Go.Op.eqItems D e c xs.toArray ys.toArray is).run P w=.ok b w
theorem OZ.nil {D c:Nat} {e:TypeId} {xs ys:List Value}:OZ P D e c xs ys [] true:=λw=>rfl
theorem OZ.cons {D c i:Nat} {e:TypeId} {is:List Nat} {xs ys us bs:List Value} {r s:Bool} (hg:∀w,(isAgg e).run P w=.ok true w) (hs:∀w,(sizeOf e).run P w=.ok c w)
    (ha:(xs.drop (i*c)).take c=us) (hb:(ys.drop (i*c)).take c=bs) (h:Ej P D e (.agg us.toArray) (.agg bs.toArray) r) (h2:OZ P D e c xs ys is s):OZ P D e c xs ys (i::is) (r&&s):=λw=>by
  have ex:∀l:List Value,l.toArray.extract (i*c) (i*c+c)=((l.drop (i*c)).take c).toArray:=λl=>by simp [List.extract_eq_take_drop]
  have e1:(part e xs.toArray (i*c)).run P w=.ok (.agg us.toArray) w:=by simp [part,hg,hs,ex,ha]
  have e2:(part e ys.toArray (i*c)).run P w=.ok (.agg bs.toArray) w:=by simp [part,hg,hs,ex,hb]
  simp only [Go.Op.eqItems,Sem.run_bind,e1,e2,Result.andThen_ok,h w]
  cases r
  · simp
  · simp [h2 w]
theorem Ej.array {D n c:Nat} {T e:TypeId} {xs ys:List Value} {b:Bool} (hu:P.underlying T=some (.array n e)) (hi:∃i,P.info? e=some i) (hc:P.cellsOf e=c) (h:OZ P D e c xs ys (List.range n) b) :
    Ej P (D+1) T (.agg xs.toArray) (.agg ys.toArray) b:=λw=>by
  obtain ⟨i,hi⟩:=hi
  rw [Go.run_equalIn_array w D xs.toArray ys.toArray hu hi,hc]
  exact h w
end
theorem Sj (D:Nat) {a b:Pt} (h:a=b):Ej prog (D+6) 55 (.agg (Am a).toArray) (.agg (Am b).toArray) true:=by
  have:=UR D a b;rwa [decide_eq_true h] at this
section
variable {P:Program} {n:Nat} {F:List (Nat×Value)} {w0:BM} {L:List As} {x y:Operand} {d:Option Tmp} {t:TypeId} {p:String} {af:Array Edge} {g:Option (Nat×Bool)}
theorem F8 {xs ys:List Value} {tx ty:TypeId} (hx:evF F x=some (.agg xs.toArray)) (hy:evF F y=some (.agg ys.toArray)) (hg:P.eqGuardType P.depth tx=false) (hc:Ej P 10000 tx (.agg xs.toArray) (.agg ys.toArray) true) :
    Ex P n F w0 L ⟨d,.binOp .neq tx x y ty,t,p,af,g⟩ (.bool false):=KZ hx hy hg hc
theorem F4 {xs ys:List Value} {c e:Bool} {tx ty:TypeId} (hx:evF F x=some (.agg xs.toArray)) (hy:evF F y=some (.agg ys.toArray)) (hg:P.eqGuardType P.depth tx=false) (hc:Ej P 10000 tx (.agg xs.toArray) (.agg ys.toArray) c) (he:(!c)=e) :
    Ex P n F w0 L ⟨d,.binOp .neq tx x y ty,t,p,af,g⟩ (.bool e):=he▸KZ hx hy hg hc
end
end
section
structure QD where
  n:Int
  d:Nat
structure PD where
  x:QD
  y:QD
def YA (q:QD):List Value:=[.int .i64 q.n,.int .u32 (q.d:Nat)]
def Z4 (p:PD):List Value:=YA p.x++YA p.y
def QD.ok (q:QD):Prop := -9223372036854775808<=q.n/\q.n<9223372036854775808/\q.d<4294967296
def PD.ok (p:PD):Prop:=p.x.ok/\p.y.ok
def NY (q:QD):Rat:=((q.n:Int):Rat)/(((max q.d 1:Nat):Int):Rat)
def CP (p:PD):Pt:=⟨NY p.x,NY p.y⟩
theorem Ty {q:QD} (h:q.ok):Sz (NY q)<=4:=by
  obtain ⟨h1,h2,h3⟩:=h
  have s1:=Md h1 h2
  have s2:=Md (z:=((max q.d 1:Nat):Int)) Z Z
  have hb:(((max q.d 1:Nat):Int):Rat)≠0:=λe=>by
    have:((max q.d 1:Nat):Int)=0:=by exact_mod_cast e
    omega
  have:=Jz (a:=((q.n:Int):Rat)) hb
  unfold NY
  omega
theorem Sv {p:PD} (h:p.ok):B5 (CP p)<=4:=Mk (Ty h.1) (Ty h.2)
section
variable {P:Program} {w:World} {r:Reach} {base:Nat}
end
section
variable {P:Program} {w:World} {r:Reach} {base:Nat} {t:TypeId} {v:Value} {ts:List TypeId}
end
end
section
def rowsL {α:Type} (enc:α->List Value) (xs:List α):List Value:=xs.flatMap enc
section
variable {α:Type} {enc:α->List Value} {z:Nat}
theorem BO (xs ys:List α):rowsL enc (xs++ys)=rowsL enc xs++rowsL enc ys:=by simp [rowsL]
theorem Aa (h:∀x,(enc x).length=z) (xs:List α):(rowsL enc xs).length=xs.length*z:=by
  induction xs with
  | nil=>simp [rowsL]
  | cons x r ih =>
    have e:rowsL enc (x::r)=enc x++rowsL enc r:=rfl
    rw [e,List.length_append,ih,h,List.length_cons,Nat.add_mul];omega
theorem An (h:∀x,(enc x).length=z) (d:α):∀(xs:List α) (j:Nat),j<xs.length->((rowsL enc xs).drop (j*z)).take z=enc (xs.getD j d)
  | x::r,0,_=>by
    have e:rowsL enc (x::r)=enc x++rowsL enc r:=rfl
    rw [e,Nat.zero_mul,List.drop_zero,List.take_append_of_le_length (by rw [h];exact Nat.le_refl _),List.take_of_length_le (by rw [h];exact Nat.le_refl _)];rfl
  | x::r,j+1,hj=>by
    have e:rowsL enc (x::r)=enc x++rowsL enc r:=rfl
    rw [e,show (j+1)*z=(enc x).length+j*z by rw [h,Nat.add_mul];omega,List.drop_append,List.drop_of_length_le Z,Nat.add_sub_cancel_left,List.nil_append,An h d r j (by simpa using hj)];rfl
end
structure RX (cs:List Value) (n:Nat) where
  p:Option Addr
  c:Nat
  ok:BI p n c
@[reducible] def RX.val {cs:List Value} {n:Nat} (a:RX cs n):Value:=.slice a.p n a.c
@[reducible] def RX.row {cs:List Value} {n:Nat} (a:RX cs n):As:=AY a.p cs
instance {cs:List Value} {n:Nat}:EI (RX cs n):=⟨λa=>.slice a.p n a.c,λa=>[AY a.p cs],λa y hy=>by rcases List.mem_singleton.1 hy with rfl;rfl⟩
theorem Zl {S:Nat->Prop} {W w:World} {L:List As} (hw:Own ⟨W,none⟩ w L) (i:Nat) {p:Option Addr} {T:TypeId} {z n c:Nat} {cs:List Value} (hi:L[i]?=some (rowW p T z n c cs)) (ho:OwnOk p n c) (hl:cs.length=n*z) {v:Value} (hv:v=.slice p n c):BV (RX cs n) S W (.returned v) w:=by
  have hb:=hw.newRow hi
  refine ⟨⟨p,c,ho.row⟩,by rw [hv];rfl,hw.out,λy hy=>?_⟩
  rcases List.mem_singleton.1 hy with rfl
  refine ⟨λd e=>?_,λd e=>.inl (hb d e)⟩
  obtain ⟨_,o,ho2,hp⟩:=hw.2.1 _ (List.mem_of_getElem? hi) d e
  exact ⟨o,ho2,DT ho hl hp⟩
def DA (xs:List Nat):List Value:=xs.map λx=>Value.int .u8 (x:Nat)
theorem SQ {xs:List Nat} {j:Nat} (h:j<xs.length):(DA xs)[j*1]?=some (.int .u8 ((xs.getD j 0:Nat):Int)):=by rw [Nat.mul_one];simp [DA,h]
structure MQ where
  nx:Nat
  ny:Nat
  cs:List Nat
  p:Option Addr
  cap:Nat
  a:Int
  b:Int
  c:Int
  d:Int
  den:Nat
  fst:Nat
  hx:nx<256
  hy:ny<256
  ha:-128<=a/\a<=127
  hb:-128<=b/\b<=127
  hc:-128<=c/\c<=127
  hd:-128<=d/\d<=127
  hden:den<256
  hfst:fst<256
  hcs:∀x∈cs,x<256
  ok:BI p cs.length cap
def Er (m:MQ):List Value:=[.int .u8 m.nx,.int .u8 m.ny,.slice m.p m.cs.length m.cap,.int .i8 m.a,.int .i8 m.b,.int .i8 m.c,.int .i8 m.d,.int .u8 m.den,.int .u8 m.fst]
instance:EI MQ:=⟨λm=>aG (Er m),λm=>[AY m.p (DA m.cs)],λa y hy=>by rcases List.mem_singleton.1 hy with rfl;rfl⟩
theorem MY {a b:Nat} (h:a<256):IntKind.u8.wrap ((a:Int).tdiv (b:Int))=((a/b:Nat):Int):=by
  have:a/b<=a:=Nat.div_le_self _ _
  rw [<-Int.ofNat_tdiv]
  generalize a/b=q at *
  exact NE Z Z
theorem Ws {a b:Nat} (h:a+b<256):IntKind.u8.wrap ((a:Int)+(b:Int))=((a+b:Nat):Int):=by rw [NE Z Z];omega
abbrev P2:=Nat×Nat
def Cn (nx way i:Nat):List (P2×P2×P2) :=
  let x:=2*(i%nx);let y:=2*(i/nx)
  if way<3\/(way=7/\i=0) then [((x,y),(x+2,y),(x+2,y+2)),((x,y),(x+2,y+2),(x,y+2))]
  else if way<5 then [((x,y),(x+2,y),(x,y+2)),((x+2,y),(x+2,y+2),(x,y+2))]
  else if way<7 then [((x,y),(x+2,y),(x+1,y+1)),((x+2,y),(x+2,y+2),(x+1,y+1)),((x+2,y+2),(x,y+2),(x+1,y+1)),((x,y+2),(x,y),(x+1,y+1))] else []
def Bv (p q r:P2):Int:=((q.1:Int)-p.1)*((r.2:Int)-p.2)-((q.2:Int)-p.2)*((r.1:Int)-p.1)
def QX (t:P2×P2×P2):Prop:=0<Bv t.1 t.2.1 t.2.2/\(t.1.1<=6/\t.1.2<=6)/\(t.2.1.1<=6/\t.2.1.2<=6)/\(t.2.2.1<=6/\t.2.2.2<=6)
theorem TC {nx ny way i:Nat} (hx:nx<=3) (hy:ny<=3) (hi:i<nx*ny):∀t∈Cn nx way i,QX t:=by
  have h1:i%nx<=2:=by
    have:nx≠0:=λe=>by subst e;omega
    have:=Nat.mod_lt i (show 0<nx by omega)
    omega
  have h2:i/nx<=2:=by
    have:i/nx<ny:=Nat.div_lt_of_lt_mul (by rwa [Nat.mul_comm] at hi ⊢)
    omega
  intro t ht
  unfold Cn at ht
  generalize i%nx=u at *
  generalize i/nx=v at *
  have key:∀t:P2×P2×P2,t∈[((2*u,2*v),(2*u+2,2*v),(2*u+2,2*v+2)),((2*u,2*v),(2*u+2,2*v+2),(2*u,2*v+2)),((2*u,2*v),(2*u+2,2*v),(2*u,2*v+2)),((2*u+2,2*v),(2*u+2,2*v+2),(2*u,2*v+2)),
      ((2*u,2*v),(2*u+2,2*v),(2*u+1,2*v+1)),((2*u+2,2*v),(2*u+2,2*v+2),(2*u+1,2*v+1)),((2*u+2,2*v+2),(2*u,2*v+2),(2*u+1,2*v+1)),((2*u,2*v+2),(2*u,2*v),(2*u+1,2*v+1))]->QX t:=by
    intro t ht
    simp only [List.mem_cons,List.not_mem_nil,or_false] at ht
    rcases ht with rfl|rfl|rfl|rfl|rfl|rfl|rfl|rfl<;>refine ⟨?_,⟨?_,?_⟩,⟨?_,?_⟩,?_,?_⟩<;>dsimp only [Bv]<;>first|omega|grind
  refine key t ?_
  simp only at ht
  split at ht
  · simp only [List.mem_cons,List.not_mem_nil,or_false] at ht ⊢;rcases ht with h|h<;>simp [h]
  · split at ht
    · simp only [List.mem_cons,List.not_mem_nil,or_false] at ht ⊢;rcases ht with h|h<;>simp [h]
    · split at ht
      · simp only [List.mem_cons,List.not_mem_nil,or_false] at ht ⊢;rcases ht with h|h|h|h<;>simp [h]
      · cases ht
theorem Q9 (nx way i:Nat):(Cn nx way i).length<=4:=by
  unfold Cn;simp only;split
  · simp
  · split
    · simp
    · split<;>simp
theorem N7 (nx way:Nat) (h:way<8):Cn nx way 0≠[]:=by
  unfold Cn;simp only;split
  · simp
  · split
    · simp
    · split
      · simp
      · rename_i h1 h2 h3;simp only [and_true,not_or] at h1;omega
section
variable {nx way i u v:Nat}
theorem WQ (hu:u=i%nx) (hv:v=i/nx) (h:way<3\/(way=7/\i=0)):Cn nx way i=[((2*u,2*v),(2*u+2,2*v),(2*u+2,2*v+2)),((2*u,2*v),(2*u+2,2*v+2),(2*u,2*v+2))]:=by
  subst hu;subst hv;exact if_pos h
theorem WR (hu:u=i%nx) (hv:v=i/nx) (h0:¬(way<3\/(way=7/\i=0))) (h:way<5):Cn nx way i=[((2*u,2*v),(2*u+2,2*v),(2*u,2*v+2)),((2*u+2,2*v),(2*u+2,2*v+2),(2*u,2*v+2))]:=by
  subst hu;subst hv;exact (if_neg h0).trans (if_pos h)
theorem VO (hu:u=i%nx) (hv:v=i/nx) (h0:¬(way<3\/(way=7/\i=0))) (h1:¬way<5) (h:way<7):Cn nx way i=[((2*u,2*v),(2*u+2,2*v),(2*u+1,2*v+1)),((2*u+2,2*v),(2*u+2,2*v+2),(2*u+1,2*v+1)),((2*u+2,2*v+2),(2*u,2*v+2),(2*u+1,2*v+1)),((2*u,2*v+2),(2*u,2*v),(2*u+1,2*v+1))]:=by
  subst hu;subst hv;exact (if_neg h0).trans ((if_neg h1).trans (if_pos h))
theorem Va (h0:¬(way<3\/(way=7/\i=0))) (h1:¬way<5) (h:¬way<7):Cn nx way i=[]:=(if_neg h0).trans ((if_neg h1).trans (if_neg h))
end
def Ay (p:P2):List Value:=[vN p.1,vN p.2]
theorem C4 (p:P2):(Ay p).length=2:=rfl
def BE (t:P2×P2×P2):List Value:=Ay t.1++Ay t.2.1++Ay t.2.2
theorem Ff (t:P2×P2×P2):(BE t).length=6:=rfl
def Af (t:Nat×Nat×Nat):List Value:=[vN t.1,vN t.2.1,vN t.2.2]
theorem Ah (t:Nat×Nat×Nat):(Af t).length=3:=rfl
def CU (z:Int×Int):List Value:=[.int .i64 z.1,.int .i64 z.2]
theorem Fo (z:Int×Int):(CU z).length=2:=rfl
def GK (m:MQ) (i:Nat):Nat:=if 0<m.cs.length then m.cs.getD (i%m.cs.length) 0%8 else 0
theorem QJ (m:MQ) (i:Nat):GK m i<8:=by unfold GK;split<;>omega
def Fq (m:MQ):Nat:=1+m.nx%3
def R_ (m:MQ):Nat:=1+m.ny%3
def EC (m:MQ):Nat->List (P2×P2×P2)
  | 0=>[]
  | i+1=>EC m i++Cn (Fq m) (GK m i) i
def BD (m:MQ):List (P2×P2×P2):=EC m (Fq m*R_ m)
theorem IX (m:MQ):1<=Fq m/\Fq m<=3:=by unfold Fq;omega
theorem Ig (m:MQ):1<=R_ m/\R_ m<=3:=by unfold R_;omega
theorem HU (m:MQ):∀i,(EC m i).length<=4*i
  | 0=>Nat.le_refl _
  | i+1=>by
    have h1:=HU m i
    have h2:=Q9 (Fq m) (GK m i) i
    show (EC m i++Cn (Fq m) (GK m i) i).length<=_
    rw [List.length_append];omega
theorem Lj (m:MQ):∀i,i<=Fq m*R_ m->∀t∈EC m i,QX t
  | 0,_,t,ht=>by cases ht
  | i+1,hi,t,ht=>by
    rcases List.mem_append.1 ht with h|h
    · exact Lj m i Z t h
    · exact TC (IX m).2 (Ig m).2 Z t h
theorem Lt (m:MQ):∀i,1<=i->EC m i≠[]
  | 1,_=>by
    show []++Cn (Fq m) (GK m 0) 0≠[]
    rw [List.nil_append];exact N7 _ _ (QJ m 0)
  | i+2,_=>λe=>Lt m (i+1) Z (List.append_eq_nil_iff.1 e).1
theorem RE (m:MQ):BD m≠[]:=Lt m _ (Nat.mul_pos (IX m).1 (Ig m).1)
theorem G6 (m:MQ):∀t∈BD m,QX t:=Lj m _ (Nat.le_refl _)
theorem I9 (m:MQ):Fq m*R_ m<=9:=Nat.mul_le_mul (IX m).2 (Ig m).2
theorem Hp (m:MQ):(BD m).length<=36:=by
  have h1:=HU m (Fq m*R_ m)
  have h2:=I9 m
  unfold BD;omega
theorem C7 {a b:Int} {k:Int} (ha:-3<=a/\a<=3) (hb:-k<=b/\b<=k):-(3*k)<=a*b/\a*b<=3*k:=by
  obtain ⟨h3,h4⟩:=ha
  have e:a = -3\/a = -2\/a = -1\/a=0\/a=1\/a=2\/a=3:=by omega
  rcases e with rfl|rfl|rfl|rfl|rfl|rfl|rfl<;>omega
def VH (k:Int×Int×Int×Int):List Value:=[.int .i64 k.1,.int .i64 k.2.1,.int .i64 k.2.2.1,.int .i64 k.2.2.2]
structure DB where
  a:Int
  b:Int
  c:Int
  d:Int
def DB.det (k:DB):Int:=k.a*k.d-k.b*k.c
structure DB.Ok (k:DB):Prop where
  a:-3<=k.a/\k.a<=3
  b:-3<=k.b/\k.b<=3
  c:-3<=k.c/\k.c<=3
  d:-3<=k.d/\k.d<=3
  pos:0<k.det
def DB.at_ (k:DB) (p:P2):Int×Int:=(k.a*p.1+k.b*p.2,k.c*p.1+k.d*p.2)
def GP (a b c d:Int):DB :=
  let k:DB:=⟨a.tmod 4,b.tmod 4,c.tmod 4,d.tmod 4⟩
  if k.det=0 then ⟨1,0,0,1⟩ else if k.det<0 then ⟨k.a,k.b,-k.c,-k.d⟩ else k
theorem I_ (a:Int):-3<=a.tmod 4/\a.tmod 4<=3:=by
  have h:=Int.tmod_eq_emod (a:=a) (b:=4)
  have h1:=Int.emod_nonneg a (show (4:Int)≠0 by decide)
  have h2:=Int.emod_lt_of_pos a (show (0:Int)<4 by decide)
  rw [h]
  split<;>omega
theorem M8 {a b c d A B C D:Int} (hA:A=a.tmod 4) (hB:B=b.tmod 4) (hC:C=c.tmod 4) (hD:D=d.tmod 4) (h:A*D-B*C=0):GP a b c d=⟨1,0,0,1⟩:=by
  subst hA;subst hB;subst hC;subst hD;exact if_pos h
theorem M1 {a b c d A B C D:Int} (hA:A=a.tmod 4) (hB:B=b.tmod 4) (hC:C=c.tmod 4) (hD:D=d.tmod 4) (h:A*D-B*C<0):GP a b c d=⟨A,B,-C,-D⟩:=by
  subst hA;subst hB;subst hC;subst hD;exact (if_neg (λe:a.tmod 4*d.tmod 4-b.tmod 4*c.tmod 4=0=>by rw [e] at h;omega)).trans (if_pos h)
theorem NK {a b c d A B C D:Int} (hA:A=a.tmod 4) (hB:B=b.tmod 4) (hC:C=c.tmod 4) (hD:D=d.tmod 4) (h0:¬A*D-B*C=0) (h:¬A*D-B*C<0):GP a b c d=⟨A,B,C,D⟩:=by
  subst hA;subst hB;subst hC;subst hD;exact (if_neg h0).trans (if_neg h)
theorem FK (a b c d:Int):(GP a b c d).Ok:=by
  have ha:=I_ a;have hb:=I_ b;have hc:=I_ c;have hd:=I_ d
  unfold GP
  generalize a.tmod 4=a' at *
  generalize b.tmod 4=b' at *
  generalize c.tmod 4=c' at *
  generalize d.tmod 4=d' at *
  show (if a'*d'-b'*c'=0 then (⟨1,0,0,1⟩:DB) else if a'*d'-b'*c'<0 then ⟨a',b',-c',-d'⟩ else ⟨a',b',c',d'⟩).Ok
  by_cases h0:a'*d'-b'*c'=0
  · rw [if_pos h0];exact ⟨by decide,by decide,by decide,by decide,by decide⟩
  · rw [if_neg h0]
    by_cases h:a'*d'-b'*c'<0
    · rw [if_pos h];exact ⟨ha,hb,by dsimp only;omega,by dsimp only;omega,by show 0<a' * -d'-b' * -c';rw [Int.mul_neg,Int.mul_neg];omega⟩
    · rw [if_neg h];exact ⟨ha,hb,hc,hd,by show 0<a'*d'-b'*c';omega⟩
theorem T7 {k:DB} (h:k.Ok) {p:P2} (hp:p.1<=6/\p.2<=6):(-36<=(k.at_ p).1/\(k.at_ p).1<=36) /\ -36<=(k.at_ p).2/\(k.at_ p).2<=36:=by
  obtain ⟨x,y⟩:=p
  have key:∀(z:Int) (n:Nat),-3<=z/\z<=3->n<=6 -> -18<=z*n/\z*n<=18:=λz n h1 h2=>by
    obtain ⟨h3,h4⟩:=h1
    have e:z = -3\/z = -2\/z = -1\/z=0\/z=1\/z=2\/z=3:=by omega
    rcases e with rfl|rfl|rfl|rfl|rfl|rfl|rfl<;>omega
  have h1:=key k.a x h.a hp.1;have h2:=key k.b y h.b hp.2;have h3:=key k.c x h.c hp.1;have h4:=key k.d y h.d hp.2
  simp only [DB.at_]
  exact ⟨⟨Z,Z⟩,Z,Z⟩
def GM (k:DB) (den:Nat) (p:P2):PD:=⟨⟨(k.at_ p).1,den⟩,⟨(k.at_ p).2,den⟩⟩
theorem Wg {k:DB} (h:k.Ok) (den:Nat) {p q r:P2} (ht:0<Bv p q r):0<AU (CP (GM k den p)) (CP (GM k den q)) (CP (GM k den r)):=by
  have hD:0<(((max den 1:Nat):Int):Rat):=by exact_mod_cast (show (0:Int)<((max den 1:Nat):Int) by omega)
  have e:AU (CP (GM k den p)) (CP (GM k den q)) (CP (GM k den r))=((k.det*Bv p q r:Int):Rat)*((((max den 1:Nat):Int):Rat)⁻¹*(((max den 1:Nat):Int):Rat)⁻¹):=by
    simp only [Ch,CP,GM,NY,DB.at_,DB.det,Bv,Rat.div_def,Rat.intCast_add,Rat.intCast_mul,Rat.intCast_sub]
    generalize (((max den 1:Nat):Int):Rat)⁻¹=D
    grind
  rw [e]
  have h1:0<k.det*Bv p q r:=Int.mul_pos h.pos ht
  have h2:(0:Rat)<((k.det*Bv p q r:Int):Rat):=by exact_mod_cast h1
  have h3:=Rat.inv_pos.2 hD
  exact Rat.mul_pos h2 (Rat.mul_pos h3 h3)
end
end Go.Proofs.YtfbomiejpbchdaaGreat
