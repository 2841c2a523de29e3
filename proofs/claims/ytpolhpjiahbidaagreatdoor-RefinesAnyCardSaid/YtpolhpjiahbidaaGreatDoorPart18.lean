import Derived.ChangeKeysEq
import Derived.Test.YtpolhpjiahbidaaGreatDoorRows
import Derived.Test.YtpolhpjiahbidaaGreatDoorPart05
import Derived.Test.YtpolhpjiahbidaaGreatDoorPart07
import Derived.Test.YtpolhpjiahbidaaGreatDoorPart13
import Derived.Test.YtpolhpjiahbidaaGreatDoorPart17
namespace Go.Proofs.YtpolhpjiahbidaaGreatDoor
open Go Go.RowKit Go.Proofs.Tryz
set_option linter.unusedVariables false
set_option linter.unusedSimpArgs false
section
theorem Vi (a b:Int):(decide (a.natAbs=b.natAbs)&&((decide (a<0) == decide (b<0))&&true))=decide (a=b):=by
  by_cases e:a=b
  · subst e;simp
  · rw [decide_eq_false e]
    by_cases h1:a<0<;>by_cases h2:b<0<;>simp [h1,h2]<;>omega
theorem Vm (D:Nat) (a b:Int):Eo prog (D+4) 75 (.agg (A9 a).toArray) (.agg (A9 b).toArray) (decide (a=b)):=by
  rw [<-Vi]
  exact Eo.struct underlying75 Tryz.stoodInHeld75 (H3.agg (us:=AS a.natAbs) (bs:=AS b.natAbs) (by decide) isAgg73 sizeOf73 O O (Nv D _ _) (H3.one (by decide) isAgg4 O O (Eo.bool underlying4) H3.nil))
theorem SN (a b:Rat):(decide (a.num=b.num)&&(decide (a.den-1=b.den-1)&&true))=decide (a=b):=by
  by_cases e:a=b
  · subst e;simp
  · rw [decide_eq_false e]
    have h1:=a.den_pos
    have h2:=b.den_pos
    simp only [Bool.and_true,Bool.and_eq_false_iff,decide_eq_false_iff_not]
    apply Classical.byContradiction
    intro h
    refine e (Rat.ext ?_ ?_)
    · exact Classical.byContradiction λk=>h (.inl k)
    · exact Classical.byContradiction λk=>h (.inr Z)
theorem NA (D:Nat) (a b:Rat):Eo prog (D+5) 77 (.agg (AZ a).toArray) (.agg (AZ b).toArray) (decide (a=b)):=by
  rw [<-SN]
  exact Eo.struct underlying77 Tryz.stoodInHeld77 (H3.agg (us:=A9 a.num) (bs:=A9 b.num) (by decide) isAgg75 sizeOf75 O O (Vm D _ _) (H3.agg (us:=AS (a.den-1)) (bs:=AS (b.den-1)) (by decide) isAgg71 sizeOf71 O O (Hf (D+2) _ _) H3.nil))
instance:DecidableEq Pt:=λa b=>decidable_of_iff (a.x=b.x/\a.y=b.y) ⟨λh=>Pt.ext h.1 h.2,λh=>h▸⟨rfl,rfl⟩⟩
theorem Xj (a b:Pt):(decide (a.x=b.x)&&(decide (a.y=b.y)&&true))=decide (a=b):=by
  by_cases e:a=b
  · subst e;simp
  · rw [decide_eq_false e]
    simp only [Bool.and_true,Bool.and_eq_false_iff,decide_eq_false_iff_not]
    apply Classical.byContradiction
    intro h
    refine e (Pt.ext ?_ ?_)
    · exact Classical.byContradiction λk=>h (.inl k)
    · exact Classical.byContradiction λk=>h (.inr k)
theorem X6 (D:Nat) (a b:Pt):Eo prog (D+6) 99 (.agg (BC a).toArray) (.agg (BC b).toArray) (decide (a=b)):=by
  rw [<-Xj]
  exact Eo.struct underlying99 Tryz.stoodInHeld99 (H3.agg (us:=AZ a.x) (bs:=AZ b.x) (by decide) isAgg77 sizeOf77 O O (NA D _ _) (H3.agg (us:=AZ a.y) (bs:=AZ b.y) (by decide) isAgg77 sizeOf77 O O (NA D _ _) H3.nil))
section
variable {P:Program}
def P6 (P:Program) (D:Nat) (e:TypeId) (c:Nat) (xs ys:List Value) (is:List Nat) (b:Bool):Prop:=∀w,(Go.Op.eqItems D e c xs.toArray ys.toArray is).run P w=.ok b w
theorem P6.nil {D c:Nat} {e:TypeId} {xs ys:List Value}:P6 P D e c xs ys [] true:=λw=>rfl
theorem Eo.array {D n c:Nat} {T e:TypeId} {xs ys:List Value} {b:Bool} (hu:P.underlying T=some (.array n e)) (hi:∃i,P.info? e=some i) (hc:P.cellsOf e=c) (h:P6 P D e c xs ys (List.range n) b) :
    Eo P (D+1) T (.agg xs.toArray) (.agg ys.toArray) b:=λw=>by
  obtain ⟨i,hi⟩:=hi
  rw [Go.run_equalIn_array w D xs.toArray ys.toArray hu hi,hc]
  exact h w
end
theorem JW (D:Nat) {a b:Pt} (h:a=b):Eo prog (D+6) 99 (.agg (BC a).toArray) (.agg (BC b).toArray) true:=by
  have:=X6 D a b;rwa [decide_eq_true h] at this
section
variable {P:Program} {n:Nat} {F:List (Nat×Value)} {w0:A_} {L:List As} {x y:Operand} {d:Option Tmp} {t:TypeId} {p:String} {af:Array Edge} {g:Option (Nat×Bool)}
theorem Lv {xs ys:List Value} {c e:Bool} {tx ty:TypeId} (hx:evF F x=some (.agg xs.toArray)) (hy:evF F y=some (.agg ys.toArray)) (hg:P.eqGuardType P.depth tx=false) (hc:Eo P 10000 tx (.agg xs.toArray) (.agg ys.toArray) c) (he:(!c)=e) :
    Ex P n F w0 L ⟨d,.binOp .neq tx x y ty,t,p,af,g⟩ (.bool e):=he▸PF hx hy hg hc
end
end
section
structure QD where
  n:Int
  d:Nat
structure PD where
  x:QD
  y:QD
def Hg (q:QD):List Value:=[.int .i64 q.n,.int .u32 (q.d:Nat)]
def Fe (p:PD):List Value:=Hg p.x++Hg p.y
def QD.ok (q:QD):Prop := -9223372036854775808<=q.n/\q.n<9223372036854775808/\q.d<4294967296
def PD.ok (p:PD):Prop:=p.x.ok/\p.y.ok
def In (q:QD):Rat:=((q.n:Int):Rat)/(((max q.d 1:Nat):Int):Rat)
def GE (p:PD):Pt:=⟨In p.x,In p.y⟩
theorem UA {q:QD} (h:q.ok):Sz (In q)<=4:=by
  obtain ⟨h1,h2,h3⟩:=h
  have s1:=IH h1 h2
  have s2:=IH (z:=((max q.d 1:Nat):Int)) Z Z
  have hb:(((max q.d 1:Nat):Int):Rat)≠0:=λe=>by
    have:((max q.d 1:Nat):Int)=0:=by exact_mod_cast e
    omega
  have:=OS (a:=((q.n:Int):Rat)) hb
  unfold In
  omega
theorem Sq {p:PD} (h:p.ok):Ds (GE p)<=4:=MV (UA h.1) (UA h.2)
section
variable {P:Program} {w:World} {r:Reach} {base:Nat}
end
theorem Wd {n:Int} (h:IntKind.i64.has n):-9223372036854775808<=n/\n<9223372036854775808:=by
  simp only [IntKind.has,IntKind.min,IntKind.max,IntKind.bits,IntKind.signed] at h;simp at h;omega
theorem WI {n:Int} (h:IntKind.u32.has n):0<=n/\n<4294967296:=by
  simp only [IntKind.has,IntKind.min,IntKind.max,IntKind.bits,IntKind.signed] at h;simp at h;omega
section
variable {P:Program} {w:World} {r:Reach} {base:Nat} {t:TypeId} {v:Value} {ts:List TypeId}
end
end
section
def rowsL {α:Type} (enc:α->List Value) (xs:List α):List Value:=xs.flatMap enc
section
variable {α:Type} {enc:α->List Value} {z:Nat}
theorem BT (xs ys:List α):rowsL enc (xs++ys)=rowsL enc xs++rowsL enc ys:=by simp [rowsL]
theorem Aa (h:∀x,(enc x).length=z) (xs:List α):(rowsL enc xs).length=xs.length*z:=by
  induction xs with
  | nil=>simp [rowsL]
  | cons x r ih =>
    have e:rowsL enc (x::r)=enc x++rowsL enc r:=rfl
    rw [e,List.length_append,ih,h,List.length_cons,Nat.add_mul];omega
theorem Am (h:∀x,(enc x).length=z) (d:α):∀(xs:List α) (j:Nat),j<xs.length->((rowsL enc xs).drop (j*z)).take z=enc (xs.getD j d)
  | x::r,0,_=>by
    have e:rowsL enc (x::r)=enc x++rowsL enc r:=rfl
    rw [e,Nat.zero_mul,List.drop_zero,List.take_append_of_le_length (by rw [h];exact Nat.le_refl _),List.take_of_length_le (by rw [h];exact Nat.le_refl _)];rfl
  | x::r,j+1,hj=>by
    have e:rowsL enc (x::r)=enc x++rowsL enc r:=rfl
    rw [e,show (j+1)*z=(enc x).length+j*z by rw [h,Nat.add_mul];omega,List.drop_append,List.drop_of_length_le Z,Nat.add_sub_cancel_left,List.nil_append,Am h d r j (by simpa using hj)];rfl
end
structure RX (cs:List Value) (n:Nat) where
  p:Option Addr
  c:Nat
  ok:Av p n c
@[reducible] def RX.val {cs:List Value} {n:Nat} (a:RX cs n):Value:=.slice a.p n a.c
@[reducible] def RX.row {cs:List Value} {n:Nat} (a:RX cs n):As:=AE a.p cs
instance {cs:List Value} {n:Nat}:Cc (RX cs n):=⟨λa=>.slice a.p n a.c,λa=>[AE a.p cs],λa y hy=>by rcases List.mem_singleton.1 hy with rfl;rfl⟩
theorem Zr {S:Nat->Prop} {W w:World} {L:List As} (hw:BD ⟨W,none⟩ w L) (i:Nat) {p:Option Addr} {T:TypeId} {z n c:Nat} {cs:List Value} (hi:L[i]?=some (rowW p T z n c cs)) (ho:OwnOk p n c) (hl:cs.length=n*z) {v:Value} (hv:v=.slice p n c):Af (RX cs n) S W (.returned v) w:=by
  have hb:=hw.newRow hi
  refine ⟨⟨p,c,ho.row⟩,by rw [hv];rfl,hw.out,λy hy=>?_⟩
  rcases List.mem_singleton.1 hy with rfl
  refine ⟨λd e=>?_,λd e=>.inl (hb d e)⟩
  obtain ⟨_,o,ho2,hp⟩:=hw.2.1 _ (List.mem_of_getElem? hi) d e
  exact ⟨o,ho2,B3 ho hl hp⟩
def Zx (xs:List Nat):List Value:=xs.map λx=>Value.int .u8 (x:Nat)
structure MQ where
  nx:Nat
  ny:Nat
  cs:List Nat
  p:Option Addr
  cap:Nat
  a:Int
  b:Int
  c:Int
  d:Int
  den:Nat
  fst:Nat
  hx:nx<256
  hy:ny<256
  ha:-128<=a/\a<=127
  hb:-128<=b/\b<=127
  hc:-128<=c/\c<=127
  hd:-128<=d/\d<=127
  hden:den<256
  hfst:fst<256
  hcs:∀x∈cs,x<256
  ok:Av p cs.length cap
def ax (m:MQ):List Value:=[.int .u8 m.nx,.int .u8 m.ny,.slice m.p m.cs.length m.cap,.int .i8 m.a,.int .i8 m.b,.int .i8 m.c,.int .i8 m.d,.int .u8 m.den,.int .u8 m.fst]
instance:Cc MQ:=⟨λm=>aG (ax m),λm=>[AE m.p (Zx m.cs)],λa y hy=>by rcases List.mem_singleton.1 hy with rfl;rfl⟩
abbrev P2:=Nat×Nat
def Yh (nx way i:Nat):List (P2×P2×P2) :=
  let x:=2*(i%nx);let y:=2*(i/nx)
  if way<3\/(way=7/\i=0) then [((x,y),(x+2,y),(x+2,y+2)),((x,y),(x+2,y+2),(x,y+2))]
  else if way<5 then [((x,y),(x+2,y),(x,y+2)),((x+2,y),(x+2,y+2),(x,y+2))]
  else if way<7 then [((x,y),(x+2,y),(x+1,y+1)),((x+2,y),(x+2,y+2),(x+1,y+1)),((x+2,y+2),(x,y+2),(x+1,y+1)),((x,y+2),(x,y),(x+1,y+1))] else []
section
variable {nx way i u v:Nat}
end
def Ew (p:P2):List Value:=[vN p.1,vN p.2]
def Ad (t:Tq3):List Value:=[vN t.1,vN t.2.1,vN t.2.2]
theorem Az (t:Tq3):(Ad t).length=3:=rfl
def aF (z:Int×Int):List Value:=[.int .i64 z.1,.int .i64 z.2]
def Z5 (m:MQ) (i:Nat):Nat:=if 0<m.cs.length then m.cs.getD (i%m.cs.length) 0%8 else 0
def aY (m:MQ):Nat:=1+m.nx%3
def bF (m:MQ):Nat:=1+m.ny%3
def Uf (m:MQ):Nat->List (P2×P2×P2)
  | 0=>[]
  | i+1=>Uf m i++Yh (aY m) (Z5 m i) i
def Lx (m:MQ):List (P2×P2×P2):=Uf m (aY m*bF m)
structure Oh where
  a:Int
  b:Int
  c:Int
  d:Int
def Oh.det (k:Oh):Int:=k.a*k.d-k.b*k.c
def Oh.at_ (k:Oh) (p:P2):Int×Int:=(k.a*p.1+k.b*p.2,k.c*p.1+k.d*p.2)
def Zt (a b c d:Int):Oh :=
  let k:Oh:=⟨a.tmod 4,b.tmod 4,c.tmod 4,d.tmod 4⟩
  if k.det=0 then ⟨1,0,0,1⟩ else if k.det<0 then ⟨k.a,k.b,-k.c,-k.d⟩ else k
end
section
set_option maxRecDepth 100000
end
section
section
variable {P:Program}
theorem P6.one {D c i:Nat} {e:TypeId} {is:List Nat} {xs ys:List Value} {u v:Value} {r s:Bool} (hg:∀w,(isAgg e).run P w=.ok false w)
    (ha:xs[i*c]?=some u) (hb:ys[i*c]?=some v) (h:Eo P D e u v r) (h2:P6 P D e c xs ys is s):P6 P D e c xs ys (i::is) (r&&s):=λw=>by
  have e1:(part e xs.toArray (i*c)).run P w=.ok u w:=by simp [part,hg,ha]
  have e2:(part e ys.toArray (i*c)).run P w=.ok v w:=by simp [part,hg,hb]
  simp only [Go.Op.eqItems,Sem.run_bind,e1,e2,Result.andThen_ok,h w]
  cases r
  · simp
  · simp [h2 w]
end
theorem NI:∃i,prog.info? 3=some i:=Option.isSome_iff_exists.1 (by kernel_rfl)
theorem Lj:prog.cellsOf 3=1:=by kernel_rfl
def Z9 (c:P2×P2×P2) (k:Nat):P2:=if k=0 then c.1 else if k=1 then c.2.1 else c.2.2
def Zl (m:MQ) (t k:Nat):Nat:=(k+m.fst+t*(m.fst/3))%3
def F0 (m:MQ) (t k:Nat):P2:=Z9 ((Lx m).getD t ((0,0),(0,0),(0,0))) (Zl m t k)
structure YZ (m:MQ) (pl:List P2) (n:Tq3) (t:Nat):Prop where
  a:n.1<pl.length/\pl.getD n.1 (0,0)=F0 m t 0
  b:n.2.1<pl.length/\pl.getD n.2.1 (0,0)=F0 m t 1
  c:n.2.2<pl.length/\pl.getD n.2.2 (0,0)=F0 m t 2
def ML (pl:List P2) (p:P2):List P2×Nat:=if p∈pl then (pl,pl.idxOf p) else (pl++[p],pl.length)
def YT (m:MQ):Nat->List P2×List (Tq3)
  | 0=>([],[])
  | i+1=>((ML (ML (ML (YT m i).1 (F0 m i 0)).1 (F0 m i 1)).1 (F0 m i 2)).1,
      (YT m i).2++[((ML (YT m i).1 (F0 m i 0)).2,(ML (ML (YT m i).1 (F0 m i 0)).1 (F0 m i 1)).2,(ML (ML (ML (YT m i).1 (F0 m i 0)).1 (F0 m i 1)).1 (F0 m i 2)).2)])
structure Xz (m:MQ) (i:Nat) (pl:List P2) (ts:List (Tq3)):Prop where
  tl:ts.length=i
  pll:pl.length<=3*i
  at_:∀j,j<i->YZ m pl (ts.getD j (0,0,0)) j
  KE:∀p∈pl,p.1<=6/\p.2<=6
  used:∀a,a<pl.length->∃j,j<i/\((ts.getD j (0,0,0)).1=a\/(ts.getD j (0,0,0)).2.1=a\/(ts.getD j (0,0,0)).2.2=a)
  fn:(pl,ts)=YT m i
def aK (pl:List P2):Prop:=∀a b,a<pl.length->b<pl.length->pl.getD a (0,0)=pl.getD b (0,0)->a=b
def mapM (m:MQ):Oh:=Zt m.a m.b m.c m.d
def NE (t:Tq3) (x:Nat):Bool:=decide (t.1=x)||decide (t.2.1=x)||decide (t.2.2=x)
def aI (m:MQ) (a b:Nat):Tq3:=(a,b,(a+3*b+m.fst)%5)
def ZM (ts:List (Tq3)) (a b:Nat):Nat->Nat
  | 0=>0
  | i+1=>ZM ts a b i+(if NE (ts.getD i (0,0,0)) a=true/\NE (ts.getD i (0,0,0)) b=true then 1 else 0)
def ZE (m:MQ) (ts:List (Tq3)) (a:Nat):Nat->List (Tq3)
  | 0=>[]
  | j+1=>ZE m ts a j++(if ZM ts a (a+1+j) ts.length=1 then [aI m a (a+1+j)] else [])
def O8 (m:MQ) (ts:List (Tq3)) (N:Nat):Nat->List (Tq3)
  | 0=>[]
  | a+1=>O8 m ts N a++ZE m ts a (N-(a+1))
structure WM (m:MQ) where
  pl:List P2
  ts:List (Tq3)
  ss:List (Tq3)
  inv:Xz m (Lx m).length pl ts
  dst:aK pl
  sl:ss.length<=108*108
  sd:ss=O8 m ts pl.length pl.length
  a:RX (rowsL aF (pl.map λp=>(mapM m).at_ p)) pl.length
  b:RX (rowsL Ad ts) ts.length
  c:RX (rowsL Ad ss) ss.length
def aU {m:MQ} (x:WM m):List Value:=[x.a.val,x.b.val,x.c.val]
theorem Yv {m:MQ} {x:WM m} {y:As} (hy:y∈[x.a.row,x.b.row,x.c.row]):y.ro=true:=by
  simp only [List.mem_cons,List.not_mem_nil,or_false] at hy
  rcases hy with rfl|rfl|rfl<;>rfl
instance {m:MQ}:Cc (WM m):=⟨λx=>aG (aU x),λx=>[x.a.row,x.b.row,x.c.row],λx y hy=>Yv hy⟩
theorem Cs {S:Nat->Prop} {W w:World} {L:List As} (hw:BD ⟨W,none⟩ w L) (i:Nat) {p:Option Addr} {T:TypeId} {z n c:Nat} {cs:List Value} (hi:L[i]?=some (rowW p T z n c cs)) (ho:OwnOk p n c) (hl:cs.length=n*z):Holds w (AE p cs)/\∀b,(AE p cs).foot=some b->W.heap.size<=b\/S b:=by
  have hb:=hw.newRow hi
  refine ⟨λd e=>?_,λd e=>.inl (hb d e)⟩
  obtain ⟨_,o,ho2,hp⟩:=hw.2.1 _ (List.mem_of_getElem? hi) d e
  exact ⟨o,ho2,B3 ho hl hp⟩
section
variable {P:Program} {ops:Array Oper} {rest:List Oper} {Q:Exit->Act->World->Prop} {n d:Nat} {F:List (Nat×Value)} {w0:A_} {S:Nat->Prop} {L:List As} {t:TypeId} {p:String} {af:Array Edge} {y:Operand} {f:FuncId} {xs:List Operand} {args:List Value} {ts:Array TypeId}
theorem cX {cs:List Value} {k:Nat} (hc:∀args w,(callFunc f args).run P w=.ok (.enter f args) w) (h:∀w,BD w0 w L->Calls P f args.toArray w (Af (RX cs k) (SL w0 S L) w))
    (hf:evF F y=some (.func (.func f) #[] #[])) (hargs:xs.map (evF F)=args.map some) (hd:Nat.ble (d+1) n=true) (next:∀a:RX cs k,At w0 S a->OkL P ops rest Q n ((d,.slice a.p k a.c)::F) w0 (AE a.p cs::L)) :
    OkL P ops (⟨some d,.call { callee:=.value y,args:=xs.toArray,argTypes:=ts },t,p,af,none⟩::rest) Q n F w0 L:=OkL.callR hc h hf hargs hd next
end
def Y2 (p:Option Addr) (T:TypeId) (z n c:Nat) (cs:List Value):As:=⟨p.map (·.block),(rowW p T z n c cs).P,true⟩
structure ag (m:MQ) where
  x:WM m
  ob:OwnOk x.b.p x.ts.length x.b.c
def aQ {m:MQ} (y:ag m):As:=Y2 y.x.b.p 105 3 y.x.ts.length y.x.b.c (rowsL Ad y.x.ts)
instance {m:MQ}:Cc (ag m):=⟨λy=>aG (aU y.x),λy=>[y.x.a.row,y.x.b.row,y.x.c.row,aQ y],λx y hy=>by
  simp only [List.mem_cons,List.not_mem_nil,or_false] at hy
  rcases hy with rfl|rfl|rfl|rfl<;>rfl⟩
end
section
set_option maxRecDepth 100000
theorem Kl:ElemT prog 23 105 3 24:=⟨underlying23,DM (by kernel_rfl)⟩
end

theorem BW {α:Type} {enc:α->List Value} {z:Nat} (h:∀x,(enc x).length=z) (d:α) (xs:List α) (j r:Nat) (hj:j<xs.length) (hr:r<z) {v:Value} (hv:(enc (xs.getD j d))[r]?=some v):(rowsL enc xs)[j*z+r]?=some v:=by
  have h1:=Am h d xs j hj
  rw [<-h1,List.getElem?_take_of_lt hr,List.getElem?_drop] at hv
  exact hv
theorem Bk (p:Pt):(BC p).length=10:=rfl
structure aE (ps:List Pt) (t:Tq3):Prop where
  a:t.1<ps.length
  b:t.2.1<ps.length
  c:t.2.2<ps.length
  ab:t.1≠t.2.1
  bc:t.2.1≠t.2.2
  ca:t.2.2≠t.1
  pos:0<Ig (ps.getD t.1 ⟨0,0⟩) (ps.getD t.2.1 ⟨0,0⟩) (ps.getD t.2.2 ⟨0,0⟩)
def Zq (ps:List Pt) (t:Tq3) (q:Pt):Prop:=0<Ig q (ps.getD t.2.1 ⟨0,0⟩) (ps.getD t.2.2 ⟨0,0⟩)/\0<Ig (ps.getD t.1 ⟨0,0⟩) q (ps.getD t.2.2 ⟨0,0⟩)/\0<Ig (ps.getD t.1 ⟨0,0⟩) (ps.getD t.2.1 ⟨0,0⟩) q
def aD (ps:List Pt) (t:Tq3) (q:Pt):Prop:=0<=Ig q (ps.getD t.2.1 ⟨0,0⟩) (ps.getD t.2.2 ⟨0,0⟩)/\0<=Ig (ps.getD t.1 ⟨0,0⟩) q (ps.getD t.2.2 ⟨0,0⟩)/\0<=Ig (ps.getD t.1 ⟨0,0⟩) (ps.getD t.2.1 ⟨0,0⟩) q
def Y5 (m:MQ):Nat:=1+m.den%6
def ar (m:MQ) (z:Int×Int):PD:=⟨⟨z.1,Y5 m⟩,⟨z.2,Y5 m⟩⟩
def aV (m:MQ) (zs:List (Int×Int)) (i:Nat):List Pt:=(zs.take i).map λz=>GE (ar m z)
def ac (m:MQ) (pl:List P2):List (Int×Int):=pl.map λp=>(mapM m).at_ p
structure Yf (ps:List Pt) (ts:List (Tq3)):Prop where
  ne:ts≠[]
  tl:ts.length<=36
  pl:ps.length<=108
  sz:∀i,Ds (ps.getD i ⟨0,0⟩)<=4
  tri:∀j,j<ts.length->aE ps (ts.getD j (0,0,0))
  apart:∀i j,i<ts.length->j<ts.length->i≠j->∀q,Zq ps (ts.getD i (0,0,0)) q->¬aD ps (ts.getD j (0,0,0)) q
  lat:∃(m:MQ) (pl:List P2),Xz m (Lx m).length pl ts/\aK pl/\ps=aV m (ac m pl) pl.length
structure MG where
  ps:List Pt
  ts:List (Tq3)
  ss:List (Tq3)
  good:Yf ps ts
  sl:ss.length<=108*108
  sd:∃m:MQ,ss=O8 m ts ps.length ps.length
  a:RX (rowsL BC ps) ps.length
  b:RX (rowsL Ad ts) ts.length
  c:RX (rowsL Ad ss) ss.length
def Zv (x:MG):List Value:=[x.a.val,x.b.val,x.c.val]
theorem XD {x:MG} {y:As} (hy:y∈[x.a.row,x.b.row,x.c.row]):y.ro=true:=by
  simp only [List.mem_cons,List.not_mem_nil,or_false] at hy
  rcases hy with rfl|rfl|rfl<;>rfl
instance:Cc MG:=⟨λx=>aG (Zv x),λx=>[x.a.row,x.b.row,x.c.row],λx y hy=>XD hy⟩
def aO (m:MQ) (ps:List Pt) (ts:List (Tq3)):Prop:=∃pl:List P2,Xz m (Lx m).length pl ts/\aK pl/\ps=aV m (ac m pl) pl.length
structure MF (m:MQ) where
  g:MG
  lat:aO m g.ps g.ts
instance {m:MQ}:Cc (MF m):=⟨λx=>aG (Zv x.g),λx=>[x.g.a.row,x.g.b.row,x.g.c.row],λx y hy=>XD hy⟩
structure aW (m:MQ) where
  f:MF m
  ob:OwnOk f.g.b.p f.g.ts.length f.g.b.c
  da:∀x,f.g.b.p.map (·.block)=some x->f.g.a.p.map (·.block)≠some x
  dc:∀x,f.g.b.p.map (·.block)=some x->f.g.c.p.map (·.block)≠some x
def Zk {m:MQ} (y:aW m):As:=Y2 y.f.g.b.p 105 3 y.f.g.ts.length y.f.g.b.c (rowsL Ad y.f.g.ts)
instance {m:MQ}:Cc (aW m):=⟨λy=>aG (Zv y.f.g),λy=>[y.f.g.a.row,y.f.g.b.row,y.f.g.c.row,Zk y],λx y hy=>by
  simp only [List.mem_cons,List.not_mem_nil,or_false] at hy
  rcases hy with rfl|rfl|rfl|rfl<;>rfl⟩
section
set_option maxRecDepth 100000
theorem TU (q:QD) (h:q.ok) (w:World)  :Calls prog 105 #[(aG (Hg q))] w (Ah w (aG (AZ (In q)))):=by
 obtain ⟨h1,h2,h3⟩:=h
 refine Ab (args:=[(aG (Hg q))]) func105 O O (AI O) (OkC.subF (sL [0] O) (q4 (Be (cs:=Hg q) O λb1=>al IV O λb2=>q3 (sL [1,2] O) (AH (v:=(pP b1 0)) (AA O underlying94 O sizeOf2 O) O (Au 1 (vI q.n) Zj O (AH (v:=(pP b1 1)) (AA O underlying94 O sizeOf92 O) O (Au 1 (vK .u32 q.d) YM O (AH (EQ (c:=((max q.d 1:Nat):Int)) O O (by split<;>omega)) O (AH (Aw (c:=((max q.d 1:Nat):Int)) O underlying92 underlying2 (Ec Z)) O ?_)))))))))
 refine ck' call93 (TK (q.n:Int) ((max q.d 1:Nat):Int) Z Z Z Z Z) O (AM O (AH (AV (v:=(aG (AZ (((q.n:Int):Rat)/(((max q.d 1:Nat):Int):Rat))))) O O) O (AH (AV (v:=(vI 0)) O O) O (al IV O λb3=>Ax O sizeOf77 O (asg' O (q3 (sL [2,3] O) (BH 0 Cq O (EG O sizeOf77 O (OkL.nil (OkQ.subF (sL [2,3] O) ?_))))))))))
 exact OkQ.then_ (OkC.ret (ret_one O (Ak (i:=1) (cs:=AZ (((q.n:Int):Rat)/(((max q.d 1:Nat):Int):Rat))) O O isAgg77 sizeOf77 O) (λw hw=>⟨rfl,hw.out⟩)))
theorem EV (x0:Rat) (x1:Rat):Instr.fill ([(0,5),(5,5)].toArray[·]?) (BC (⟨0,0⟩:Pt)).toArray [(0,.agg (AZ x0).toArray),(1,.agg (AZ x1).toArray)]=some (AZ x0++AZ x1).toArray:=by kernel_rfl
theorem XY (p:PD) (h:p.ok) (w:World)  :Calls prog 37 #[(aG (Fe p))] w (Ah w (aG (BC (GE p)))):=by
 have h1:=h.1
 have h2:=h.2
 refine Ab (args:=[(aG (Fe p))]) func37 O O (AI O) (OkC.subF (sL [0] O) (q4 (Be (cs:=Fe p) O λb1=>al Oi O λb2=>q6 (sL [1,2] O) (Cd [(0,true),(1,true),(3,true),(4,true),(2,false),(5,false),(6,true),(7,false)] (sl sr) (Al (v:=(pP b1 0)) O (AA O underlying96 O sizeOf94 O) (Ff 0 (Hg p.x) Qt O (Al (v:=(pP b1 2)) O (AA O underlying96 O sizeOf94 O) (Ff 0 (Hg p.y) Qt O (OkE.imp O ?_)))))))))
 refine ck' call105 (TU p.x (by assumption)) O (OkE.back (sl sr) (OkE.imp O (ck' call105 (TU p.y (by assumption)) O (OkE.back (sl sr) (Al (v:=(aG (AZ (In p.x)++AZ (In p.y)))) O (AQ (zs:=BC (⟨0,0⟩:Pt)) (vs:=AZ (In p.x)++AZ (In p.y)) (pv:=[(0,(aG (AZ (In p.x)))),(1,(aG (AZ (In p.y))))]) (places:=[(0,5),(5,5)]) zeroValue99 underlying99 (λw=>by simp [sizeOf77]) O (EV (In p.x) (In p.y))) (OkE.imp O (Ax O sizeOf99 O (OkE.back (sl sr) (OkE.nil (OkQ.subF (sL [2] O) (OkQ.then_ ?_)))))))))))
 exact OkC.ret (ret_one O (Ak (i:=0) (cs:=AZ (In p.x)++AZ (In p.y)) O O isAgg99 sizeOf99 O) (λw hw=>⟨rfl,hw.out⟩))
end
section
set_option maxRecDepth 100000
theorem ZJ:ElemT prog 24 110 3 24:=⟨underlying24,DM (by kernel_rfl)⟩
theorem VG:ElemT prog 28 99 10 112:=⟨underlying28,DM (by kernel_rfl)⟩
end
section
structure MX (ps:List Pt) (ts ss:List (Tq3)) where
  a:RX (rowsL BC ps) ps.length
  b:RX (rowsL Ad ts) ts.length
  c:RX (rowsL Ad ss) ss.length
def FT {ps:List Pt} {ts ss:List (Tq3)} (x:MX ps ts ss):List Value:=[x.a.val,x.b.val,x.c.val]
theorem Y7 {ps:List Pt} {ts ss:List (Tq3)} {x:MX ps ts ss} {y:As} (hy:y∈[x.a.row,x.b.row,x.c.row]):y.ro=true:=by
  simp only [List.mem_cons,List.not_mem_nil,or_false] at hy
  rcases hy with rfl|rfl|rfl<;>rfl
instance {ps:List Pt} {ts ss:List (Tq3)}:Cc (MX ps ts ss):=⟨λx=>aG (FT x),λx=>[x.a.row,x.b.row,x.c.row],λx y hy=>Y7 hy⟩
structure BX (cs:List Value) where
  b:Nat
instance {cs:List Value}:Cc (BX cs):=⟨λx=>pP x.b 0,λx=>[AE (some ⟨x.b,0,none⟩) cs],λx y hy=>by rcases List.mem_singleton.1 hy with rfl;rfl⟩
theorem Gk {b:Nat} {T:TypeId} {cs:List Value} {o:Obj} (h:(AU b T cs).P o):(AE (some ⟨b,0,none⟩) cs).P o:=⟨cs.toArray,T,(0,0),h,by show (cs.toArray.toList.drop 0).take cs.length=cs;simp⟩
section
variable {S:Nat->Prop} {w W:World} {w0:A_} {L:List As} {ps:List Pt} {ts ss:List (Tq3)} {cs:List Value}
theorem aS {x:MX ps ts ss} (h:Ro S w x):Ro S w x.a:=λy hy=>by rcases List.mem_singleton.1 hy with rfl;exact h _ List.mem_cons_self
theorem aa (hw:BD w0 w L) (i:Nat) {x:BX cs} (hi:L[i]?=some (AE (some ⟨x.b,0,none⟩) cs)) (hb:w0.w.heap.size<=x.b):Ro (SL w0 S L) w x:=λy hy=>by
  rcases List.mem_singleton.1 hy with rfl
  exact ⟨hw.holds hi,λc e=>⟨⟨_,List.mem_of_getElem? hi,rfl,e⟩,.inl (by injection e with e;rw [<-e];exact hb)⟩⟩
end
section
variable {P:Program} {ops:Array Oper} {rest:List Oper} {Q:Exit->Act->World->Prop} {n d:Nat} {F:List (Nat×Value)} {w0:A_} {S:Nat->Prop} {L:List As} {t:TypeId} {p:String} {af:Array Edge} {y:Operand} {f:FuncId} {xs:List Operand} {args:List Value} {ts:Array TypeId}
theorem OkL.frzX (i:Nat) {b:Nat} {T:TypeId} {cs:List Value} (hi:L[i]?=some (AU b T cs)) (hex:w0.ex=none) (next:w0.w.heap.size<=b->OkL P ops rest Q n F w0 (L.set i (AE (some ⟨b,0,none⟩) cs))):OkL P ops rest Q n F w0 L:=λa w ha hw=>by
  refine next ?_ a w ha (hw.freeze hi O (λo hp=>Gk hp) (λe=>by cases e))
  rcases (hw.2.1 _ (List.mem_of_getElem? hi) b rfl).1 with h1|h1|h1
  · cases h1
  · exact h1
  · rw [hex] at h1;cases h1
end
def La (n:Nat) (t:Tq3):Bool:=decide (t.1<n)&&decide (t.2.1<n)&&decide (t.2.2<n)&&!decide (t.1=t.2.1)&&!decide (t.2.1=t.2.2)&&!decide (t.2.2=t.1)
def Bn (n:Nat) (ts:List (Tq3)):Bool:=ts.all (La n)
theorem Dh {n:Nat} {ts:List (Tq3)} (h:Bn n ts=true) {j:Nat} (hj:j<ts.length):La n (ts.getD j (0,0,0))=true:=by
  rw [List.getD,List.getElem?_eq_getElem hj]
  exact List.all_eq_true.1 h _ (List.getElem_mem hj)
theorem EH {n:Nat} {t:Tq3} (h:La n t=true):t.1<n/\t.2.1<n/\t.2.2<n:=by
  simp [La] at h;omega
def idxB (n:Nat):List (Tq3)->Nat->Int
  | [],_ => -1
  | t::r,i=>if La n t=true then idxB n r (i+1) else (i:Int)
theorem D8 {α:Type} {ts:List α} {d:α} {j:Nat} (hj:j<ts.length):ts.drop j=ts.getD j d::ts.drop (j+1):=by
  rw [List.drop_eq_getElem_cons hj,List.getD,List.getElem?_eq_getElem hj];rfl
theorem R5 {n:Nat} {ts:List (Tq3)} {j:Nat} (hj:j<ts.length) (h:La n (ts.getD j (0,0,0))=true):idxB n (ts.drop j) j=idxB n (ts.drop (j+1)) (j+1):=by
  rw [D8 (d:=(0,0,0)) hj];exact if_pos h
theorem Sd {n:Nat} {ts:List (Tq3)} {j:Nat} (hj:j<ts.length) (h:La n (ts.getD j (0,0,0))=false):idxB n (ts.drop j) j=(j:Int):=by
  rw [D8 (d:=(0,0,0)) hj];exact if_neg (by rw [h];exact Bool.false_ne_true)
theorem UT {n:Nat} {ts:List (Tq3)} {j:Nat} (hj:¬j<ts.length):idxB n (ts.drop j) j = -1:=by
  rw [List.drop_of_length_le Z];rfl
theorem LR (n:Nat):∀(ts:List (Tq3)) (i:Nat),decide (0<=idxB n ts i)=!Bn n ts
  | [],i=>rfl
  | t::r,i=>by
    unfold idxB Bn
    rw [List.all_cons]
    cases h:La n t with
    | true=>rw [if_pos rfl,Bool.true_and];exact LR n r (i+1)
    | false=>rw [if_neg Bool.false_ne_true,Bool.false_and];simp
def OJ (ps:List Pt) (k:Nat):Pt:=ps.getD k ⟨0,0⟩
end
section
structure RM (N:Nat) (ts ss:List (Tq3)) where
  cs:List Value
  ds:List Value
  a:RX cs N
  b:RX (rowsL Ad ts) ts.length
  c:RX ds ss.length
def FE {N:Nat} {ts ss:List (Tq3)} (x:RM N ts ss):List Value:=[x.a.val,x.b.val,x.c.val]
theorem ZD {N:Nat} {ts ss:List (Tq3)} {x:RM N ts ss} {y:As} (hy:y∈[x.a.row,x.b.row,x.c.row]):y.ro=true:=by
  simp only [List.mem_cons,List.not_mem_nil,or_false] at hy
  rcases hy with rfl|rfl|rfl<;>rfl
instance {N:Nat} {ts ss:List (Tq3)}:Cc (RM N ts ss):=⟨λx=>aG (FE x),λx=>[x.a.row,x.b.row,x.c.row],λx y hy=>ZD hy⟩
section
variable {S:Nat->Prop} {w:World} {N:Nat} {ts ss:List (Tq3)}
theorem Yt {x:RM N ts ss} (h:Ro S w x):Ro S w x.b:=λy hy=>by rcases List.mem_singleton.1 hy with rfl;exact h _ (List.mem_cons_of_mem _ List.mem_cons_self)
end
def MX.rm {ps:List Pt} {ts ss:List (Tq3)} (x:MX ps ts ss):RM ps.length ts ss:=⟨rowsL BC ps,rowsL Ad ss,x.a,x.b,x.c⟩
theorem Ya {S:Nat->Prop} {w:World} {ps:List Pt} {ts ss:List (Tq3)} {x:MX ps ts ss} (h:Ro S w x):Ro S w x.rm:=λy hy=>h y hy
structure RU (N M K:Nat) where
  cs:List Value
  es:List Value
  ds:List Value
  a:RX cs N
  b:RX es M
  c:RX ds K
def Kf {N M K:Nat} (x:RU N M K):List Value:=[x.a.val,x.b.val,x.c.val]
theorem ZN {N M K:Nat} {x:RU N M K} {y:As} (hy:y∈[x.a.row,x.b.row,x.c.row]):y.ro=true:=by
  simp only [List.mem_cons,List.not_mem_nil,or_false] at hy
  rcases hy with rfl|rfl|rfl<;>rfl
instance {N M K:Nat}:Cc (RU N M K):=⟨λx=>aG (Kf x),λx=>[x.a.row,x.b.row,x.c.row],λx y hy=>ZN hy⟩
end
end Go.Proofs.YtpolhpjiahbidaaGreatDoor
