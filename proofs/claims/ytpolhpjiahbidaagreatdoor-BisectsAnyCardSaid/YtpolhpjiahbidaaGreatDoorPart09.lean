import Derived.ChangeKeysEq
import Derived.Test.YtpolhpjiahbidaaGreatDoorRows
import Derived.Test.YtpolhpjiahbidaaGreatDoorPart08
namespace Go.Proofs.YtpolhpjiahbidaaGreatDoor
open Go Go.RowKit Go.Proofs.Tryz
open Go.Value renaming slice→qw,bool→qa
set_option linter.unusedVariables false
set_option linter.unusedSimpArgs false
section
set_option maxRecDepth 100000
theorem Uc (x y:Int) (h1:-9223372036854775808<=x) (h2:x<9223372036854775808) (h3:-9223372036854775808<=y) (h4:y<9223372036854775808) (hy:y≠0) (w:World)  :Calls prog 93 #[(vI x),(vI y)] w (Ak w (Value.tuple #[(aG (AY (((x:Int):Rat)/((y:Int):Rat)))),(vI 0)])):=by
 have hb:((y:Int):Rat)≠0:=λe=>hy (by exact_mod_cast e)
 have s1:=JT h1 h2
 have s2:=JT h3 h4
 refine Ab (args:=[(vI x),(vI y)]) func93 O O (Av O) (zN (sL [0,1] O) (q4 (al Gt O λb1=>asg' O (oNl' (q2 (AM O (ck' call40 (Kc x Z Z) O (AM O (ck' call40 (Kc y Z Z) O ?_)))))))))
 have hz1:=Rn (a:=((x:Int):Rat)) (b:=((y:Int):Rat)) (by assumption)
 exact ck' call156 (ZM ((x:Int):Rat) ((y:Int):Rat) Z (by assumption)) O (AG (AZ (v:=(aG (AY (((x:Int):Rat)/((y:Int):Rat))))) O O) O (AG (AZ (v:=(vI 0)) O O) O (Ax O sizeOf77 O (asg' O (oNl' (zB (sL [4,5] O) (zA (zF (Dq O (Ai (i:=0) (cs:=AY (((x:Int):Rat)/((y:Int):Rat))) O O isAgg77 sizeOf77 O) (rd_tmp (v:=(vI 0)) O) (λw hw=>⟨rfl,hw.out⟩))))))))))
theorem Wz  (w:World)  :Calls prog 113 #[] w (Ak w (aG (AY ((1:Rat)/2)))):=by
 refine Ab (args:=[]) func113 O O (Av O) (zN sN (q4 (al Gt O λb1=>oNl' (q2 (ck' call93 (Uc (1:Int) (2:Int) Z Z Z Z Z) O (AM O (AG (AZ (v:=(aG (AY (((1:Int):Rat)/((2:Int):Rat))))) O O) O (zC (k:=5) (u:=(aG (AY ((1:Rat)/2)))) O (by rw [X1]) (AG (AZ (v:=(vI 0)) O O) O (al Gt O λb2=>?_))))))))))
 exact Ax O sizeOf77 O (asg' O (q3 (sL [0,1] O) (BD 0 Ce O (EK O sizeOf77 O (oNl' (zB (sL [0,1] O) (zA (zF (ret_one O (Ai (i:=1) (cs:=AY ((1:Rat)/2)) O O isAgg77 sizeOf77 O) (λw hw=>⟨rfl,hw.out⟩))))))))))
theorem Yi (a b:Pt) (hs:DU a+DU b<=17179869184) (w:World)  :Calls prog 54 #[(aG (BB a)),(aG (BB b))] w (Ak w (aG (BB (CE (a+b) (1/2))))):=by
 have sh:=XY
 refine Ab (args:=[(aG (BB a)),(aG (BB b))]) func54 O O (Av O) (zN (sL [0,1] O) (q4 (Bb (cs:=BB a) O λb1=>Bb (cs:=BB b) O λb2=>al MY O λb3=>q3 (sL [2,3,4] O) (BD 2 HI O (BD 1 HI O ?_)))))
 have hz1:=Kg a b
 refine ck' call36 (Xz a b Z) O (ck' call113 (Wz) O ?_)
 have hz2:=He (a+b) ((1:Rat)/2)
 exact ck' call39 (UN (a+b) ((1:Rat)/2) Z) O (Ax O sizeOf99 O (oNl' (zB (sL [4] O) (zA (zF (ret_one O (Ai (i:=0) (cs:=BB (CE (a+b) ((1:Rat)/2))) O O isAgg99 sizeOf99 O) (λw hw=>⟨rfl,hw.out⟩)))))))
end
section
set_option maxRecDepth 100000
end
def zq (q:Rat):Nat:=if q.num.sign=0 then 1 else 0
section
set_option maxRecDepth 100000
end
section
set_option maxRecDepth 100000
end
section
set_option maxRecDepth 100000
end
section
set_option maxRecDepth 100000
end
section
section
variable {P:Program} {n:Nat} {F:List (Nat×Value)} {w0:BC} {L:List As} {v:Value} {x:Operand} {d:Option Tmp} {t:TypeId} {p:String} {af:Array Edge} {g:Option (Nat×Bool)}
end
end
section
set_option maxRecDepth 100000
end
section
set_option maxRecDepth 100000
end
section
set_option maxRecDepth 100000
end
section
set_option maxRecDepth 100000
end
section
set_option maxRecDepth 100000
end
section
set_option maxRecDepth 100000
end
section
section
variable {P:Program} {n:Nat} {F:List (Nat×Value)} {w0:BC} {L:List As} {v:Value} {x lo hi:Operand} {d:Option Tmp} {t:TypeId} {p:String} {af:Array Edge} {g:Option (Nat×Bool)}
end
end
section
set_option maxRecDepth 100000
end
def ng (q:Rat):Nat:=if q.num.sign<0 then 1 else 0
section
instance:DecidableEq Pt:=λa b=>decidable_of_iff (a.x=b.x/\a.y=b.y) ⟨λh=>Pt.ext h.1 h.2,λh=>h▸⟨rfl,rfl⟩⟩
section
variable {P:Program}
def S2 (P:Program) (D:Nat) (e:TypeId) (c:Nat) (xs ys:List Value) (is:List Nat) (b:Bool):Prop:=∀w,(Go.Op.eqItems D e c xs.toArray ys.toArray is).run P w=.ok b w
theorem S2.nil {D c:Nat} {e:TypeId} {xs ys:List Value}:S2 P D e c xs ys [] true:=λw=>rfl
theorem H0.array {D n c:Nat} {T e:TypeId} {xs ys:List Value} {b:Bool} (hu:P.underlying T=some (.array n e)) (hi:∃i,P.info? e=some i) (hc:P.cellsOf e=c) (h:S2 P D e c xs ys (List.range n) b) :
    H0 P (D+1) T (.agg xs.toArray) (.agg ys.toArray) b:=λw=>by
  obtain ⟨i,hi⟩:=hi
  rw [Go.run_equalIn_array w D xs.toArray ys.toArray hu hi,hc]
  exact h w
end
section
variable {P:Program} {n:Nat} {F:List (Nat×Value)} {w0:BC} {L:List As} {x y:Operand} {d:Option Tmp} {t:TypeId} {p:String} {af:Array Edge} {g:Option (Nat×Bool)}
theorem OB {xs ys:List Value} {c e:Bool} {tx ty:TypeId} (hx:evF F x=some (.agg xs.toArray)) (hy:evF F y=some (.agg ys.toArray)) (hg:P.eqGuardType P.depth tx=false) (hc:H0 P 10000 tx (.agg xs.toArray) (.agg ys.toArray) c) (he:(!c)=e) :
    Ex P n F w0 L ⟨d,.binOp .neq tx x y ty,t,p,af,g⟩ (.bool e):=he▸Q8 hx hy hg hc
end
end
section
structure QD where
  n:Int
  d:Nat
structure PD where
  x:QD
  y:QD
def JB (q:QD):List Value:=[.int .i64 q.n,.int .u32 (q.d:Nat)]
def En (p:PD):List Value:=JB p.x++JB p.y
def QD.ok (q:QD):Prop := -9223372036854775808<=q.n/\q.n<9223372036854775808/\q.d<4294967296
def PD.ok (p:PD):Prop:=p.x.ok/\p.y.ok
def Jp (q:QD):Rat:=((q.n:Int):Rat)/(((max q.d 1:Nat):Int):Rat)
def G4 (p:PD):Pt:=⟨Jp p.x,Jp p.y⟩
theorem VM {q:QD} (h:q.ok):Sz (Jp q)<=4:=by
  obtain ⟨h1,h2,h3⟩:=h
  have s1:=JT h1 h2
  have s2:=JT (z:=((max q.d 1:Nat):Int)) Z Z
  have hb:(((max q.d 1:Nat):Int):Rat)≠0:=λe=>by
    have:((max q.d 1:Nat):Int)=0:=by exact_mod_cast e
    omega
  have:=Rn (a:=((q.n:Int):Rat)) hb
  unfold Jp
  omega
theorem V_ {p:PD} (h:p.ok):DU (G4 p)<=4:=N9 (VM h.1) (VM h.2)
section
variable {P:Program} {w:World} {r:Reach} {base:Nat}
end
theorem ZN {n:Int} (h:IntKind.i64.has n):-9223372036854775808<=n/\n<9223372036854775808:=by
  simp only [IntKind.has,IntKind.min,IntKind.max,IntKind.bits,IntKind.signed] at h;simp at h;omega
theorem Xs {n:Int} (h:IntKind.u32.has n):0<=n/\n<4294967296:=by
  simp only [IntKind.has,IntKind.min,IntKind.max,IntKind.bits,IntKind.signed] at h;simp at h;omega
section
variable {P:Program} {w:World} {r:Reach} {base:Nat} {t:TypeId} {v:Value} {ts:List TypeId}
end
end
section
def rowsL {α:Type} (enc:α->List Value) (xs:List α):List Value:=xs.flatMap enc
section
variable {α:Type} {enc:α->List Value} {z:Nat}
theorem BI (xs ys:List α):rowsL enc (xs++ys)=rowsL enc xs++rowsL enc ys:=by simp [rowsL]
theorem AV (h:∀x,(enc x).length=z) (xs:List α):(rowsL enc xs).length=xs.length*z:=by
  induction xs with
  | nil=>simp [rowsL]
  | cons x r ih =>
    have e:rowsL enc (x::r)=enc x++rowsL enc r:=rfl
    rw [e,xJ,ih,h,List.length_cons,Nat.add_mul];omega
theorem Al (h:∀x,(enc x).length=z) (d:α):∀(xs:List α) (j:Nat),j<xs.length->((rowsL enc xs).drop (j*z)).take z=enc (xs.getD j d)
  | x::r,0,_=>by
    have e:rowsL enc (x::r)=enc x++rowsL enc r:=rfl
    rw [e,Nat.zero_mul,List.drop_zero,List.take_append_of_le_length (by rw [h];exact Nat.le_refl _),List.take_of_length_le (by rw [h];exact Nat.le_refl _)];rfl
  | x::r,j+1,hj=>by
    have e:rowsL enc (x::r)=enc x++rowsL enc r:=rfl
    rw [e,show (j+1)*z=(enc x).length+j*z by rw [h,Nat.add_mul];omega,List.drop_append,List.drop_of_length_le Z,Nat.add_sub_cancel_left,List.nil_append,Al h d r j (by simpa using hj)];rfl
end
structure RX (cs:List Value) (n:Nat) where
  p:Option Addr
  c:Nat
  ok:An p n c
@[reducible] def RX.val {cs:List Value} {n:Nat} (a:RX cs n):Value:=.slice a.p n a.c
@[reducible] def RX.row {cs:List Value} {n:Nat} (a:RX cs n):As:=AB a.p cs
instance {cs:List Value} {n:Nat}:C8 (RX cs n):=⟨λa=>.slice a.p n a.c,λa=>[AB a.p cs],λa y hy=>by rcases xM.1 hy with rfl;rfl⟩
theorem Y4 {S:Nat->Prop} {W w:World} {L:List As} (hw:Own ⟨W,none⟩ w L) (i:Nat) {p:Option Addr} {T:TypeId} {z n c:Nat} {cs:List Value} (hi:L[i]?=some (rowW p T z n c cs)) (ho:OwnOk p n c) (hl:cs.length=n*z) {v:Value} (hv:v=.slice p n c):Ad (RX cs n) S W (.returned v) w:=by
  have hb:=hw.newRow hi
  refine ⟨⟨p,c,ho.row⟩,by rw [hv];rfl,hw.out,λy hy=>?_⟩
  rcases xM.1 hy with rfl
  refine ⟨λd e=>?_,λd e=>.inl (hb d e)⟩
  obtain ⟨_,o,ho2,hp⟩:=hw.2.1 _ (List.mem_of_getElem? hi) d e
  exact ⟨o,ho2,Cd ho hl hp⟩
def dy (xs:List Nat):List Value:=xs.map λx=>Value.int .u8 (x:Nat)
structure MQ where
  nx:Nat
  ny:Nat
  cs:List Nat
  p:Option Addr
  cap:Nat
  a:Int
  b:Int
  c:Int
  d:Int
  den:Nat
  fst:Nat
  hx:nx<256
  hy:ny<256
  ha:-128<=a/\a<=127
  hb:-128<=b/\b<=127
  hc:-128<=c/\c<=127
  hd:-128<=d/\d<=127
  hden:den<256
  hfst:fst<256
  hcs:∀x∈cs,x<256
  ok:An p cs.length cap
def fg (m:MQ):List Value:=[.int .u8 m.nx,.int .u8 m.ny,.slice m.p m.cs.length m.cap,.int .i8 m.a,.int .i8 m.b,.int .i8 m.c,.int .i8 m.d,.int .u8 m.den,.int .u8 m.fst]
instance:C8 MQ:=⟨λm=>aG (fg m),λm=>[AB m.p (dy m.cs)],λa y hy=>by rcases xM.1 hy with rfl;rfl⟩
abbrev P2:=Nat×Nat
def cR (nx way i:Nat):List (P2×P2×P2) :=
  let x:=2*(i%nx);let y:=2*(i/nx)
  if way<3\/(way=7/\i=0) then [((x,y),(x+2,y),(x+2,y+2)),((x,y),(x+2,y+2),(x,y+2))]
  else if way<5 then [((x,y),(x+2,y),(x,y+2)),((x+2,y),(x+2,y+2),(x,y+2))]
  else if way<7 then [((x,y),(x+2,y),(x+1,y+1)),((x+2,y),(x+2,y+2),(x+1,y+1)),((x+2,y+2),(x,y+2),(x+1,y+1)),((x,y+2),(x,y),(x+1,y+1))] else []
section
variable {nx way i u v:Nat}
end
def DC (p:P2):List Value:=[vN p.1,vN p.2]
def Ac (t:Tq3):List Value:=[vN t.1,vN t.2.1,vN t.2.2]
theorem Am (t:Tq3):(Ac t).length=3:=rfl
def fA (z:Int×Int):List Value:=[.int .i64 z.1,.int .i64 z.2]
def eJ (m:MQ) (i:Nat):Nat:=if 0<m.cs.length then m.cs.getD (i%m.cs.length) 0%8 else 0
def fM (m:MQ):Nat:=1+m.nx%3
def fk (m:MQ):Nat:=1+m.ny%3
def VQ (m:MQ):Nat->List (P2×P2×P2)
  | 0=>[]
  | i+1=>VQ m i++cR (fM m) (eJ m i) i
def OU (m:MQ):List (P2×P2×P2):=VQ m (fM m*fk m)
structure RL where
  a:Int
  b:Int
  c:Int
  d:Int
def RL.det (k:RL):Int:=k.a*k.d-k.b*k.c
def RL.at_ (k:RL) (p:P2):Int×Int:=(k.a*p.1+k.b*p.2,k.c*p.1+k.d*p.2)
def eO (a b c d:Int):RL :=
  let k:RL:=⟨a.tmod 4,b.tmod 4,c.tmod 4,d.tmod 4⟩
  if k.det=0 then ⟨1,0,0,1⟩ else if k.det<0 then ⟨k.a,k.b,-k.c,-k.d⟩ else k
end
section
set_option maxRecDepth 100000
end
section
section
variable {P:Program}
theorem S2.one {D c i:Nat} {e:TypeId} {is:List Nat} {xs ys:List Value} {u v:Value} {r s:Bool} (hg:∀w,(isAgg e).run P w=.ok false w)
    (ha:xs[i*c]?=some u) (hb:ys[i*c]?=some v) (h:H0 P D e u v r) (h2:S2 P D e c xs ys is s):S2 P D e c xs ys (i::is) (r&&s):=λw=>by
  have e1:(part e xs.toArray (i*c)).run P w=.ok u w:=by simp [part,hg,ha]
  have e2:(part e ys.toArray (i*c)).run P w=.ok v w:=by simp [part,hg,hb]
  simp only [Go.Op.eqItems,Sem.run_bind,e1,e2,Result.andThen_ok,h w]
  cases r
  · simp
  · simp [h2 w]
end
theorem QU:∃i,prog.info? 3=some i:=Option.isSome_iff_exists.1 jV
theorem NI:prog.cellsOf 3=1:=by kernel_rfl
def fB (c:P2×P2×P2) (k:Nat):P2:=if k=0 then c.1 else if k=1 then c.2.1 else c.2.2
def dv (m:MQ) (t k:Nat):Nat:=(k+m.fst+t*(m.fst/3))%3
def Gp (m:MQ) (t k:Nat):P2:=fB ((OU m).getD t ((0,0),(0,0),(0,0))) (dv m t k)
structure cV (m:MQ) (pl:List P2) (n:Tq3) (t:Nat):Prop where
  a:n.1<pl.length/\pl.getD n.1 (0,0)=Gp m t 0
  b:n.2.1<pl.length/\pl.getD n.2.1 (0,0)=Gp m t 1
  c:n.2.2<pl.length/\pl.getD n.2.2 (0,0)=Gp m t 2
def Ol (pl:List P2) (p:P2):List P2×Nat:=if p∈pl then (pl,pl.idxOf p) else (pl++[p],pl.length)
def bV (m:MQ):Nat->List P2×List (Tq3)
  | 0=>([],[])
  | i+1=>((Ol (Ol (Ol (bV m i).1 (Gp m i 0)).1 (Gp m i 1)).1 (Gp m i 2)).1,
      (bV m i).2++[((Ol (bV m i).1 (Gp m i 0)).2,(Ol (Ol (bV m i).1 (Gp m i 0)).1 (Gp m i 1)).2,(Ol (Ol (Ol (bV m i).1 (Gp m i 0)).1 (Gp m i 1)).1 (Gp m i 2)).2)])
structure am (m:MQ) (i:Nat) (pl:List P2) (ts:List (Tq3)):Prop where
  tl:ts.length=i
  pll:pl.length<=3*i
  at_:∀j,j<i->cV m pl (ts.getD j (0,0,0)) j
  Ky:∀p∈pl,p.1<=6/\p.2<=6
  used:∀a,a<pl.length->∃j,j<i/\((ts.getD j (0,0,0)).1=a\/(ts.getD j (0,0,0)).2.1=a\/(ts.getD j (0,0,0)).2.2=a)
  fn:(pl,ts)=bV m i
def ek (pl:List P2):Prop:=∀a b,a<pl.length->b<pl.length->pl.getD a (0,0)=pl.getD b (0,0)->a=b
def mapM (m:MQ):RL:=eO m.a m.b m.c m.d
def Pk (t:Tq3) (x:Nat):Bool:=decide (t.1=x)||decide (t.2.1=x)||decide (t.2.2=x)
def e_ (m:MQ) (a b:Nat):Tq3:=(a,b,(a+3*b+m.fst)%5)
def dA (ts:List (Tq3)) (a b:Nat):Nat->Nat
  | 0=>0
  | i+1=>dA ts a b i+(if Pk (ts.getD i (0,0,0)) a=true/\Pk (ts.getD i (0,0,0)) b=true then 1 else 0)
def dH (m:MQ) (ts:List (Tq3)) (a:Nat):Nat->List (Tq3)
  | 0=>[]
  | j+1=>dH m ts a j++(if dA ts a (a+1+j) ts.length=1 then [e_ m a (a+1+j)] else [])
def QY (m:MQ) (ts:List (Tq3)) (N:Nat):Nat->List (Tq3)
  | 0=>[]
  | a+1=>QY m ts N a++dH m ts a (N-(a+1))
structure WM (m:MQ) where
  pl:List P2
  ts:List (Tq3)
  ss:List (Tq3)
  inv:am m (OU m).length pl ts
  dst:ek pl
  sl:ss.length<=108*108
  sd:ss=QY m ts pl.length pl.length
  a:RX (rowsL fA (pl.map λp=>(mapM m).at_ p)) pl.length
  b:RX (rowsL Ac ts) ts.length
  c:RX (rowsL Ac ss) ss.length
def fK {m:MQ} (x:WM m):List Value:=[x.a.val,x.b.val,x.c.val]
theorem cd {m:MQ} {x:WM m} {y:As} (hy:y∈[x.a.row,x.b.row,x.c.row]):y.ro=true:=by
  simp only [xL,List.not_mem_nil,or_false] at hy
  rcases hy with rfl|rfl|rfl<;>rfl
instance {m:MQ}:C8 (WM m):=⟨λx=>aG (fK x),λx=>[x.a.row,x.b.row,x.c.row],λx y hy=>cd hy⟩
theorem C9 {S:Nat->Prop} {W w:World} {L:List As} (hw:Own ⟨W,none⟩ w L) (i:Nat) {p:Option Addr} {T:TypeId} {z n c:Nat} {cs:List Value} (hi:L[i]?=some (rowW p T z n c cs)) (ho:OwnOk p n c) (hl:cs.length=n*z):Holds w (AB p cs)/\∀b,(AB p cs).foot=some b->W.heap.size<=b\/S b:=by
  have hb:=hw.newRow hi
  refine ⟨λd e=>?_,λd e=>.inl (hb d e)⟩
  obtain ⟨_,o,ho2,hp⟩:=hw.2.1 _ (List.mem_of_getElem? hi) d e
  exact ⟨o,ho2,Cd ho hl hp⟩
section
variable {P:Program} {ops:Array Oper} {rest:List Oper} {Q:Exit->Act->World->Prop} {n d:Nat} {F:List (Nat×Value)} {w0:BC} {S:Nat->Prop} {L:List As} {t:TypeId} {p:String} {af:Array Edge} {y:Operand} {f:FuncId} {xs:List Operand} {args:List Value} {ts:Array TypeId}
theorem cX {cs:List Value} {k:Nat} (hc:∀args w,(callFunc f args).run P w=.ok (.enter f args) w) (h:∀w,Own w0 w L->Calls P f args.toArray w (Ad (RX cs k) (SL w0 S L) w))
    (hf:evF F y=some (.func (.func f) #[] #[])) (hargs:xs.map (evF F)=args.map some) (hd:Nat.ble (d+1) n=true) (next:∀a:RX cs k,At w0 S a->AL P ops rest Q n ((d,.slice a.p k a.c)::F) w0 (AB a.p cs::L)) :
    AL P ops (⟨some d,.call { callee:=.value y,args:=xs.toArray,argTypes:=ts },t,p,af,none⟩::rest) Q n F w0 L:=zm hc h hf hargs hd next
end
def dC (p:Option Addr) (T:TypeId) (z n c:Nat) (cs:List Value):As:=⟨p.map (·.block),(rowW p T z n c cs).P,true⟩
structure fC (m:MQ) where
  x:WM m
  ob:OwnOk x.b.p x.ts.length x.b.c
def d7 {m:MQ} (y:fC m):As:=dC y.x.b.p 105 3 y.x.ts.length y.x.b.c (rowsL Ac y.x.ts)
instance {m:MQ}:C8 (fC m):=⟨λy=>aG (fK y.x),λy=>[y.x.a.row,y.x.b.row,y.x.c.row,d7 y],λx y hy=>by
  simp only [xL,List.not_mem_nil,or_false] at hy
  rcases hy with rfl|rfl|rfl|rfl<;>rfl⟩
end
section
set_option maxRecDepth 100000
theorem I3:ElemT prog 23 105 3 24:=⟨underlying23,D9 jV⟩
end

theorem BS {α:Type} {enc:α->List Value} {z:Nat} (h:∀x,(enc x).length=z) (d:α) (xs:List α) (j r:Nat) (hj:j<xs.length) (hr:r<z) {v:Value} (hv:(enc (xs.getD j d))[r]?=some v):(rowsL enc xs)[j*z+r]?=some v:=by
  have h1:=Al h d xs j hj
  rw [<-h1,List.getElem?_take_of_lt hr,List.getElem?_drop] at hv
  exact hv
theorem Bs (p:Pt):(BB p).length=10:=rfl
structure eC (ps:List Pt) (t:Tq3):Prop where
  a:t.1<ps.length
  b:t.2.1<ps.length
  c:t.2.2<ps.length
  ab:t.1≠t.2.1
  bc:t.2.1≠t.2.2
  ca:t.2.2≠t.1
  pos:0<Jt (ps.getD t.1 ⟨0,0⟩) (ps.getD t.2.1 ⟨0,0⟩) (ps.getD t.2.2 ⟨0,0⟩)
def eW (ps:List Pt) (t:Tq3) (q:Pt):Prop:=0<Jt q (ps.getD t.2.1 ⟨0,0⟩) (ps.getD t.2.2 ⟨0,0⟩)/\0<Jt (ps.getD t.1 ⟨0,0⟩) q (ps.getD t.2.2 ⟨0,0⟩)/\0<Jt (ps.getD t.1 ⟨0,0⟩) (ps.getD t.2.1 ⟨0,0⟩) q
def eZ (ps:List Pt) (t:Tq3) (q:Pt):Prop:=0<=Jt q (ps.getD t.2.1 ⟨0,0⟩) (ps.getD t.2.2 ⟨0,0⟩)/\0<=Jt (ps.getD t.1 ⟨0,0⟩) q (ps.getD t.2.2 ⟨0,0⟩)/\0<=Jt (ps.getD t.1 ⟨0,0⟩) (ps.getD t.2.1 ⟨0,0⟩) q
def dK (m:MQ):Nat:=1+m.den%6
def fO (m:MQ) (z:Int×Int):PD:=⟨⟨z.1,dK m⟩,⟨z.2,dK m⟩⟩
def fF (m:MQ) (zs:List (Int×Int)) (i:Nat):List Pt:=(zs.take i).map λz=>G4 (fO m z)
def fD (m:MQ) (pl:List P2):List (Int×Int):=pl.map λp=>(mapM m).at_ p
structure cI (ps:List Pt) (ts:List (Tq3)):Prop where
  ne:ts≠[]
  tl:ts.length<=36
  pl:ps.length<=108
  sz:∀i,DU (ps.getD i ⟨0,0⟩)<=4
  tri:∀j,j<ts.length->eC ps (ts.getD j (0,0,0))
  apart:∀i j,i<ts.length->j<ts.length->i≠j->∀q,eW ps (ts.getD i (0,0,0)) q->¬eZ ps (ts.getD j (0,0,0)) q
  lat:∃(m:MQ) (pl:List P2),am m (OU m).length pl ts/\ek pl/\ps=fF m (fD m pl) pl.length
structure MG where
  ps:List Pt
  ts:List (Tq3)
  ss:List (Tq3)
  good:cI ps ts
  sl:ss.length<=108*108
  sd:∃m:MQ,ss=QY m ts ps.length ps.length
  a:RX (rowsL BB ps) ps.length
  b:RX (rowsL Ac ts) ts.length
  c:RX (rowsL Ac ss) ss.length
def du (x:MG):List Value:=[x.a.val,x.b.val,x.c.val]
theorem Za {x:MG} {y:As} (hy:y∈[x.a.row,x.b.row,x.c.row]):y.ro=true:=by
  simp only [xL,List.not_mem_nil,or_false] at hy
  rcases hy with rfl|rfl|rfl<;>rfl
instance:C8 MG:=⟨λx=>aG (du x),λx=>[x.a.row,x.b.row,x.c.row],λx y hy=>Za hy⟩
def eU (m:MQ) (ps:List Pt) (ts:List (Tq3)):Prop:=∃pl:List P2,am m (OU m).length pl ts/\ek pl/\ps=fF m (fD m pl) pl.length
structure MF (m:MQ) where
  g:MG
  lat:eU m g.ps g.ts
instance {m:MQ}:C8 (MF m):=⟨λx=>aG (du x.g),λx=>[x.g.a.row,x.g.b.row,x.g.c.row],λx y hy=>Za hy⟩
structure fI (m:MQ) where
  f:MF m
  ob:OwnOk f.g.b.p f.g.ts.length f.g.b.c
  da:∀x,f.g.b.p.map (·.block)=some x->f.g.a.p.map (·.block)≠some x
  dc:∀x,f.g.b.p.map (·.block)=some x->f.g.c.p.map (·.block)≠some x
def eG {m:MQ} (y:fI m):As:=dC y.f.g.b.p 105 3 y.f.g.ts.length y.f.g.b.c (rowsL Ac y.f.g.ts)
instance {m:MQ}:C8 (fI m):=⟨λy=>aG (du y.f.g),λy=>[y.f.g.a.row,y.f.g.b.row,y.f.g.c.row,eG y],λx y hy=>by
  simp only [xL,List.not_mem_nil,or_false] at hy
  rcases hy with rfl|rfl|rfl|rfl<;>rfl⟩
section
set_option maxRecDepth 100000
theorem WI (q:QD) (h:q.ok) (w:World)  :Calls prog 105 #[(aG (JB q))] w (Ak w (aG (AY (Jp q)))):=by
 obtain ⟨h1,h2,h3⟩:=h
 refine Ab (args:=[(aG (JB q))]) func105 O O (Av O) (zN (sL [0] O) (q4 (Bb (cs:=JB q) O λb1=>al Gt O λb2=>q3 (sL [1,2] O) (AG (v:=(pP b1 0)) (AA O underlying94 O sizeOf2 O) O (Az 1 (vI q.n) dV O (AG (v:=(pP b1 1)) (AA O underlying94 O sizeOf92 O) O (Az 1 (vK .u32 q.d) aI O (AG (Eu (c:=((max q.d 1:Nat):Int)) O O (by split<;>omega)) O (AG (A9 (c:=((max q.d 1:Nat):Int)) O underlying92 underlying2 (FQ Z)) O ?_)))))))))
 refine ck' call93 (Uc (q.n:Int) ((max q.d 1:Nat):Int) Z Z Z Z Z) O (AM O (AG (AZ (v:=(aG (AY (((q.n:Int):Rat)/(((max q.d 1:Nat):Int):Rat))))) O O) O (AG (AZ (v:=(vI 0)) O O) O (al Gt O λb3=>Ax O sizeOf77 O (asg' O (q3 (sL [2,3] O) (BD 0 Ce O (EK O sizeOf77 O (oNl' (zB (sL [2,3] O) ?_))))))))))
 exact zA (zF (ret_one O (Ai (i:=1) (cs:=AY (((q.n:Int):Rat)/(((max q.d 1:Nat):Int):Rat))) O O isAgg77 sizeOf77 O) (λw hw=>⟨rfl,hw.out⟩)))
theorem FH (x0:Rat) (x1:Rat):Instr.fill ([(0,5),(5,5)].toArray[·]?) (BB (⟨0,0⟩:Pt)).toArray [(0,.agg (AY x0).toArray),(1,.agg (AY x1).toArray)]=some (AY x0++AY x1).toArray:=by kernel_rfl
theorem Z5 (p:PD) (h:p.ok) (w:World)  :Calls prog 37 #[(aG (En p))] w (Ak w (aG (BB (G4 p)))):=by
 have h1:=h.1
 have h2:=h.2
 refine Ab (args:=[(aG (En p))]) func37 O O (Av O) (zN (sL [0] O) (q4 (Bb (cs:=En p) O λb1=>al MY O λb2=>q6 (sL [1,2] O) (CQ [(0,true),(1,true),(3,true),(4,true),(2,false),(5,false),(6,true),(7,false)] (sl sr) (Aj (v:=(pP b1 0)) O (AA O underlying96 O sizeOf94 O) (Eo 0 (JB p.x) UB O (Aj (v:=(pP b1 2)) O (AA O underlying96 O sizeOf94 O) (Eo 0 (JB p.y) UB O (zK O ?_)))))))))
 refine ck' call105 (WI p.x (by assumption)) O (zD (sl sr) (zK O (ck' call105 (WI p.y (by assumption)) O (zD (sl sr) (Aj (v:=(aG (AY (Jp p.x)++AY (Jp p.y)))) O (AT (zs:=BB (⟨0,0⟩:Pt)) (vs:=AY (Jp p.x)++AY (Jp p.y)) (pv:=[(0,(aG (AY (Jp p.x)))),(1,(aG (AY (Jp p.y))))]) (places:=[(0,5),(5,5)]) zeroValue99 underlying99 (λw=>by simp [sizeOf77]) O (FH (Jp p.x) (Jp p.y))) (zK O (Ax O sizeOf99 O (zD (sl sr) (zT (zB (sL [2] O) (zA ?_)))))))))))
 exact zF (ret_one O (Ai (i:=0) (cs:=AY (Jp p.x)++AY (Jp p.y)) O O isAgg99 sizeOf99 O) (λw hw=>⟨rfl,hw.out⟩))
end
section
set_option maxRecDepth 100000
theorem ap:ElemT prog 24 110 3 24:=⟨underlying24,D9 jV⟩
theorem bH:ElemT prog 28 99 10 112:=⟨underlying28,D9 jV⟩
end
section
structure MX (ps:List Pt) (ts ss:List (Tq3)) where
  a:RX (rowsL BB ps) ps.length
  b:RX (rowsL Ac ts) ts.length
  c:RX (rowsL Ac ss) ss.length
def UU {ps:List Pt} {ts ss:List (Tq3)} (x:MX ps ts ss):List Value:=[x.a.val,x.b.val,x.c.val]
theorem cU {ps:List Pt} {ts ss:List (Tq3)} {x:MX ps ts ss} {y:As} (hy:y∈[x.a.row,x.b.row,x.c.row]):y.ro=true:=by
  simp only [xL,List.not_mem_nil,or_false] at hy
  rcases hy with rfl|rfl|rfl<;>rfl
instance {ps:List Pt} {ts ss:List (Tq3)}:C8 (MX ps ts ss):=⟨λx=>aG (UU x),λx=>[x.a.row,x.b.row,x.c.row],λx y hy=>cU hy⟩
structure BX (cs:List Value) where
  b:Nat
instance {cs:List Value}:C8 (BX cs):=⟨λx=>pP x.b 0,λx=>[AB (some ⟨x.b,0,none⟩) cs],λx y hy=>by rcases xM.1 hy with rfl;rfl⟩
theorem Hl {b:Nat} {T:TypeId} {cs:List Value} {o:Obj} (h:(AR b T cs).P o):(AB (jk b) cs).P o:=⟨cs.toArray,T,(0,0),h,by show (cs.toArray.toList.drop 0).take cs.length=cs;simp⟩
section
variable {S:Nat->Prop} {w W:World} {w0:BC} {L:List As} {ps:List Pt} {ts ss:List (Tq3)} {cs:List Value}
theorem dW (hw:Own w0 w L) (i:Nat) {x:BX cs} (hi:L[i]?=some (AB (some ⟨x.b,0,none⟩) cs)) (hb:w0.w.heap.size<=x.b):Ro (SL w0 S L) w x:=λy hy=>by
  rcases xM.1 hy with rfl
  exact ⟨hw.holds hi,λc e=>⟨⟨_,List.mem_of_getElem? hi,rfl,e⟩,.inl (by injection e with e;rw [<-e];exact hb)⟩⟩
end
section
variable {P:Program} {ops:Array Oper} {rest:List Oper} {Q:Exit->Act->World->Prop} {n d:Nat} {F:List (Nat×Value)} {w0:BC} {S:Nat->Prop} {L:List As} {t:TypeId} {p:String} {af:Array Edge} {y:Operand} {f:FuncId} {xs:List Operand} {args:List Value} {ts:Array TypeId}
theorem yn (i:Nat) {b:Nat} {T:TypeId} {cs:List Value} (hi:L[i]?=some (AR b T cs)) (hex:w0.ex=none) (next:w0.w.heap.size<=b->AL P ops rest Q n F w0 (L.set i (AB (jk b) cs))):AL P ops rest Q n F w0 L:=λa w ha hw=>by
  refine next ?_ a w ha (hw.freeze hi O (λo hp=>Hl hp) (λe=>by cases e))
  rcases (hw.2.1 _ (List.mem_of_getElem? hi) b rfl).1 with h1|h1|h1
  · cases h1
  · exact h1
  · rw [hex] at h1;cases h1
end
def On (n:Nat) (t:Tq3):Bool:=decide (t.1<n)&&decide (t.2.1<n)&&decide (t.2.2<n)&&!decide (t.1=t.2.1)&&!decide (t.2.1=t.2.2)&&!decide (t.2.2=t.1)
def Bu (n:Nat) (ts:List (Tq3)):Bool:=ts.all (On n)
theorem Dt {n:Nat} {ts:List (Tq3)} (h:Bu n ts=true) {j:Nat} (hj:j<ts.length):On n (ts.getD j (0,0,0))=true:=by
  rw [List.getD,xN hj]
  exact List.all_eq_true.1 h _ (List.getElem_mem hj)
theorem Ee {n:Nat} {t:Tq3} (h:On n t=true):t.1<n/\t.2.1<n/\t.2.2<n:=by
  simp [On] at h;omega
def idxB (n:Nat):List (Tq3)->Nat->Int
  | [],_ => -1
  | t::r,i=>if On n t=true then idxB n r (i+1) else (i:Int)
theorem Dp {α:Type} {ts:List α} {d:α} {j:Nat} (hj:j<ts.length):ts.drop j=ts.getD j d::ts.drop (j+1):=by
  rw [List.drop_eq_getElem_cons hj,List.getD,xN hj];rfl
theorem TL {n:Nat} {ts:List (Tq3)} {j:Nat} (hj:j<ts.length) (h:On n (ts.getD j (0,0,0))=true):idxB n (ts.drop j) j=idxB n (ts.drop (j+1)) (j+1):=by
  rw [Dp (d:=(0,0,0)) hj];exact if_pos h
theorem Ws {n:Nat} {ts:List (Tq3)} {j:Nat} (hj:j<ts.length) (h:On n (ts.getD j (0,0,0))=false):idxB n (ts.drop j) j=(j:Int):=by
  rw [Dp (d:=(0,0,0)) hj];exact if_neg (by rw [h];exact Bool.false_ne_true)
theorem VI {n:Nat} {ts:List (Tq3)} {j:Nat} (hj:¬j<ts.length):idxB n (ts.drop j) j = -1:=by
  rw [List.drop_of_length_le Z];rfl
theorem My (n:Nat):∀(ts:List (Tq3)) (i:Nat),decide (0<=idxB n ts i)=!Bu n ts
  | [],i=>rfl
  | t::r,i=>by
    unfold idxB Bu
    rw [List.all_cons]
    cases h:On n t with
    | true=>rw [if_pos rfl,Bool.true_and];exact My n r (i+1)
    | false=>rw [if_neg Bool.false_ne_true,Bool.false_and];simp
def IR (ps:List Pt) (k:Nat):Pt:=ps.getD k ⟨0,0⟩
end
section
structure RM (N:Nat) (ts ss:List (Tq3)) where
  cs:List Value
  ds:List Value
  a:RX cs N
  b:RX (rowsL Ac ts) ts.length
  c:RX ds ss.length
def Dk {N:Nat} {ts ss:List (Tq3)} (x:RM N ts ss):List Value:=[x.a.val,x.b.val,x.c.val]
theorem bj {N:Nat} {ts ss:List (Tq3)} {x:RM N ts ss} {y:As} (hy:y∈[x.a.row,x.b.row,x.c.row]):y.ro=true:=by
  simp only [xL,List.not_mem_nil,or_false] at hy
  rcases hy with rfl|rfl|rfl<;>rfl
instance {N:Nat} {ts ss:List (Tq3)}:C8 (RM N ts ss):=⟨λx=>aG (Dk x),λx=>[x.a.row,x.b.row,x.c.row],λx y hy=>bj hy⟩
section
variable {S:Nat->Prop} {w:World} {N:Nat} {ts ss:List (Tq3)}
theorem cE {x:RM N ts ss} (h:Ro S w x):Ro S w x.b:=λy hy=>by rcases xM.1 hy with rfl;exact h _ (List.mem_cons_of_mem _ List.mem_cons_self)
end
structure RU (N M K:Nat) where
  cs:List Value
  es:List Value
  ds:List Value
  a:RX cs N
  b:RX es M
  c:RX ds K
def FF {N M K:Nat} (x:RU N M K):List Value:=[x.a.val,x.b.val,x.c.val]
theorem cW {N M K:Nat} {x:RU N M K} {y:As} (hy:y∈[x.a.row,x.b.row,x.c.row]):y.ro=true:=by
  simp only [xL,List.not_mem_nil,or_false] at hy
  rcases hy with rfl|rfl|rfl<;>rfl
instance {N M K:Nat}:C8 (RU N M K):=⟨λx=>aG (FF x),λx=>[x.a.row,x.b.row,x.c.row],λx y hy=>cW hy⟩
end
section
set_option maxRecDepth 100000
theorem MD (p n:Nat) (w:World)  :Calls prog 148 #[(vN p),(vN n)] w (Ak w (qa (decide (p<n)))):=by
 refine Ab (args:=[(vN p),(vN n)]) func148 O O (Av O) (zN (sL [0,1] O) (q4 (asg' O (oNl' (q2 (AM O (AG (Bp (c:=(decide (0<=p))) O O (UT (a:=0) (b:=p))) O (AM O ?_))))))))
 refine zX (FM:=[(0,(vN p)),(1,(vN n)),(4,(qa false)),(5,(vN p)),(6,(qa (decide (0<=p)))),(7,(qa (decide (0<=p)))),(11,(qa ((decide (0<=p))&&(decide (p<n)))))]) (LM:=[]) 4 ?_ ?_
 ·rcases xO (decide (0<=p)) with hg1|hg1
  ·refine zC (k:=7) (u:=qa true) O (by rw [hg1]) ?_
   have hg1':=xR hg1
   exact Ds O (Ds O (Au (v:=(qa (decide (p<n)))) O (Ae (c:=(decide (p<n))) O O (CM (a:=p) (b:=n))) (AG (v:=(qa (decide (p<n)))) (AN O O) O (oNl' (zR Bg (xP _))))))
  ·refine zC (k:=7) (u:=qa false) O (by rw [hg1]) ?_
   have hg1':=xQ hg1
   exact Ar O (Ar O (Ar O (AG (v:=(qa false)) (AI O O) O (oNl' (zR Bg (xP _))))))
 exact asg' O (oNl' (zB (sL [4] O) (zA (zF (ret_one O (rd_tmp (v:=(qa ((decide (0<=p))&&(decide (p<n))))) O) (λw hw=>⟨by simp,hw.out⟩))))))
theorem VP (t:Tq3) (n:Nat) (bo:BX [vN n]) (w:World) {S:Nat->Prop} (hbo:Ro S w bo):Calls prog 174 #[(aG (Ac t)),(pP bo.b 0)] w (Ak w (qa (!On n t))):=by
 have lbo:=Bx (W:=w) hbo
 refine AX (args:=[(aG (Ac t)),(pP bo.b 0)]) (L:=[AB (some ⟨bo.b,0,none⟩) ([(vN n)])]) func174 O O (Av O) (DF hbo Ah) (zN (sL [0,1] O) (q4 (Bb (cs:=Ac t) O λb1=>asg' O (q3 (sL [1,2,3] O) (AG (v:=(pP b1 0)) (AD (j:=0) O O underlying105 sizeOf3 O jY O) O (Az 0 (vN t.1) BN O (AG (AK (q:=some ⟨bo.b,0,none⟩) (v:=(vN n)) (off:=0) (i:=1) O O (λe=>by cases e) BN O) O (ck' call148 (MD t.1 n) O (AG (BQ (c:=(!(decide (t.1<n)))) O O) O (AM O ?_))))))))))
 refine zX (FM:=[(1,(pP bo.b 0)),(2,(pP b1 0)),(3,(qa false)),(4,(pP b1 0)),(5,(vN t.1)),(6,(vN n)),(7,(qa (decide (t.1<n)))),(8,(qa (!(decide (t.1<n))))),(9,(qa (!(decide (t.1<n))))),(15,(qa ((!(decide (t.1<n)))||(!(decide (t.2.1<n))))))]) (LM:=[AR b1 105 (Ac t),AB (some ⟨bo.b,0,none⟩) ([(vN n)])]) 6 ?_ ?_
 ·rcases xO (!(decide (t.1<n))) with hg1|hg1
  ·refine zC (k:=9) (u:=qa true) O (by rw [hg1]) ?_
   have hg1':=hg1
   simp only [jK] at hg1'
   exact Ar O (Ar O (Ar O (Ar O (Ar O (AG (v:=(qa true)) (AN O O) O (oNl' (zR Bg (xP _))))))))
  ·refine zC (k:=9) (u:=qa false) O (by rw [hg1]) ?_
   have hg1':=hg1
   simp only [jK] at hg1'
   exact Au (v:=(pP b1 1)) O (AD (j:=1) O O underlying105 sizeOf3 O jY O) (Au (v:=(vN t.2.1)) O (AE (i:=0) (v:=(vN t.2.1)) O O BN.a O) (Au (v:=(vN n)) O (AK (q:=some ⟨bo.b,0,none⟩) (v:=(vN n)) (off:=0) (i:=1) O O (λe=>by cases e) BN O) (zd (v:=(qa (decide (t.2.1<n)))) (AH O) (Aw (args:=[(vN t.2.1),(vN n)]) O O call148) (λw hw=>MD t.2.1 n w) O (Av O) (Au (v:=(qa (!(decide (t.2.1<n))))) O (BQ (c:=(!(decide (t.2.1<n)))) O O) (AG (v:=(qa (!(decide (t.2.1<n))))) (AI O O) O (oNl' (zR Bg (xP _))))))))
 refine AM O ?_
 refine zX (FM:=[(1,(pP bo.b 0)),(2,(pP b1 0)),(3,(qa false)),(4,(pP b1 0)),(5,(vN t.1)),(6,(vN n)),(7,(qa (decide (t.1<n)))),(8,(qa (!(decide (t.1<n))))),(9,(qa (!(decide (t.1<n))))),(15,(qa ((!(decide (t.1<n)))||(!(decide (t.2.1<n)))))),(16,(qa ((!(decide (t.1<n)))||(!(decide (t.2.1<n)))))),(22,(qa (((!(decide (t.1<n)))||(!(decide (t.2.1<n))))||(!(decide (t.2.2<n))))))]) (LM:=[AR b1 105 (Ac t),AB (some ⟨bo.b,0,none⟩) ([(vN n)])]) 6 ?_ ?_
 ·rcases xO ((!(decide (t.1<n)))||(!(decide (t.2.1<n)))) with hg2|hg2
  ·refine zC (k:=16) (u:=qa true) O (by rw [hg2]) ?_
   have hg2':=hg2
   simp only [jK] at hg2'
   exact Ar O (Ar O (Ar O (Ar O (Ar O (AG (v:=(qa true)) (AN O O) O (oNl' (zR EQ (xP _))))))))
  ·refine zC (k:=16) (u:=qa false) O (by rw [hg2]) ?_
   have hg2':=hg2
   simp only [jK] at hg2'
   exact Au (v:=(pP b1 2)) O (AD (j:=2) O O underlying105 sizeOf3 O jY O) (Au (v:=(vN t.2.2)) O (AE (i:=0) (v:=(vN t.2.2)) O O BN.a O) (Au (v:=(vN n)) O (AK (q:=some ⟨bo.b,0,none⟩) (v:=(vN n)) (off:=0) (i:=1) O O (λe=>by cases e) BN O) (zd (v:=(qa (decide (t.2.2<n)))) (AH O) (Aw (args:=[(vN t.2.2),(vN n)]) O O call148) (λw hw=>MD t.2.2 n w) O (Av O) (Au (v:=(qa (!(decide (t.2.2<n))))) O (BQ (c:=(!(decide (t.2.2<n)))) O O) (AG (v:=(qa (!(decide (t.2.2<n))))) (AI O O) O (oNl' (zR EQ (xP _))))))))
 refine AM O ?_
 refine zX (FM:=[(1,(pP bo.b 0)),(2,(pP b1 0)),(3,(qa false)),(4,(pP b1 0)),(5,(vN t.1)),(6,(vN n)),(7,(qa (decide (t.1<n)))),(8,(qa (!(decide (t.1<n))))),(9,(qa (!(decide (t.1<n))))),(15,(qa ((!(decide (t.1<n)))||(!(decide (t.2.1<n)))))),(16,(qa ((!(decide (t.1<n)))||(!(decide (t.2.1<n)))))),(22,(qa (((!(decide (t.1<n)))||(!(decide (t.2.1<n))))||(!(decide (t.2.2<n)))))),(23,(qa (((!(decide (t.1<n)))||(!(decide (t.2.1<n))))||(!(decide (t.2.2<n)))))),(29,(qa ((((!(decide (t.1<n)))||(!(decide (t.2.1<n))))||(!(decide (t.2.2<n))))||(decide (t.1=t.2.1)))))]) (LM:=[AR b1 105 (Ac t),AB (some ⟨bo.b,0,none⟩) ([(vN n)])]) 6 ?_ ?_
 ·rcases xO (((!(decide (t.1<n)))||(!(decide (t.2.1<n))))||(!(decide (t.2.2<n)))) with hg3|hg3
  ·refine zC (k:=23) (u:=qa true) O (by rw [hg3]) ?_
   have hg3':=hg3
   simp only [jK] at hg3'
   exact Ar O (Ar O (Ar O (Ar O (Ar O (AG (v:=(qa true)) (AN O O) O (oNl' (zR Hz (xP _))))))))
  ·refine zC (k:=23) (u:=qa false) O (by rw [hg3]) ?_
   have hg3':=hg3
   simp only [jK] at hg3'
   exact Au (v:=(pP b1 0)) O (AD (j:=0) O O underlying105 sizeOf3 O jY O) (Au (v:=(vN t.1)) O (AE (i:=0) (v:=(vN t.1)) O O BN.a O) (Au (v:=(pP b1 1)) O (AD (j:=1) O O underlying105 sizeOf3 O jY O) (Au (v:=(vN t.2.1)) O (AE (i:=0) (v:=(vN t.2.1)) O O BN.a O) (Au (v:=(qa (decide (t.1=t.2.1)))) O (BO (c:=(decide (t.1=t.2.1))) O O (Mf (a:=t.1) (b:=t.2.1))) (AG (v:=(qa (decide (t.1=t.2.1)))) (AI O O) O (oNl' (zR Hz (xP _))))))))
 refine AM O ?_
 refine zX (FM:=[(1,(pP bo.b 0)),(2,(pP b1 0)),(3,(qa false)),(4,(pP b1 0)),(5,(vN t.1)),(6,(vN n)),(7,(qa (decide (t.1<n)))),(8,(qa (!(decide (t.1<n))))),(9,(qa (!(decide (t.1<n))))),(15,(qa ((!(decide (t.1<n)))||(!(decide (t.2.1<n)))))),(16,(qa ((!(decide (t.1<n)))||(!(decide (t.2.1<n)))))),(22,(qa (((!(decide (t.1<n)))||(!(decide (t.2.1<n))))||(!(decide (t.2.2<n)))))),(23,(qa (((!(decide (t.1<n)))||(!(decide (t.2.1<n))))||(!(decide (t.2.2<n)))))),(29,(qa ((((!(decide (t.1<n)))||(!(decide (t.2.1<n))))||(!(decide (t.2.2<n))))||(decide (t.1=t.2.1))))),(30,(qa ((((!(decide (t.1<n)))||(!(decide (t.2.1<n))))||(!(decide (t.2.2<n))))||(decide (t.1=t.2.1))))),(36,(qa (((((!(decide (t.1<n)))||(!(decide (t.2.1<n))))||(!(decide (t.2.2<n))))||(decide (t.1=t.2.1)))||(decide (t.2.1=t.2.2)))))]) (LM:=[AR b1 105 (Ac t),AB (some ⟨bo.b,0,none⟩) ([(vN n)])]) 6 ?_ ?_
 ·rcases xO ((((!(decide (t.1<n)))||(!(decide (t.2.1<n))))||(!(decide (t.2.2<n))))||(decide (t.1=t.2.1))) with hg4|hg4
  ·refine zC (k:=30) (u:=qa true) O (by rw [hg4]) ?_
   have hg4':=hg4
   simp only [jK] at hg4'
   exact Ar O (Ar O (Ar O (Ar O (Ar O (AG (v:=(qa true)) (AN O O) O (oNl' (zR KN (xP _))))))))
  ·refine zC (k:=30) (u:=qa false) O (by rw [hg4]) ?_
   have hg4':=hg4
   simp only [jK] at hg4'
   exact Au (v:=(pP b1 1)) O (AD (j:=1) O O underlying105 sizeOf3 O jY O) (Au (v:=(vN t.2.1)) O (AE (i:=0) (v:=(vN t.2.1)) O O BN.a O) (Au (v:=(pP b1 2)) O (AD (j:=2) O O underlying105 sizeOf3 O jY O) (Au (v:=(vN t.2.2)) O (AE (i:=0) (v:=(vN t.2.2)) O O BN.a O) (Au (v:=(qa (decide (t.2.1=t.2.2)))) O (BO (c:=(decide (t.2.1=t.2.2))) O O (Mf (a:=t.2.1) (b:=t.2.2))) (AG (v:=(qa (decide (t.2.1=t.2.2)))) (AI O O) O (oNl' (zR KN (xP _))))))))
 refine AM O ?_
 refine zX (FM:=[(1,(pP bo.b 0)),(2,(pP b1 0)),(3,(qa false)),(4,(pP b1 0)),(5,(vN t.1)),(6,(vN n)),(7,(qa (decide (t.1<n)))),(8,(qa (!(decide (t.1<n))))),(9,(qa (!(decide (t.1<n))))),(15,(qa ((!(decide (t.1<n)))||(!(decide (t.2.1<n)))))),(16,(qa ((!(decide (t.1<n)))||(!(decide (t.2.1<n)))))),(22,(qa (((!(decide (t.1<n)))||(!(decide (t.2.1<n))))||(!(decide (t.2.2<n)))))),(23,(qa (((!(decide (t.1<n)))||(!(decide (t.2.1<n))))||(!(decide (t.2.2<n)))))),(29,(qa ((((!(decide (t.1<n)))||(!(decide (t.2.1<n))))||(!(decide (t.2.2<n))))||(decide (t.1=t.2.1))))),(30,(qa ((((!(decide (t.1<n)))||(!(decide (t.2.1<n))))||(!(decide (t.2.2<n))))||(decide (t.1=t.2.1))))),(36,(qa (((((!(decide (t.1<n)))||(!(decide (t.2.1<n))))||(!(decide (t.2.2<n))))||(decide (t.1=t.2.1)))||(decide (t.2.1=t.2.2))))),(37,(qa (((((!(decide (t.1<n)))||(!(decide (t.2.1<n))))||(!(decide (t.2.2<n))))||(decide (t.1=t.2.1)))||(decide (t.2.1=t.2.2))))),(43,(qa ((((((!(decide (t.1<n)))||(!(decide (t.2.1<n))))||(!(decide (t.2.2<n))))||(decide (t.1=t.2.1)))||(decide (t.2.1=t.2.2)))||(decide (t.2.2=t.1)))))]) (LM:=[AR b1 105 (Ac t),AB (some ⟨bo.b,0,none⟩) ([(vN n)])]) 6 ?_ ?_
 ·rcases xO (((((!(decide (t.1<n)))||(!(decide (t.2.1<n))))||(!(decide (t.2.2<n))))||(decide (t.1=t.2.1)))||(decide (t.2.1=t.2.2))) with hg5|hg5
  ·refine zC (k:=37) (u:=qa true) O (by rw [hg5]) ?_
   have hg5':=hg5
   simp only [jK] at hg5'
   exact Ar O (Ar O (Ar O (Ar O (Ar O (AG (v:=(qa true)) (AN O O) O (oNl' (zR J5 (xP _))))))))
  ·refine zC (k:=37) (u:=qa false) O (by rw [hg5]) ?_
   have hg5':=hg5
   simp only [jK] at hg5'
   exact Au (v:=(pP b1 2)) O (AD (j:=2) O O underlying105 sizeOf3 O jY O) (Au (v:=(vN t.2.2)) O (AE (i:=0) (v:=(vN t.2.2)) O O BN.a O) (Au (v:=(pP b1 0)) O (AD (j:=0) O O underlying105 sizeOf3 O jY O) (Au (v:=(vN t.1)) O (AE (i:=0) (v:=(vN t.1)) O O BN.a O) (Au (v:=(qa (decide (t.2.2=t.1)))) O (BO (c:=(decide (t.2.2=t.1))) O O (Mf (a:=t.2.2) (b:=t.1))) (AG (v:=(qa (decide (t.2.2=t.1)))) (AI O O) O (oNl' (zR J5 (xP _))))))))
 exact asg' O (oNl' (zB (sL [3] O) (zA (zF (ret_one O (rd_tmp (v:=(qa ((((((!(decide (t.1<n)))||(!(decide (t.2.1<n))))||(!(decide (t.2.2<n))))||(decide (t.1=t.2.1)))||(decide (t.2.1=t.2.2)))||(decide (t.2.2=t.1))))) O) (λw hw=>⟨by congr 2;rw [Bool.eq_iff_iff];simp [On]<;>omega,hw.out⟩))))))
theorem aD (n:Nat) (bo:BX [vN n]) (ts:List (Tq3)) (x:RX (rowsL Ac ts) ts.length) (hl:ts.length<4611686018427387904) (w:World) {S:Nat->Prop} (hbo:Ro S w bo) (hx:Ro S w x):Calls prog 218 #[(qw x.p ts.length x.c),(Value.func (.func 174) #[] #[(pP bo.b 0)])] w (Ak w (vI (idxB n ts 0))):=by
 have lbo:=Bx (W:=w) hbo
 have lx:=Bx (W:=w) hx
 refine AX (args:=[(qw x.p ts.length x.c),(Value.func (.func 174) #[] #[(pP bo.b 0)])]) (L:=[AB (some ⟨bo.b,0,none⟩) ([(vN n)]),AB x.p (rowsL Ac ts)]) func218 O O (Av O) (DF hbo (DF hx Ah)) (zN (sL [0,1] O) (q4 (asg' O (oNl' (q1 (q4 (AM O (AG (v:=(vN ts.length)) (AC O underlying23) O (AM O (oNl' (zB (sL [0,1,4,7,8] O) ?_)))))))))))
 refine zA (zI ?_)
 refine zo (tg λ(j:Nat)=>j<=ts.length/\idxB n ts 0=idxB n (ts.drop j) j) (tg λ(j:Nat)=>[(0,(qw x.p ts.length x.c)),(1,(Value.func (.func 174) #[] #[(pP bo.b 0)])),(7,(vN ts.length)),(8,(vN j))]) (tg λ(j:Nat)=>[AB (some ⟨bo.b,0,none⟩) ([(vN n)]),AB x.p (rowsL Ac ts)]) (tg λ(j:Nat)=>ts.length-j) 0 (⟨xH _,rfl⟩) (sF O) sr (λj hJ=>?_)
 obtain ⟨hj,he⟩:=hJ
 refine q4 (AG (Ae (c:=(decide (j<ts.length))) O O (CM (a:=j) (b:=ts.length))) O (oNl' (q1 ?_)))
 refine zM O (λhc0=>?_) (λhc0=>?_)
 ·replace hc0:=xR hc0
  refine zG (q1 (zI (q4 (AM O (asg' O (q3 (sL [0,1,7,8,5] O) (AM O (AM O (AM O (AG (v:=(pP (pB x.p) (pO x.p+j*3))) (AF (j:=j) O O x.ok underlying23 sizeOf105 O Z) O (AG (v:=(aG (Ac (ts.getD j jJ)))) (AQ (vs:=Ac (ts.getD j jJ)) (i:=1) O O (An.ne x.ok Z) B_ (Al Am _ _ _ Z) (Am _)) O ?_)))))))))))
  refine zd (v:=(qa (!On n (ts.getD j jJ)))) (AJ O) (DM (args:=[(aG (Ac (ts.getD j jJ)))]) (caps:=[(pP bo.b 0)]) (all:=[(aG (Ac (ts.getD j jJ))),(pP bo.b 0)]) O O O call174) (λw hw=>VP (ts.getD j jJ) n bo w (inS hw 0 O lbo)) O (Av O) (oNl' (zB (sL [0,1,7,8,5,16] O) (zA ?_)))
  refine zM O (λhc1=>?_) (λhc1=>?_)
  ·simp only [jK] at hc1
   have hfin:=he.trans (Ws Z (by simpa using hc1))
   exact q4 (AM O (asg' O (oNl' (zB (sL [0,1,7,8,5,4] O) (zA (zF (zY (zO (zk (zY (zO (ret_one O (rd_tmp (v:=(vN j)) O) (λw hw=>⟨by rw [hfin],hw.out⟩)))))))))))))
  ·simp only [jK] at hc1
   exact zG (zJ (zA (zH (AG (AW (c:=((j+1:Nat):Int)) O O (AU (a:=j) (b:=1) Z)) O (AM O (oNl' (zB (sL [0,1,7,8,5] O) (zc (j+1) (⟨Z,he.trans (TL Z (by simpa using hc1))⟩) Z (sF O) sr))))))))
 ·replace hc0:=xQ hc0
  have hfin:=he.trans (VI hc0)
  exact zU (zP (za (zS (q2 (asg' O (oNl' (zA (zF (ret_one O (rd_tmp (v:=(vI (-1:Int))) O) (λw hw=>⟨by rw [hfin],hw.out⟩))))))))))
theorem X8 (n:Nat) (bo:BX [vN n]) (ts:List (Tq3)) (x:RX (rowsL Ac ts) ts.length) (hl:ts.length<4611686018427387904) (w:World) {S:Nat->Prop} (hbo:Ro S w bo) (hx:Ro S w x):Calls prog 173 #[(qw x.p ts.length x.c),(Value.func (.func 174) #[] #[(pP bo.b 0)])] w (Ak w (qa (!Bu n ts))):=by
 have lbo:=Bx (W:=w) hbo
 have lx:=Bx (W:=w) hx
 refine AX (args:=[(qw x.p ts.length x.c),(Value.func (.func 174) #[] #[(pP bo.b 0)])]) (L:=[AB (some ⟨bo.b,0,none⟩) ([(vN n)]),AB x.p (rowsL Ac ts)]) func173 O O (Av O) (DF hbo (DF hx Ah)) (zN (sL [0,1] O) (q4 (asg' O (oNl' (q2 (AM O (AM O (Ct call218 (λw hw=>aD n bo ts x hl w (inS hw 0 O lbo) (inS hw 1 O lx)) O (AG (Bp (c:=(!Bu n ts)) O O (My n ts 0)) O (asg' O (oNl' ?_)))))))))))
 exact zB (sL [4] O) (zA (zF (ret_one O (rd_tmp (v:=(qa (!Bu n ts))) O) (λw hw=>⟨rfl,hw.out⟩))))
theorem Sc (n:Nat) (ts:List (Tq3)) (x:RX (rowsL Ac ts) ts.length) (hl:ts.length<4611686018427387904) (w:World) {S:Nat->Prop} (hx:Ro S w x):Calls prog 110 #[(qw x.p ts.length x.c),(vN n)] w (Ak w (qa (Bu n ts))):=by
 have lx:=Bx (W:=w) hx
 refine AX (args:=[(qw x.p ts.length x.c),(vN n)]) (L:=[AB x.p (rowsL Ac ts)]) func110 O O (Av O) (DF hx Ah) (zN (sL [0,1] O) (q4 (Bb (cs:=[(vN n)]) O λb1=>yn 0 O O λhnb1=>asg' O (q3 (sL [0,3,4] O) (AM O (AG (v:=(Value.func (.func 174) #[] #[(pP b1 0)])) (Dl (vs:=[]) (us:=[(pP b1 0)]) O O) O (Ct call173 (λw hw=>X8 n ⟨b1⟩ ts x hl w (dW (x:=(⟨b1⟩:BX [vN n])) hw 0 O hnb1) (inS hw 1 O lx)) O (AG (BQ (c:=(!(!Bu n ts))) O O) O (asg' O ?_)))))))))
 exact oNl' (zB (sL [4] O) (zA (zF (ret_one O (rd_tmp (v:=(qa (!(!Bu n ts)))) O) (λw hw=>⟨by simp,hw.out⟩)))))
theorem Nd {N:Nat} {ts ss:List (Tq3)} (x:RM N ts ss) (hl:ts.length<4611686018427387904) (w:World) {S:Nat->Prop} (hx:Ro S w x):Calls prog 43 #[(aG (Dk x))] w (Ak w (qa (Bu N ts))):=by
 have lx:=Bx (W:=w) hx
 refine AX (args:=[(aG (Dk x))]) (L:=[AB x.a.p (x.cs),AB x.b.p (rowsL Ac ts),AB x.c.p (x.ds)]) func43 O O (Av O) (DF hx Ah) (zN (sL [0] O) (q4 (Bb (cs:=Dk x) O λb1=>asg' O (q3 (sL [1,2] O) (AG (v:=(pP b1 1)) (AA O underlying30 O sizeOf23 O) O (Az 0 (qw x.b.p ts.length x.b.c) B1 O (AG (v:=(pP b1 0)) (AA O underlying30 O sizeOf28 O) O (Az 0 (qw x.a.p N x.a.c) GG O (AG (v:=(vN N)) (AC O underlying28) O (Ct call110 (λw hw=>Sc N ts x.b hl w (cE (inS hw 1 O lx))) O ?_))))))))))
 exact asg' O (oNl' (zB (sL [2] O) (zA (zF (ret_one O (rd_tmp (v:=(qa (Bu N ts))) O) (λw hw=>⟨rfl,hw.out⟩))))))
end
section
set_option maxRecDepth 100000
theorem Ul (a:Nat) (w:World)  :Calls prog 216 #[(vN a)] w (Ak w (qa false)):=by
 refine Ab (args:=[(vN a)]) func216 O O (Av O) (zN (sL [0] O) (q4 (asg' O (oNl' (q2 (AM O (AM O (AG (Bt (c:=false) O O jX) O (asg' O (oNl' (zB (sL [2] O) ?_)))))))))))
 exact zA (zF (ret_one O (rd_tmp (v:=(qa false)) O) (λw hw=>⟨rfl,hw.out⟩)))
theorem ST (a b:Nat) (w:World)  :Calls prog 170 #[(vN a),(vN b)] w (Ak w (vI (Er a b))):=by
 refine Ab (args:=[(vN a),(vN b)]) func170 O O (Av O) (zN (sL [0,1] O) (q4 (asg' O (oNl' (q2 (AM O (ck' call216 (Ul a) O (asg' O (q3 (sL [0,1,4,5] O) (AM O (ck' call216 (Ul b) O ?_)))))))))))
 refine asg' O (q6 (sL [0,1,4,5,6] O) (q4 (AM O (oNl' (zB (sL [0,1,4,6,11] O) (zA (zb O (zG (q1 (q4 (AM O ?_)))))))))))
 refine oNl' (zB (sL [0,1,4,6,13] O) (zA (zb O (zG (q1 (q4 (AM O (AM O (AG (Ae (c:=(decide (a<b))) O O (CM (a:=a) (b:=b))) O (oNl' (zB (sL [0,1,4,6,16] O) ?_)))))))))))
 refine zA ?_
 refine zM O (λhc3=>?_) (λhc3=>?_)
 ·replace hc3:=xR hc3
  have hr:=S1 hc3
  exact q4 (asg' O (oNl' (zA (zF (zO (ret_one O (rd_tmp (v:=(vI (-1:Int))) O) (λw hw=>⟨by rw [hr]<;>rfl,hw.out⟩)))))))
 ·replace hc3:=xQ hc3
  refine zG (q1 (q4 (AM O (AM O (AG (Bv (c:=(decide (b<a))) O O (CM (a:=b) (b:=a))) O (oNl' (zB (sL [0,1,4,6,19] O) (zA ?_))))))))
  refine zM O (λhc4=>?_) (λhc4=>?_)
  ·replace hc4:=xR hc4
   have hr:=SJ hc3 hc4
   exact q4 (asg' O (oNl' (zA (zF (zO (ret_one O (rd_tmp (v:=(vI 1)) O) (λw hw=>⟨by rw [hr]<;>rfl,hw.out⟩)))))))
  ·replace hc4:=xQ hc4
   have hr:=Sn hc3 hc4
   exact zG (q2 (asg' O (oNl' (zA (zF (ret_one O (rd_tmp (v:=(vI 0)) O) (λw hw=>⟨by rw [hr]<;>rfl,hw.out⟩)))))))
theorem WH (a b:Int) (g:Nat) (w:World) (hg:w.heap[g]?=some (.cells ([(vI a),(vI b)]).toArray 3 (0,0))):Calls prog 169 #[(qw (jk g) 2 2)] w (λe w'=>e=.returned (Value.int .i64 (We a b))/\Mm w w' (some g)/\w'.heap[g]?=some (.cells ([(vI a),(vI b)]).toArray 3 (0,0))):=by
 refine JW (args:=[(qw (jk g) 2 2)]) (g:=g) (T:=3) (cs:=[(vI a),(vI b)]) func169 O O (Av O) hg (zN (sL [0] O) (q4 (asg' O (oNl' (q2 (asg' O (oNl' (q1 (q4 (AM O (AG (v:=(vI 2)) (AC O underlying32) O ?_)))))))))))
 refine AM O (oNl' (zB (sL [2,3,6,7,8] O) (zA (zI (yd 4 (z6 (q4 (AG (Ae (c:=true) O O jY) O (oNl' (q1 (ze O ?_)))))))))))
 refine zG (q1 (zI (q4 (AG (v:=(pP g 0)) (AO (j:=0) O O underlying32 sizeOf3 O Z O) O (Az 0 (vI a) BN O (asg' O (q3 (sL [2,3,6,7,8,5] O) (AM O (AM O (AG (Bt (c:=(decide (a≠(0:Int)))) O O O) O (oNl' ?_)))))))))))
 refine zB (sL [2,3,6,7,8,5,14] O) (zA ?_)
 refine zM O (λhc1=>?_) (λhc1=>?_)
 ·replace hc1:=xR hc1
  have hr:We a b=a:=if_pos hc1
  exact q4 (AM O (asg' O (oNl' (zB (sL [2,3,6,7,8,5] O) (zA (zF (zY (zO (zO (zY (zO (ret_one O (rd_tmp (v:=(vI a)) O) (λw hw=>⟨by rw [hr]<;>rfl,hw.1,hw.get (i:=0) O⟩)))))))))))))
 ·replace hc1:=xQ hc1
  have hq:=hc1
  refine zG (zJ (zA (zH (AG (AW (c:=(1:Int)) O O jY) O (AM O (oNl' (zB (sL [2,3,6,7,8,5] O) (yD (z6 (q4 (AG (Ae (c:=true) O O jY) O ?_)))))))))))
  refine oNl' (q1 (ze O (zG (q1 (zI (q4 (AG (v:=(pP g 1)) (AO (j:=1) O O underlying32 sizeOf3 O Z O) O (Az 0 (vI b) BN O (asg' O (q3 (sL [2,3,6,7,8,5] O) (AM O ?_)))))))))))
  refine AM O (AG (Bt (c:=(decide (b≠(0:Int)))) O O O) O (oNl' (zB (sL [2,3,6,7,8,5,14] O) (zA ?_))))
  refine zM O (λhc1=>?_) (λhc1=>?_)
  ·replace hc1:=xR hc1
   have hr:We a b=b:=by rw [We,if_neg hq,if_pos hc1]
   exact q4 (AM O (asg' O (oNl' (zB (sL [2,3,6,7,8,5] O) (zA (zF (zY (zO (zO (zY (zO (ret_one O (rd_tmp (v:=(vI b)) O) (λw hw=>⟨by rw [hr]<;>rfl,hw.1,hw.get (i:=0) O⟩)))))))))))))
  ·replace hc1:=xQ hc1
   have hr:We a b=0:=by rw [We,if_neg hq,if_neg hc1]
   refine zG (zJ (zA (zH (AG (AW (c:=(2:Int)) O O jY) O (AM O (oNl' (zB (sL [2,3,6,7,8,5] O) (yD (z6 (q4 (AG (Ae (c:=false) O O jY) O ?_)))))))))))
   refine oNl' (q1 (zb O (zU (zP (zP (zS (q2 (AM O (asg' O (oNl' (zB (sL [2,3,6,7,8,5] O) ?_)))))))))))
   exact zA (zF (ret_one O (rd_tmp (v:=(vI 0)) O) (λw hw=>⟨by rw [hr]<;>rfl,hw.1,hw.get (i:=0) O⟩)))
end
end Go.Proofs.YtpolhpjiahbidaaGreatDoor
