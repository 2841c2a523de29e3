import Derived.Test.YtcpkbjjmcleplaaGreatDoorRows
import Derived.Test.YtcpkbjjmcleplaaGreatDoorPart17
namespace Go.Proofs.YtcpkbjjmcleplaaGreatDoor
open Go Go.RowKit Go.Proofs.Tryz
open Go.Value renaming slice→qz,bool→qa
set_option linter.unusedVariables false
set_option linter.unusedSimpArgs false
section
structure QD where
  n:Int
  d:Nat
structure PD where
  x:QD
  y:QD
def IE (q:QD):List Value:=[.int .i64 q.n,.int .u32 (q.d:Nat)]
def Cn (p:PD):List Value:=IE p.x++IE p.y
def QD.ok (q:QD):Prop := -9223372036854775808<=q.n/\q.n<9223372036854775808/\q.d<4294967296
def PD.ok (p:PD):Prop:=p.x.ok/\p.y.ok
def L9 (q:QD):Rat:=((q.n:Int):Rat)/(((max q.d 1:Nat):Int):Rat)
def Gh (p:PD):Pt:=⟨L9 p.x,L9 p.y⟩
theorem UX {q:QD} (h:q.ok):Sz (L9 q)<=4:=by
  obtain ⟨h1,h2,h3⟩:=h
  have s1:=H3 h1 h2
  have s2:=H3 (z:=((max q.d 1:Nat):Int)) Z Z
  have hb:(((max q.d 1:Nat):Int):Rat)≠0:=λe=>by
    have:((max q.d 1:Nat):Int)=0:=by exact_mod_cast e
    omega
  have:=HA (a:=((q.n:Int):Rat)) hb
  unfold L9
  omega
theorem IT {p:PD} (h:p.ok):BD (Gh p)<=4:=NK (UX h.1) (UX h.2)
section
variable {P:Program} {w:World} {r:Reach} {base:Nat}
def OE:List IntKind->List Int->List Value
  | k::ks,n::ns=>.int k n::OE ks ns
  | _,_=>[]
def H2:List IntKind->List Int->Prop
  | [],[]=>True
  | k::ks,n::ns=>k.has n/\H2 ks ns
  | _,_=>False
theorem Kl:∀(ts:List TypeId) (ks:List IntKind) (cs:List Value),ts.map P.underlying=ks.map (λk=>some (.int k))->cs.length=ts.length ->
    (∀(i:Nat) v,cs[i]?=some v->∃u,ts[i]?=some u/\Cell.okWide P w r base u v)->∃ns,cs=OE ks ns/\H2 ks ns
  | [],[],[],_,_,_=>⟨[],rfl,trivial⟩
  | t::ts,k::ks,c::cs,hk,hl,hc=>by
    simp only [List.map_cons,List.cons.injEq] at hk
    obtain ⟨ns,hns,hh⟩:=Kl ts ks cs hk.2 (by simpa using hl) (λi v hv=>by simpa using hc (i+1) v (by simpa using hv))
    obtain ⟨u,hu,ho⟩:=hc 0 c jX
    simp only [List.getElem?_cons_zero,Option.some.injEq] at hu
    subst hu
    simp only [Cell.okWide,hk.1] at ho
    have ho':∃n,c=.int k n/\k.has n:=by
      unfold Cell.ok at ho
      rw [hk.1] at ho
      cases c<;>simp at ho
      exact ⟨_,by rw [ho.1],ho.2⟩
    obtain ⟨n,rfl,hn⟩:=ho'
    exact ⟨n::ns,by rw [hns];rfl,hn,hh⟩
  | [],_::_,_,hk,_,_=>by simp at hk
  | _::_,[],_,hk,_,_=>by simp at hk
  | _::_,_::_,[],_,hl,_=>by simp at hl
  | [],[],_::_,_,hl,_=>by simp at hl
theorem Ui {t:TypeId} {v:Value} {ts:List TypeId} (ks:List IntKind) (hag:(match P.underlying t with|some (.struct _)=>true|some (.array _ _)=>true|_=>false)=true) (hts:P.cellTypes P.depth t=some ts) (hsz:P.cellsOf t=ts.length)
    (hk:ts.map P.underlying=ks.map (λk=>some (.int k))) (hv:Value.okWide P w r base t v):∃ns,v=.agg (OE ks ns).toArray/\H2 ks ns:=by
  have h1:∃cs,v=.agg cs/\cs.size=P.cellsOf t/\Row.okWide P w r base t cs:=by
    unfold Value.okWide at hv
    split at hv
    · exact hv
    · exact hv
    · rename_i h2 h3
      split at hag
      · rename_i e;exact absurd e (h2 _)
      · rename_i e;exact absurd e (h3 _ _)
      · cases hag
  obtain ⟨cs,rfl,hs,ts',hts',⟨n,hn⟩,hc⟩:=h1
  obtain rfl:=Option.some.inj (hts.symm.trans hts')
  obtain ⟨ns,h2,h3⟩:=Kl (P:=P) (w:=w) (r:=r) (base:=base) ts ks cs.toList hk (by simp [hs,hsz]) (λi v hv=>by
    have hlt:i<ts.length:=by
      rcases Nat.lt_or_ge i cs.toList.length with h|h
      · simpa [hs,hsz] using h
      · rw [List.getElem?_eq_none h] at hv;cases hv
    have:=hc i v (by simpa using hv)
    rwa [Nat.mod_eq_of_lt hlt] at this)
  exact ⟨ns,by rw [<-h2],h3⟩
end
theorem Rk {n:Int} (h:IntKind.i64.has n):-9223372036854775808<=n/\n<9223372036854775808:=by
  simp only [IntKind.has,IntKind.min,IntKind.max,IntKind.bits,IntKind.signed] at h;simp at h;omega
theorem SR {n:Int} (h:IntKind.u32.has n):0<=n/\n<4294967296:=by
  simp only [IntKind.has,IntKind.min,IntKind.max,IntKind.bits,IntKind.signed] at h;simp at h;omega
theorem Zg {ks:List IntKind}:∀{ns:List Int},H2 (.i64::.u32::ks) ns->∃(q:QD) (ms:List Int),q.ok/\OE (.i64::.u32::ks) ns=IE q++OE ks ms/\H2 ks ms
  | [],h=>h.elim
  | [_],h=>h.2.elim
  | a::b::ms,h=>by
    have h1:=Rk h.1
    have h2:=SR h.2.1
    refine ⟨⟨a,b.toNat⟩,ms,⟨h1.1,h1.2,by show b.toNat<_;omega⟩,?_,h.2.2⟩
    simp only [OE,IE,List.cons_append,List.nil_append]
    rw [Int.toNat_of_nonneg h2.1]
theorem V1 {ks:List IntKind} {ns:List Int} (h:H2 (.i64::.u32::.i64::.u32::ks) ns):∃(p:PD) (ms:List Int),p.ok/\OE (.i64::.u32::.i64::.u32::ks) ns=Cn p++OE ks ms/\H2 ks ms:=by
  obtain ⟨q,ms,hq,e,h1⟩:=Zg h
  obtain ⟨q',ms',hq',e',h2⟩:=Zg h1
  exact ⟨⟨q,q'⟩,ms',⟨hq,hq'⟩,by rw [e,e',Cn,List.append_assoc],h2⟩
def kQ:List IntKind:=[.i64,.u32]
theorem W_ (ms:List Int):OE [] ms=[]:=by cases ms<;>rfl
section
variable {P:Program} {w:World} {r:Reach} {base:Nat} {t:TypeId} {v:Value} {ts:List TypeId}
theorem Zu (hag:(match P.underlying t with|some (.struct _)=>true|some (.array _ _)=>true|_=>false)=true) (hts:P.cellTypes P.depth t=some ts) (hsz:P.cellsOf t=ts.length)
    (hk:ts.map P.underlying=(kQ++kQ++kQ++kQ++kQ++kQ).map (λk=>some (.int k))) (hv:Value.okWide P w r base t v):∃p0 p1 p2:PD,p0.ok/\p1.ok/\p2.ok/\v=.agg (Cn p0++Cn p1++Cn p2).toArray:=by
  obtain ⟨ns,rfl,h⟩:=Ui _ hag hts hsz hk hv
  obtain ⟨p0,m0,h0,e0,h⟩:=V1 (ks:=kQ++kQ++kQ++kQ) h
  obtain ⟨p1,m1,h1,e1,h⟩:=V1 (ks:=kQ++kQ) h
  obtain ⟨p2,m2,h2,e2,h⟩:=V1 (ks:=[]) h
  exact ⟨p0,p1,p2,h0,h1,h2,by rw [show kQ++kQ++kQ++kQ++kQ++kQ=.i64::.u32::.i64::.u32::(kQ++kQ++kQ++kQ) from O,e0,show kQ++kQ++kQ++kQ=.i64::.u32::.i64::.u32::(kQ++kQ) from O,e1,show kQ++kQ=[.i64,.u32,.i64,.u32] from O,e2,W_];simp⟩
end
end
section
def rowsL {α:Type} (enc:α->List Value) (xs:List α):List Value:=xs.flatMap enc
section
variable {α:Type} {enc:α->List Value} {z:Nat}
theorem BM (xs ys:List α):rowsL enc (xs++ys)=rowsL enc xs++rowsL enc ys:=by simp [rowsL]
theorem AV (h:∀x,(enc x).length=z) (xs:List α):(rowsL enc xs).length=xs.length*z:=by
  induction xs with
  | nil=>simp [rowsL]
  | cons x r ih =>
    have e:rowsL enc (x::r)=enc x++rowsL enc r:=rfl
    rw [e,xJ,ih,h,List.length_cons,Nat.add_mul];omega
theorem BG (h:∀x,(enc x).length=z) (d:α):∀(xs:List α) (j:Nat),j<xs.length->((rowsL enc xs).drop (j*z)).take z=enc (xs.getD j d)
  | x::r,0,_=>by
    have e:rowsL enc (x::r)=enc x++rowsL enc r:=rfl
    rw [e,Nat.zero_mul,List.drop_zero,List.take_append_of_le_length (by rw [h];exact Nat.le_refl _),List.take_of_length_le (by rw [h];exact Nat.le_refl _)];rfl
  | x::r,j+1,hj=>by
    have e:rowsL enc (x::r)=enc x++rowsL enc r:=rfl
    rw [e,show (j+1)*z=(enc x).length+j*z by rw [h,Nat.add_mul];omega,List.drop_append,List.drop_of_length_le Z,Nat.add_sub_cancel_left,List.nil_append,BG h d r j (by simpa using hj)];rfl
end
structure RX (cs:List Value) (n:Nat) where
  p:Option Addr
  c:Nat
  ok:BI p n c
@[reducible] def RX.val {cs:List Value} {n:Nat} (a:RX cs n):Value:=.slice a.p n a.c
@[reducible] def RX.row {cs:List Value} {n:Nat} (a:RX cs n):As:=AI a.p cs
instance {cs:List Value} {n:Nat}:CT (RX cs n):=⟨λa=>.slice a.p n a.c,λa=>[AI a.p cs],λa y hy=>by rcases xM.1 hy with rfl;rfl⟩
def eG (xs:List Nat):List Value:=xs.map λx=>Value.int .u8 (x:Nat)
structure MQ where
  nx:Nat
  ny:Nat
  cs:List Nat
  p:Option Addr
  cap:Nat
  a:Int
  b:Int
  c:Int
  d:Int
  den:Nat
  fst:Nat
  hx:nx<256
  hy:ny<256
  ha:-128<=a/\a<=127
  hb:-128<=b/\b<=127
  hc:-128<=c/\c<=127
  hd:-128<=d/\d<=127
  hden:den<256
  hfst:fst<256
  hcs:∀x∈cs,x<256
  ok:BI p cs.length cap
def gD (m:MQ):List Value:=[.int .u8 m.nx,.int .u8 m.ny,.slice m.p m.cs.length m.cap,.int .i8 m.a,.int .i8 m.b,.int .i8 m.c,.int .i8 m.d,.int .u8 m.den,.int .u8 m.fst]
instance:CT MQ:=⟨λm=>aG (gD m),λm=>[AI m.p (eG m.cs)],λa y hy=>by rcases xM.1 hy with rfl;rfl⟩
abbrev P2:=Nat×Nat
def be (nx way i:Nat):List (P2×P2×P2) :=
  let x:=2*(i%nx);let y:=2*(i/nx)
  if way<3\/(way=7/\i=0) then [((x,y),(x+2,y),(x+2,y+2)),((x,y),(x+2,y+2),(x,y+2))]
  else if way<5 then [((x,y),(x+2,y),(x,y+2)),((x+2,y),(x+2,y+2),(x,y+2))]
  else if way<7 then [((x,y),(x+2,y),(x+1,y+1)),((x+2,y),(x+2,y+2),(x+1,y+1)),((x+2,y+2),(x,y+2),(x+1,y+1)),((x,y+2),(x,y),(x+1,y+1))] else []
section
variable {nx way i u v:Nat}
end
def ej (p:P2):List Value:=[vN p.1,vN p.2]
def Bk (t:Tq3):List Value:=[vN t.1,vN t.2.1,vN t.2.2]
theorem Gs (t:Tq3):(Bk t).length=3:=rfl
def ec (z:Int×Int):List Value:=[.int .i64 z.1,.int .i64 z.2]
def fN (m:MQ) (i:Nat):Nat:=if 0<m.cs.length then m.cs.getD (i%m.cs.length) 0%8 else 0
def fd (m:MQ):Nat:=1+m.nx%3
def gE (m:MQ):Nat:=1+m.ny%3
def Up (m:MQ):Nat->List (P2×P2×P2)
  | 0=>[]
  | i+1=>Up m i++be (fd m) (fN m i) i
def JA (m:MQ):List (P2×P2×P2):=Up m (fd m*gE m)
structure Pv where
  a:Int
  b:Int
  c:Int
  d:Int
def Pv.det (k:Pv):Int:=k.a*k.d-k.b*k.c
def Pv.at_ (k:Pv) (p:P2):Int×Int:=(k.a*p.1+k.b*p.2,k.c*p.1+k.d*p.2)
def eU (a b c d:Int):Pv :=
  let k:Pv:=⟨a.tmod 4,b.tmod 4,c.tmod 4,d.tmod 4⟩
  if k.det=0 then ⟨1,0,0,1⟩ else if k.det<0 then ⟨k.a,k.b,-k.c,-k.d⟩ else k
end
section
set_option maxRecDepth 100000
end
section
section
variable {P:Program}
theorem d7.one {D c i:Nat} {e:TypeId} {is:List Nat} {xs ys:List Value} {u v:Value} {r s:Bool} (hg:∀w,(isAgg e).run P w=.ok false w)
    (ha:xs[i*c]?=some u) (hb:ys[i*c]?=some v) (h:Jg P D e u v r) (h2:d7 P D e c xs ys is s):d7 P D e c xs ys (i::is) (r&&s):=λw=>by
  have e1:(part e xs.toArray (i*c)).run P w=.ok u w:=by simp [part,hg,ha]
  have e2:(part e ys.toArray (i*c)).run P w=.ok v w:=by simp [part,hg,hb]
  simp only [Go.Op.eqItems,Sem.run_bind,e1,e2,Result.andThen_ok,h w]
  cases r
  · simp
  · simp [h2 w]
end
def eK (c:P2×P2×P2) (k:Nat):P2:=if k=0 then c.1 else if k=1 then c.2.1 else c.2.2
def e9 (m:MQ) (t k:Nat):Nat:=(k+m.fst+t*(m.fst/3))%3
def Gw (m:MQ) (t k:Nat):P2:=eK ((JA m).getD t ((0,0),(0,0),(0,0))) (e9 m t k)
structure bX (m:MQ) (pl:List P2) (n:Tq3) (t:Nat):Prop where
  a:n.1<pl.length/\pl.getD n.1 (0,0)=Gw m t 0
  b:n.2.1<pl.length/\pl.getD n.2.1 (0,0)=Gw m t 1
  c:n.2.2<pl.length/\pl.getD n.2.2 (0,0)=Gw m t 2
def Ns (pl:List P2) (p:P2):List P2×Nat:=if p∈pl then (pl,pl.idxOf p) else (pl++[p],pl.length)
def Zm (m:MQ):Nat->List P2×List (Tq3)
  | 0=>([],[])
  | i+1=>((Ns (Ns (Ns (Zm m i).1 (Gw m i 0)).1 (Gw m i 1)).1 (Gw m i 2)).1,
      (Zm m i).2++[((Ns (Zm m i).1 (Gw m i 0)).2,(Ns (Ns (Zm m i).1 (Gw m i 0)).1 (Gw m i 1)).2,(Ns (Ns (Ns (Zm m i).1 (Gw m i 0)).1 (Gw m i 1)).1 (Gw m i 2)).2)])
structure Zt (m:MQ) (i:Nat) (pl:List P2) (ts:List (Tq3)):Prop where
  tl:ts.length=i
  pll:pl.length<=3*i
  at_:∀j,j<i->bX m pl (ts.getD j (0,0,0)) j
  Lc:∀p∈pl,p.1<=6/\p.2<=6
  used:∀a,a<pl.length->∃j,j<i/\((ts.getD j (0,0,0)).1=a\/(ts.getD j (0,0,0)).2.1=a\/(ts.getD j (0,0,0)).2.2=a)
  fn:(pl,ts)=Zm m i
def dz (pl:List P2):Prop:=∀a b,a<pl.length->b<pl.length->pl.getD a (0,0)=pl.getD b (0,0)->a=b
def mapM (m:MQ):Pv:=eU m.a m.b m.c m.d
def XH (a b:List P2):Prop:=a.length<=b.length/\∀j,j<a.length->b.getD j (0,0)=a.getD j (0,0)
theorem XH.trans {a b c:List P2} (h:XH a b) (k:XH b c):XH a c:=⟨xK h.1 k.1,λj hj=>(k.2 j (by have:=h.1;omega)).trans (h.2 j hj)⟩
def bv (t:Tq3) (x:Nat):Bool:=decide (t.1=x)||decide (t.2.1=x)||decide (t.2.2=x)
def e_ (m:MQ) (a b:Nat):Tq3:=(a,b,(a+3*b+m.fst)%5)
def bi (ts:List (Tq3)) (a b:Nat):Nat->Nat
  | 0=>0
  | i+1=>bi ts a b i+(if bv (ts.getD i (0,0,0)) a=true/\bv (ts.getD i (0,0,0)) b=true then 1 else 0)
def dE (m:MQ) (ts:List (Tq3)) (a:Nat):Nat->List (Tq3)
  | 0=>[]
  | j+1=>dE m ts a j++(if bi ts a (a+1+j) ts.length=1 then [e_ m a (a+1+j)] else [])
def Qw (m:MQ) (ts:List (Tq3)) (N:Nat):Nat->List (Tq3)
  | 0=>[]
  | a+1=>Qw m ts N a++dE m ts a (N-(a+1))
structure WM (m:MQ) where
  pl:List P2
  ts:List (Tq3)
  ss:List (Tq3)
  inv:Zt m (JA m).length pl ts
  dst:dz pl
  sl:ss.length<=108*108
  sd:ss=Qw m ts pl.length pl.length
  a:RX (rowsL ec (pl.map λp=>(mapM m).at_ p)) pl.length
  b:RX (rowsL Bk ts) ts.length
  c:RX (rowsL Bk ss) ss.length
def fg {m:MQ} (x:WM m):List Value:=[x.a.val,x.b.val,x.c.val]
theorem dZ {m:MQ} {x:WM m} {y:As} (hy:y∈[x.a.row,x.b.row,x.c.row]):y.ro=true:=by
  simp only [xL,List.not_mem_nil,or_false] at hy
  rcases hy with rfl|rfl|rfl<;>rfl
instance {m:MQ}:CT (WM m):=⟨λx=>aG (fg x),λx=>[x.a.row,x.b.row,x.c.row],λx y hy=>dZ hy⟩
theorem Fq {S:Nat->Prop} {W w:World} {L:List As} (hw:A6 ⟨W,none⟩ w L) (i:Nat) {p:Option Addr} {T:TypeId} {z n c:Nat} {cs:List Value} (hi:L[i]?=some (rowW p T z n c cs)) (ho:OwnOk p n c) (hl:cs.length=n*z):Holds w (AI p cs)/\∀b,(AI p cs).foot=some b->W.heap.size<=b\/S b:=by
  have hb:=hw.newRow hi
  refine ⟨λd e=>?_,λd e=>.inl (hb d e)⟩
  obtain ⟨_,o,ho2,hp⟩:=hw.2.1 _ (List.mem_of_getElem? hi) d e
  exact ⟨o,ho2,DK ho hl hp⟩
section
variable {P:Program} {ops:Array Oper} {rest:List Oper} {Q:Exit->Act->World->Prop} {n d:Nat} {F:List (Nat×Value)} {w0:Av} {S:Nat->Prop} {L:List As} {t:TypeId} {p:String} {af:Array Edge} {y:Operand} {f:FuncId} {xs:List Operand} {args:List Value} {ts:Array TypeId}
end
def dD (p:Option Addr) (T:TypeId) (z n c:Nat) (cs:List Value):As:=⟨p.map (·.block),(rowW p T z n c cs).P,true⟩
theorem Ai.weak {α:Type} [CT α] {S S':Nat->Prop} {W w:World} {e:Ending} (h:Ai α S W e w) (hs:∀b,S b->S' b):Ai α S' W e w:=by
  obtain ⟨a,h1,h2,h3⟩:=h
  exact ⟨a,h1,h2,h3.mono λb h=>h.imp id (hs b)⟩
structure fU (m:MQ) where
  x:WM m
  ob:OwnOk x.b.p x.ts.length x.b.c
def fO {m:MQ} (y:fU m):As:=dD y.x.b.p 64 3 y.x.ts.length y.x.b.c (rowsL Bk y.x.ts)
instance {m:MQ}:CT (fU m):=⟨λy=>aG (fg y.x),λy=>[y.x.a.row,y.x.b.row,y.x.c.row,fO y],λx y hy=>by
  simp only [xL,List.not_mem_nil,or_false] at hy
  rcases hy with rfl|rfl|rfl|rfl<;>rfl⟩
end
section
set_option maxRecDepth 100000
theorem dR:ElemT prog 23 64 3 24:=⟨underlying23,DP jV⟩
end
theorem DB (a b:Rat):a<b\/b<=a:=by grind
theorem EU {α:Type} {enc:α->List Value} {z:Nat} (h:∀x,(enc x).length=z) (d:α) (xs:List α) (j r:Nat) (hj:j<xs.length) (hr:r<z) {v:Value} (hv:(enc (xs.getD j d))[r]?=some v):(rowsL enc xs)[j*z+r]?=some v:=by
  have h1:=BG h d xs j hj
  rw [<-h1,List.getElem?_take_of_lt hr,List.getElem?_drop] at hv
  exact hv
theorem C6 (p:Pt):(Ae p).length=10:=rfl
structure bZ (ps:List Pt) (t:Tq3):Prop where
  a:t.1<ps.length
  b:t.2.1<ps.length
  c:t.2.2<ps.length
  ab:t.1≠t.2.1
  bc:t.2.1≠t.2.2
  ca:t.2.2≠t.1
  pos:0<AF (ps.getD t.1 ⟨0,0⟩) (ps.getD t.2.1 ⟨0,0⟩) (ps.getD t.2.2 ⟨0,0⟩)
def Zs (ps:List Pt) (t:Tq3) (q:Pt):Prop:=0<AF q (ps.getD t.2.1 ⟨0,0⟩) (ps.getD t.2.2 ⟨0,0⟩)/\0<AF (ps.getD t.1 ⟨0,0⟩) q (ps.getD t.2.2 ⟨0,0⟩)/\0<AF (ps.getD t.1 ⟨0,0⟩) (ps.getD t.2.1 ⟨0,0⟩) q
def bY (ps:List Pt) (t:Tq3) (q:Pt):Prop:=0<=AF q (ps.getD t.2.1 ⟨0,0⟩) (ps.getD t.2.2 ⟨0,0⟩)/\0<=AF (ps.getD t.1 ⟨0,0⟩) q (ps.getD t.2.2 ⟨0,0⟩)/\0<=AF (ps.getD t.1 ⟨0,0⟩) (ps.getD t.2.1 ⟨0,0⟩) q
def bm (m:MQ):Nat:=1+m.den%6
def f5 (m:MQ) (z:Int×Int):PD:=⟨⟨z.1,bm m⟩,⟨z.2,bm m⟩⟩
def ek (m:MQ) (zs:List (Int×Int)) (i:Nat):List Pt:=(zs.take i).map λz=>Gh (f5 m z)
def fQ (m:MQ) (pl:List P2):List (Int×Int):=pl.map λp=>(mapM m).at_ p
structure ZQ (ps:List Pt) (ts:List (Tq3)):Prop where
  ne:ts≠[]
  tl:ts.length<=36
  pl:ps.length<=108
  sz:∀i,BD (ps.getD i ⟨0,0⟩)<=4
  tri:∀j,j<ts.length->bZ ps (ts.getD j (0,0,0))
  apart:∀i j,i<ts.length->j<ts.length->i≠j->∀q,Zs ps (ts.getD i (0,0,0)) q->¬bY ps (ts.getD j (0,0,0)) q
  lat:∃(m:MQ) (pl:List P2),Zt m (JA m).length pl ts/\dz pl/\ps=ek m (fQ m pl) pl.length
structure MG where
  ps:List Pt
  ts:List (Tq3)
  ss:List (Tq3)
  good:ZQ ps ts
  sl:ss.length<=108*108
  sd:∃m:MQ,ss=Qw m ts ps.length ps.length
  a:RX (rowsL Ae ps) ps.length
  b:RX (rowsL Bk ts) ts.length
  c:RX (rowsL Bk ss) ss.length
def eY (x:MG):List Value:=[x.a.val,x.b.val,x.c.val]
theorem Zb {x:MG} {y:As} (hy:y∈[x.a.row,x.b.row,x.c.row]):y.ro=true:=by
  simp only [xL,List.not_mem_nil,or_false] at hy
  rcases hy with rfl|rfl|rfl<;>rfl
instance:CT MG:=⟨λx=>aG (eY x),λx=>[x.a.row,x.b.row,x.c.row],λx y hy=>Zb hy⟩
theorem V4 {c z:Rat} (hc:0<c) (h:0<c*z):0<z:=by
  rcases DB 0 z with h1|h1
  · exact h1
  · have:=Rat.mul_nonneg (show 0<=c by grind) (show 0 <= -z by grind)
    grind
def d_ (m:MQ) (ps:List Pt) (ts:List (Tq3)):Prop:=∃pl:List P2,Zt m (JA m).length pl ts/\dz pl/\ps=ek m (fQ m pl) pl.length
structure MF (m:MQ) where
  g:MG
  lat:d_ m g.ps g.ts
instance {m:MQ}:CT (MF m):=⟨λx=>aG (eY x.g),λx=>[x.g.a.row,x.g.b.row,x.g.c.row],λx y hy=>Zb hy⟩
structure fR (m:MQ) where
  f:MF m
  ob:OwnOk f.g.b.p f.g.ts.length f.g.b.c
  da:∀x,f.g.b.p.map (·.block)=some x->f.g.a.p.map (·.block)≠some x
  dc:∀x,f.g.b.p.map (·.block)=some x->f.g.c.p.map (·.block)≠some x
def eZ {m:MQ} (y:fR m):As:=dD y.f.g.b.p 64 3 y.f.g.ts.length y.f.g.b.c (rowsL Bk y.f.g.ts)
instance {m:MQ}:CT (fR m):=⟨λy=>aG (eY y.f.g),λy=>[y.f.g.a.row,y.f.g.b.row,y.f.g.c.row,eZ y],λx y hy=>by
  simp only [xL,List.not_mem_nil,or_false] at hy
  rcases hy with rfl|rfl|rfl|rfl<;>rfl⟩
section
set_option maxRecDepth 100000
theorem UQ (q:QD) (h:q.ok) (w:World)  :Calls prog 50 #[(aG (IE q))] w (AY w (aG (AB (L9 q)))):=by
 obtain ⟨h1,h2,h3⟩:=h
 refine AS (args:=[(aG (IE q))]) func50 O O (leB O) (zG (sL [0] O) (q4 (A9 (cs:=IE q) O λb1=>al CZ O λb2=>q3 (sL [1,2] O) (st' (v:=(pP b1 0)) (AA O underlying29 O sizeOf2 O) O (BZ 1 (vI q.n) dw O (st' (v:=(pP b1 1)) (AA O underlying29 O sizeOf27 O) O (BZ 1 (vK .u32 q.d) bB O (st' (Nf (c:=((max q.d 1:Nat):Int)) O O (by split<;>omega)) O (st' (An (c:=((max q.d 1:Nat):Int)) O underlying27 underlying2 (D_ Z)) O ?_)))))))))
 refine ck' call14 (JG (q.n:Int) ((max q.d 1:Nat):Int) Z Z Z Z Z) O (AL O (st' (AH (v:=(aG (AB (((q.n:Int):Rat)/(((max q.d 1:Nat):Int):Rat))))) O O) O (st' (AH (v:=(vI 0)) O O) O (al CZ O λb3=>Am O sizeOf60 O (asg' O (q3 (sL [2,3] O) (Ah 0 Ay O (DG O sizeOf60 O (oNl' (zB (sL [2,3] O) ?_))))))))))
 exact zA (zF (ret_one O (Aa (i:=1) (cs:=AB (((q.n:Int):Rat)/(((max q.d 1:Nat):Int):Rat))) O O isAgg60 sizeOf60 O) (λw hw=>⟨rfl,hw.out⟩)))
theorem FA (x0:Rat) (x1:Rat):Instr.fill ([(0,5),(5,5)].toArray[·]?) (Ae (⟨0,0⟩:Pt)).toArray [(0,.agg (AB x0).toArray),(1,.agg (AB x1).toArray)]=some (AB x0++AB x1).toArray:=by kernel_rfl
theorem Kb (p:PD) (h:p.ok) (w:World)  :Calls prog 20 #[(aG (Cn p))] w (AY w (aG (Ae (Gh p)))):=by
 have h1:=h.1
 have h2:=h.2
 refine AS (args:=[(aG (Cn p))]) func20 O O (leB O) (zG (sL [0] O) (q4 (A9 (cs:=Cn p) O λb1=>al E6 O λb2=>q6 (sL [1,2] O) (B8 [(0,true),(1,true),(3,true),(4,true),(2,false),(5,false),(6,true),(7,false)] (sl sr) (Ao (v:=(pP b1 0)) O (AA O underlying31 O sizeOf29 O) (Dd 0 (IE p.x) Tt O (Ao (v:=(pP b1 2)) O (AA O underlying31 O sizeOf29 O) (Dd 0 (IE p.y) Tt O (zD O ?_)))))))))
 refine ck' call50 (UQ p.x (by assumption)) O (zC (sl sr) (zD O (ck' call50 (UQ p.y (by assumption)) O (zC (sl sr) (Ao (v:=(aG (AB (L9 p.x)++AB (L9 p.y)))) O (AR (zs:=Ae (⟨0,0⟩:Pt)) (vs:=AB (L9 p.x)++AB (L9 p.y)) (pv:=[(0,(aG (AB (L9 p.x)))),(1,(aG (AB (L9 p.y))))]) (places:=[(0,5),(5,5)]) zeroValue62 underlying62 (λw=>by simp [sizeOf60]) O (FA (L9 p.x) (L9 p.y))) (zD O (Am O sizeOf62 O (zC (sl sr) (zP (zB (sL [2] O) (zA ?_)))))))))))
 exact zF (ret_one O (Aa (i:=0) (cs:=AB (L9 p.x)++AB (L9 p.y)) O O isAgg62 sizeOf62 O) (λw hw=>⟨rfl,hw.out⟩))
end
section
set_option maxRecDepth 100000
theorem fI:ElemT prog 24 96 3 24:=⟨underlying24,DP jV⟩
theorem fJ:ElemT prog 35 62 10 112:=⟨underlying35,DP jV⟩
end
section
structure MX (ps:List Pt) (ts ss:List (Tq3)) where
  a:RX (rowsL Ae ps) ps.length
  b:RX (rowsL Bk ts) ts.length
  c:RX (rowsL Bk ss) ss.length
def DM {ps:List Pt} {ts ss:List (Tq3)} (x:MX ps ts ss):List Value:=[x.a.val,x.b.val,x.c.val]
theorem cU {ps:List Pt} {ts ss:List (Tq3)} {x:MX ps ts ss} {y:As} (hy:y∈[x.a.row,x.b.row,x.c.row]):y.ro=true:=by
  simp only [xL,List.not_mem_nil,or_false] at hy
  rcases hy with rfl|rfl|rfl<;>rfl
instance {ps:List Pt} {ts ss:List (Tq3)}:CT (MX ps ts ss):=⟨λx=>aG (DM x),λx=>[x.a.row,x.b.row,x.c.row],λx y hy=>cU hy⟩
structure BX (cs:List Value) where
  b:Nat
instance {cs:List Value}:CT (BX cs):=⟨λx=>pP x.b 0,λx=>[AI (some ⟨x.b,0,none⟩) cs],λx y hy=>by rcases xM.1 hy with rfl;rfl⟩
theorem TE {b:Nat} {T:TypeId} {cs:List Value} {o:Obj} (h:(AQ b T cs).P o):(AI (jk b) cs).P o:=⟨cs.toArray,T,(0,0),h,by show (cs.toArray.toList.drop 0).take cs.length=cs;simp⟩
section
variable {S:Nat->Prop} {w W:World} {w0:Av} {L:List As} {ps:List Pt} {ts ss:List (Tq3)} {cs:List Value}
theorem dp (hw:A6 w0 w L) (i:Nat) {x:BX cs} (hi:L[i]?=some (AI (some ⟨x.b,0,none⟩) cs)) (hb:w0.w.heap.size<=x.b):Ro (SL w0 S L) w x:=λy hy=>by
  rcases xM.1 hy with rfl
  exact ⟨hw.holds hi,λc e=>⟨⟨_,List.mem_of_getElem? hi,rfl,e⟩,.inl (by injection e with e;rw [<-e];exact hb)⟩⟩
end
section
variable {P:Program} {ops:Array Oper} {rest:List Oper} {Q:Exit->Act->World->Prop} {n d:Nat} {F:List (Nat×Value)} {w0:Av} {S:Nat->Prop} {L:List As} {t:TypeId} {p:String} {af:Array Edge} {y:Operand} {f:FuncId} {xs:List Operand} {args:List Value} {ts:Array TypeId}
theorem yg (i:Nat) {b:Nat} {T:TypeId} {cs:List Value} (hi:L[i]?=some (AQ b T cs)) (hex:w0.ex=none) (next:w0.w.heap.size<=b->AO P ops rest Q n F w0 (L.set i (AI (jk b) cs))):AO P ops rest Q n F w0 L:=λa w ha hw=>by
  refine next ?_ a w ha (hw.freeze hi O (λo hp=>TE hp) (λe=>by cases e))
  rcases (hw.2.1 _ (List.mem_of_getElem? hi) b rfl).1 with h1|h1|h1
  · cases h1
  · exact h1
  · rw [hex] at h1;cases h1
end
def OJ (n:Nat) (t:Tq3):Bool:=decide (t.1<n)&&decide (t.2.1<n)&&decide (t.2.2<n)&&!decide (t.1=t.2.1)&&!decide (t.2.1=t.2.2)&&!decide (t.2.2=t.1)
def EG (n:Nat) (ts:List (Tq3)):Bool:=ts.all (OJ n)
theorem Np {n:Nat} {ts:List (Tq3)} (h:EG n ts=true) {j:Nat} (hj:j<ts.length):OJ n (ts.getD j (0,0,0))=true:=by
  rw [List.getD,xN hj]
  exact List.all_eq_true.1 h _ (List.getElem_mem hj)
theorem LK {n:Nat} {t:Tq3} (h:OJ n t=true):t.1<n/\t.2.1<n/\t.2.2<n:=by
  simp [OJ] at h;omega
def idxB (n:Nat):List (Tq3)->Nat->Int
  | [],_ => -1
  | t::r,i=>if OJ n t=true then idxB n r (i+1) else (i:Int)
theorem Hh {α:Type} {ts:List α} {d:α} {j:Nat} (hj:j<ts.length):ts.drop j=ts.getD j d::ts.drop (j+1):=by
  rw [List.drop_eq_getElem_cons hj,List.getD,xN hj];rfl
theorem S6 {n:Nat} {ts:List (Tq3)} {j:Nat} (hj:j<ts.length) (h:OJ n (ts.getD j (0,0,0))=true):idxB n (ts.drop j) j=idxB n (ts.drop (j+1)) (j+1):=by
  rw [Hh (d:=(0,0,0)) hj];exact if_pos h
theorem VL {n:Nat} {ts:List (Tq3)} {j:Nat} (hj:j<ts.length) (h:OJ n (ts.getD j (0,0,0))=false):idxB n (ts.drop j) j=(j:Int):=by
  rw [Hh (d:=(0,0,0)) hj];exact if_neg (by rw [h];exact Bool.false_ne_true)
theorem VK {n:Nat} {ts:List (Tq3)} {j:Nat} (hj:¬j<ts.length):idxB n (ts.drop j) j = -1:=by
  rw [List.drop_of_length_le Z];rfl
theorem Mq (n:Nat):∀(ts:List (Tq3)) (i:Nat),decide (0<=idxB n ts i)=!EG n ts
  | [],i=>rfl
  | t::r,i=>by
    unfold idxB EG
    rw [List.all_cons]
    cases h:OJ n t with
    | true=>rw [if_pos rfl,Bool.true_and];exact Mq n r (i+1)
    | false=>rw [if_neg Bool.false_ne_true,Bool.false_and];simp
def BJ (ps:List Pt) (k:Nat):Pt:=ps.getD k ⟨0,0⟩
def B3 (a b c p:Pt):Nat:=if AF a b c=0 then 0 else Em (AF p b c/AF a b c) (AF a p c/AF a b c) (AF a b p/AF a b c)
def BR (ps:List Pt) (q:Pt) (t:Tq3):Nat:=B3 (BJ ps t.1) (BJ ps t.2.1) (BJ ps t.2.2) q
def findAt (ps:List Pt) (q:Pt):List (Tq3)->Nat->Int×Nat
  | [],_=>(-1,0)
  | t::r,i=>if BR ps q t=0 then findAt ps q r (i+1) else ((i:Int),BR ps q t)
end
section
structure RM (N:Nat) (ts ss:List (Tq3)) where
  cs:List Value
  ds:List Value
  a:RX cs N
  b:RX (rowsL Bk ts) ts.length
  c:RX ds ss.length
def cx {N:Nat} {ts ss:List (Tq3)} (x:RM N ts ss):List Value:=[x.a.val,x.b.val,x.c.val]
theorem cz {N:Nat} {ts ss:List (Tq3)} {x:RM N ts ss} {y:As} (hy:y∈[x.a.row,x.b.row,x.c.row]):y.ro=true:=by
  simp only [xL,List.not_mem_nil,or_false] at hy
  rcases hy with rfl|rfl|rfl<;>rfl
instance {N:Nat} {ts ss:List (Tq3)}:CT (RM N ts ss):=⟨λx=>aG (cx x),λx=>[x.a.row,x.b.row,x.c.row],λx y hy=>cz hy⟩
section
variable {S:Nat->Prop} {w:World} {N:Nat} {ts ss:List (Tq3)}
theorem e8 {x:RM N ts ss} (h:Ro S w x):Ro S w x.b:=λy hy=>by rcases xM.1 hy with rfl;exact h _ (List.mem_cons_of_mem _ List.mem_cons_self)
end
def MX.rm {ps:List Pt} {ts ss:List (Tq3)} (x:MX ps ts ss):RM ps.length ts ss:=⟨rowsL Ae ps,rowsL Bk ss,x.a,x.b,x.c⟩
theorem ee {S:Nat->Prop} {w:World} {ps:List Pt} {ts ss:List (Tq3)} {x:MX ps ts ss} (h:Ro S w x):Ro S w x.rm:=λy hy=>h y hy
structure RU (N M K:Nat) where
  cs:List Value
  es:List Value
  ds:List Value
  a:RX cs N
  b:RX es M
  c:RX ds K
def gL {N M K:Nat} (x:RU N M K):List Value:=[x.a.val,x.b.val,x.c.val]
theorem dH {N M K:Nat} {x:RU N M K} {y:As} (hy:y∈[x.a.row,x.b.row,x.c.row]):y.ro=true:=by
  simp only [xL,List.not_mem_nil,or_false] at hy
  rcases hy with rfl|rfl|rfl<;>rfl
instance {N M K:Nat}:CT (RU N M K):=⟨λx=>aG (gL x),λx=>[x.a.row,x.b.row,x.c.row],λx y hy=>dH hy⟩
end
end Go.Proofs.YtcpkbjjmcleplaaGreatDoor
