import Derived.Test.YtpolhpjiahbidaaGreatDoorPart03
import Derived.Test.YtpolhpjiahbidaaGreatDoorPart05
import Derived.Test.YtpolhpjiahbidaaGreatDoorPart07
import Derived.Test.YtpolhpjiahbidaaGreatDoorPart10
import Derived.Test.YtpolhpjiahbidaaGreatDoorPart15
import Derived.Test.YtpolhpjiahbidaaGreatDoorPart18
import Derived.Test.YtpolhpjiahbidaaGreatDoorPart22
namespace Go.Proofs.YtpolhpjiahbidaaGreatDoor
open Go Go.RowKit Go.Proofs.Tryz
set_option linter.unusedVariables false
set_option linter.unusedSimpArgs false
section
set_option maxRecDepth 100000
theorem CG {r0:Rat} (x0:FX r0) {r1:Rat} (x1:FX r1):Instr.fill ([(0,3),(3,3)].toArray[·]?) ([(Value.bool false),(Value.slice none 0 0),(Value.slice none 0 0),(Value.bool false),(Value.slice none 0 0),(Value.slice none 0 0)]).toArray [(0,.agg (fxL x0).toArray),(1,.agg (fxL x1).toArray)]=some (fxL x0++fxL x1).toArray:=by kernel_rfl
theorem Sw {x y:Pt} (a:PX x) (b:PX y) (hs:D9 x+D9 y<=2097152) (w:World) {S:Nat->Prop} (ha:Ro S w a) (hb:Ro S w b)  :Calls Tryz.prog 114 #[(aG (D7 a)),(aG (D7 b))] w (Ah (PX (x+y)) S w):=by
 have sxx:=Ek x
 have sxy:=Em x
 have syx:=Ek y
 have syy:=Em y
 have la:=CU (W:=w) ha
 have lb:=CU (W:=w) hb
 refine Aa (args:=[(aG (D7 a)),(aG (D7 b))]) (L:=[By a.x.z.n,By a.x.m,By a.y.z.n,By a.y.m,By b.x.z.n,By b.x.m,By b.y.z.n,By b.y.m]) Tryz.func114 rfl rfl (AK rfl) (V3 ha (V3 hb Al)) (OkC.subF (sL [0,1] rfl) (q4 (Bg (cs:=D7 a) rfl λb1=>Bg (cs:=D7 b) rfl λb2=>al MU rfl λb3=>q6 (sL [2,3,4] rfl) (CV [(0,true),(1,true),(2,true),(3,true),(5,true),(6,true),(7,true),(8,true),(4,false),(9,false),(10,true),(11,false)] (sl sr) (Ag (v:=(pP b1 0)) rfl (AA rfl Tryz.underlying121 rfl Tryz.sizeOf83 rfl) (FL 1 (fxL a.x) DM rfl (Ag (v:=(pP b2 0)) rfl (AA rfl Tryz.underlying121 rfl Tryz.sizeOf83 rfl) (FL 0 (fxL b.x) DM rfl ?_))))))))
 refine Ag (v:=(pP b1 3)) rfl (AA rfl Tryz.underlying121 rfl Tryz.sizeOf83 rfl) (FL 1 (fxL a.y) DM rfl (Ag (v:=(pP b2 3)) rfl (AA rfl Tryz.underlying121 rfl Tryz.sizeOf83 rfl) (FL 0 (fxL b.y) DM rfl (OkE.imp rfl ?_))))
 have hz1:=Fz x.x y.x
 refine cF (S:=S) (x:=(x.x+y.x)) (args:=[(aG (fxL a.x)),(aG (fxL b.x))]) Tryz.call96 (λw hw=>Lo a.x b.x (by (try simp only [DT]);omega) w (V8 (inS hw 3 rfl la)) (V8 (inS hw 7 rfl lb))) rfl rfl rfl λg1 lg1=>OkE.back (sl (sl (sl sr))) (OkE.imp rfl ?_)
 have hz2:=Fz x.y y.y
 exact cF (S:=S) (x:=(x.y+y.y)) (args:=[(aG (fxL a.y)),(aG (fxL b.y))]) Tryz.call96 (λw hw=>Lo a.y b.y (by (try simp only [DT]);omega) w (XB (inS hw 5 rfl la)) (XB (inS hw 9 rfl lb))) rfl rfl rfl λg2 lg2=>OkE.back (sl (sl (sl (sl (sl sr))))) (Ag (v:=(aG (fxL g1++fxL g2))) rfl (AR (zs:=[(Value.bool false),(Value.slice none 0 0),(Value.slice none 0 0),(Value.bool false),(Value.slice none 0 0),(Value.slice none 0 0)]) (vs:=fxL g1++fxL g2) (pv:=[(0,(aG (fxL g1))),(1,(aG (fxL g2)))]) (places:=[(0,3),(3,3)]) Tryz.zeroValue121 Tryz.underlying121 (λw=>by simp [Tryz.sizeOf83]) rfl (CG g1 g2)) (OkE.imp rfl (FZ 4 (off:=0) (vs:=fxL g1++fxL g2) (cs':=fxL g1++fxL g2) (AP rfl) rfl Tryz.sizeOf121 rfl (OkE.back (sl (sl (sl (sl (sl sr))))) (OkE.nil (OkQ.subF (sL [4] rfl) (OkQ.then_ (OkC.ret (ret_one rfl (Aj (i:=4) (cs:=fxL g1++fxL g2) rfl rfl Tryz.isAgg121 Tryz.sizeOf121 rfl) (λw hw=>Df (a:=((PX.mk g1 g2:PX (⟨x.x+y.x,x.y+y.y⟩:Pt)):PX (x+y))) hw (YO (inS hw 2 rfl lg1) (inS hw 0 rfl lg2)) rfl))))))))))
theorem RD {x y:Pt} (a:PX x) (b:PX y) (hs:D9 x+D9 y<=2097152) (w:World) {S:Nat->Prop} (ha:Ro S w a) (hb:Ro S w b)  :Calls Tryz.prog 116 #[(aG (D7 a)),(aG (D7 b))] w (Ah (PX (x-y)) S w):=by
 have sxx:=Ek x
 have sxy:=Em x
 have syx:=Ek y
 have syy:=Em y
 have la:=CU (W:=w) ha
 have lb:=CU (W:=w) hb
 refine Aa (args:=[(aG (D7 a)),(aG (D7 b))]) (L:=[By a.x.z.n,By a.x.m,By a.y.z.n,By a.y.m,By b.x.z.n,By b.x.m,By b.y.z.n,By b.y.m]) Tryz.func116 rfl rfl (AK rfl) (V3 ha (V3 hb Al)) (OkC.subF (sL [0,1] rfl) (q4 (Bg (cs:=D7 a) rfl λb1=>Bg (cs:=D7 b) rfl λb2=>al MU rfl λb3=>q6 (sL [2,3,4] rfl) (CV [(0,true),(1,true),(2,true),(3,true),(5,true),(6,true),(7,true),(8,true),(4,false),(9,false),(10,true),(11,false)] (sl sr) (Ag (v:=(pP b1 0)) rfl (AA rfl Tryz.underlying121 rfl Tryz.sizeOf83 rfl) (FL 1 (fxL a.x) DM rfl (Ag (v:=(pP b2 0)) rfl (AA rfl Tryz.underlying121 rfl Tryz.sizeOf83 rfl) (FL 0 (fxL b.x) DM rfl ?_))))))))
 refine Ag (v:=(pP b1 3)) rfl (AA rfl Tryz.underlying121 rfl Tryz.sizeOf83 rfl) (FL 1 (fxL a.y) DM rfl (Ag (v:=(pP b2 3)) rfl (AA rfl Tryz.underlying121 rfl Tryz.sizeOf83 rfl) (FL 0 (fxL b.y) DM rfl (OkE.imp rfl ?_))))
 have hz1:=Lf x.x y.x
 refine cF (S:=S) (x:=(x.x-y.x)) (args:=[(aG (fxL a.x)),(aG (fxL b.x))]) Tryz.call127 (λw hw=>O1 a.x b.x (by (try simp only [DT]);omega) w (V8 (inS hw 3 rfl la)) (V8 (inS hw 7 rfl lb))) rfl rfl rfl λg1 lg1=>OkE.back (sl (sl (sl sr))) (OkE.imp rfl ?_)
 have hz2:=Lf x.y y.y
 exact cF (S:=S) (x:=(x.y-y.y)) (args:=[(aG (fxL a.y)),(aG (fxL b.y))]) Tryz.call127 (λw hw=>O1 a.y b.y (by (try simp only [DT]);omega) w (XB (inS hw 5 rfl la)) (XB (inS hw 9 rfl lb))) rfl rfl rfl λg2 lg2=>OkE.back (sl (sl (sl (sl (sl sr))))) (Ag (v:=(aG (fxL g1++fxL g2))) rfl (AR (zs:=[(Value.bool false),(Value.slice none 0 0),(Value.slice none 0 0),(Value.bool false),(Value.slice none 0 0),(Value.slice none 0 0)]) (vs:=fxL g1++fxL g2) (pv:=[(0,(aG (fxL g1))),(1,(aG (fxL g2)))]) (places:=[(0,3),(3,3)]) Tryz.zeroValue121 Tryz.underlying121 (λw=>by simp [Tryz.sizeOf83]) rfl (CG g1 g2)) (OkE.imp rfl (FZ 4 (off:=0) (vs:=fxL g1++fxL g2) (cs':=fxL g1++fxL g2) (AP rfl) rfl Tryz.sizeOf121 rfl (OkE.back (sl (sl (sl (sl (sl sr))))) (OkE.nil (OkQ.subF (sL [4] rfl) (OkQ.then_ (OkC.ret (ret_one rfl (Aj (i:=4) (cs:=fxL g1++fxL g2) rfl rfl Tryz.isAgg121 Tryz.sizeOf121 rfl) (λw hw=>Df (a:=((PX.mk g1 g2:PX (⟨x.x-y.x,x.y-y.y⟩:Pt)):PX (x-y))) hw (YO (inS hw 2 rfl lg1) (inS hw 0 rfl lg2)) rfl))))))))))
theorem Nf {x:Pt} {q:Rat} (a:PX x) (k:FX q) (hs:D9 x+Sz q<=2097152) (w:World) {S:Nat->Prop} (ha:Ro S w a) (hk:Ro S w k)  :Calls Tryz.prog 115 #[(aG (D7 a)),(aG (fxL k))] w (Ah (PX (Bc x q)) S w):=by
 have sxx:=Ek x
 have sxy:=Em x
 have la:=CU (W:=w) ha
 have lk:=CU (W:=w) hk
 refine Aa (args:=[(aG (D7 a)),(aG (fxL k))]) (L:=[By a.x.z.n,By a.x.m,By a.y.z.n,By a.y.m,By k.z.n,By k.m]) Tryz.func115 rfl rfl (AK rfl) (V3 ha (NJ hk Al)) (OkC.subF (sL [0,1] rfl) (q4 (Bg (cs:=D7 a) rfl λb1=>Bg (cs:=fxL k) rfl λb2=>al MU rfl λb3=>q6 (sL [2,3,4] rfl) (CV [(0,true),(1,true),(2,true),(4,true),(5,true),(6,true),(3,false),(7,false),(8,true),(9,false)] (sl sr) (Ag (v:=(pP b1 0)) rfl (AA rfl Tryz.underlying121 rfl Tryz.sizeOf83 rfl) (FL 1 (fxL a.x) DM rfl (Ec 0 DM rfl (Ag (v:=(pP b1 3)) rfl (AA rfl Tryz.underlying121 rfl Tryz.sizeOf83 rfl) ?_))))))))
 refine FL 1 (fxL a.y) DM rfl (Ec 0 DM rfl (OkE.imp rfl ?_))
 have hz1:=GA x.x q
 refine cF (S:=S) (x:=(x.x*q)) (args:=[(aG (fxL a.x)),(aG (fxL k))]) Tryz.call98 (λw hw=>LX a.x k (by (try simp only [DT]);omega) w (V8 (inS hw 3 rfl la)) (inS hw 7 rfl lk)) rfl rfl rfl λg1 lg1=>OkE.back (sl (sl (sl sr))) (OkE.imp rfl ?_)
 have hz2:=GA x.y q
 exact cF (S:=S) (x:=(x.y*q)) (args:=[(aG (fxL a.y)),(aG (fxL k))]) Tryz.call98 (λw hw=>LX a.y k (by (try simp only [DT]);omega) w (XB (inS hw 5 rfl la)) (inS hw 9 rfl lk)) rfl rfl rfl λg2 lg2=>OkE.back (sl (sl (sl (sl (sl sr))))) (Ag (v:=(aG (fxL g1++fxL g2))) rfl (AR (zs:=[(Value.bool false),(Value.slice none 0 0),(Value.slice none 0 0),(Value.bool false),(Value.slice none 0 0),(Value.slice none 0 0)]) (vs:=fxL g1++fxL g2) (pv:=[(0,(aG (fxL g1))),(1,(aG (fxL g2)))]) (places:=[(0,3),(3,3)]) Tryz.zeroValue121 Tryz.underlying121 (λw=>by simp [Tryz.sizeOf83]) rfl (CG g1 g2)) (OkE.imp rfl (FZ 4 (off:=0) (vs:=fxL g1++fxL g2) (cs':=fxL g1++fxL g2) (AP rfl) rfl Tryz.sizeOf121 rfl (OkE.back (sl (sl (sl (sl (sl sr))))) (OkE.nil (OkQ.subF (sL [4] rfl) (OkQ.then_ (OkC.ret (ret_one rfl (Aj (i:=4) (cs:=fxL g1++fxL g2) rfl rfl Tryz.isAgg121 Tryz.sizeOf121 rfl) (λw hw=>Df (a:=((PX.mk g1 g2:PX (⟨x.x*q,x.y*q⟩:Pt)):PX (Bc x q))) hw (YO (inS hw 2 rfl lg1) (inS hw 0 rfl lg2)) rfl))))))))))
end
def ng (q:Rat):Nat:=if q.num.sign<0 then 1 else 0
section
def rowsL {α:Type} (enc:α->List Value) (xs:List α):List Value:=xs.flatMap enc
section
variable {α:Type} {enc:α->List Value} {z:Nat}
theorem Ba (xs ys:List α):rowsL enc (xs++ys)=rowsL enc xs++rowsL enc ys:=by simp [rowsL]
theorem Ab (h:∀x,(enc x).length=z) (xs:List α):(rowsL enc xs).length=xs.length*z:=by
  induction xs with
  | nil=>simp [rowsL]
  | cons x r ih =>
    have e:rowsL enc (x::r)=enc x++rowsL enc r:=rfl
    rw [e,List.length_append,ih,h,List.length_cons,Nat.add_mul];omega
theorem An (h:∀x,(enc x).length=z) (d:α):∀(xs:List α) (j:Nat),j<xs.length->((rowsL enc xs).drop (j*z)).take z=enc (xs.getD j d)
  | x::r,0,_=>by
    have e:rowsL enc (x::r)=enc x++rowsL enc r:=rfl
    rw [e,Nat.zero_mul,List.drop_zero,List.take_append_of_le_length (by rw [h];exact Nat.le_refl _),List.take_of_length_le (by rw [h];exact Nat.le_refl _)];rfl
  | x::r,j+1,hj=>by
    have e:rowsL enc (x::r)=enc x++rowsL enc r:=rfl
    rw [e,show (j+1)*z=(enc x).length+j*z by rw [h,Nat.add_mul];omega,List.drop_append,List.drop_of_length_le (by omega),Nat.add_sub_cancel_left,List.nil_append,An h d r j (by simpa using hj)];rfl
end
structure RX (cs:List Value) (n:Nat) where
  p:Option Addr
  c:Nat
  ok:Ak p n c
@[reducible] def RX.val {cs:List Value} {n:Nat} (a:RX cs n):Value:=.slice a.p n a.c
@[reducible] def RX.row {cs:List Value} {n:Nat} (a:RX cs n):As:=AF a.p cs
instance {cs:List Value} {n:Nat}:Ci (RX cs n):=⟨λa=>.slice a.p n a.c,λa=>[AF a.p cs],λa y hy=>by rcases List.mem_singleton.1 hy with rfl;rfl⟩
def Yz (xs:List Nat):List Value:=xs.map λx=>Value.int .u8 (x:Nat)
structure MQ where
  nx:Nat
  ny:Nat
  cs:List Nat
  p:Option Addr
  cap:Nat
  a:Int
  b:Int
  c:Int
  d:Int
  den:Nat
  fst:Nat
  hx:nx<256
  hy:ny<256
  ha:-128<=a/\a<=127
  hb:-128<=b/\b<=127
  hc:-128<=c/\c<=127
  hd:-128<=d/\d<=127
  hden:den<256
  hfst:fst<256
  hcs:∀x∈cs,x<256
  ok:Ak p cs.length cap
def Zp (m:MQ):List Value:=[.int .u8 m.nx,.int .u8 m.ny,.slice m.p m.cs.length m.cap,.int .i8 m.a,.int .i8 m.b,.int .i8 m.c,.int .i8 m.d,.int .u8 m.den,.int .u8 m.fst]
instance:Ci MQ:=⟨λm=>aG (Zp m),λm=>[AF m.p (Yz m.cs)],λa y hy=>by rcases List.mem_singleton.1 hy with rfl;rfl⟩
abbrev P2:=Nat×Nat
def YF (nx way i:Nat):List (P2×P2×P2) :=
  let x:=2*(i%nx);let y:=2*(i/nx)
  if way<3\/(way=7/\i=0) then [((x,y),(x+2,y),(x+2,y+2)),((x,y),(x+2,y+2),(x,y+2))]
  else if way<5 then [((x,y),(x+2,y),(x,y+2)),((x+2,y),(x+2,y+2),(x,y+2))]
  else if way<7 then [((x,y),(x+2,y),(x+1,y+1)),((x+2,y),(x+2,y+2),(x+1,y+1)),((x+2,y+2),(x,y+2),(x+1,y+1)),((x,y+2),(x,y),(x+1,y+1))] else []
section
variable {nx way i u v:Nat}
end
def Ef (p:P2):List Value:=[vN p.1,vN p.2]
def Aq (t:Nat×Nat×Nat):List Value:=[vN t.1,vN t.2.1,vN t.2.2]
theorem BF (t:Nat×Nat×Nat):(Aq t).length=3:=rfl
def Yk (z:Int×Int):List Value:=[.int .i64 z.1,.int .i64 z.2]
def Y1 (m:MQ) (i:Nat):Nat:=if 0<m.cs.length then m.cs.getD (i%m.cs.length) 0%8 else 0
def ZF (m:MQ):Nat:=1+m.nx%3
def Za (m:MQ):Nat:=1+m.ny%3
def RV (m:MQ):Nat->List (P2×P2×P2)
  | 0=>[]
  | i+1=>RV m i++YF (ZF m) (Y1 m i) i
def K_ (m:MQ):List (P2×P2×P2):=RV m (ZF m*Za m)
structure Ok where
  a:Int
  b:Int
  c:Int
  d:Int
def Ok.det (k:Ok):Int:=k.a*k.d-k.b*k.c
def Ok.at_ (k:Ok) (p:P2):Int×Int:=(k.a*p.1+k.b*p.2,k.c*p.1+k.d*p.2)
def Yu (a b c d:Int):Ok :=
  let k:Ok:=⟨a.tmod 4,b.tmod 4,c.tmod 4,d.tmod 4⟩
  if k.det=0 then ⟨1,0,0,1⟩ else if k.det<0 then ⟨k.a,k.b,-k.c,-k.d⟩ else k
end
section
set_option maxRecDepth 100000
end
section
section
variable {P:Program}
theorem O5.one {D c i:Nat} {e:TypeId} {is:List Nat} {xs ys:List Value} {u v:Value} {r s:Bool} (hg:∀w,(isAgg e).run P w=.ok false w)
    (ha:xs[i*c]?=some u) (hb:ys[i*c]?=some v) (h:ER P D e u v r) (h2:O5 P D e c xs ys is s):O5 P D e c xs ys (i::is) (r&&s):=λw=>by
  have e1:(part e xs.toArray (i*c)).run P w=.ok u w:=by simp [part,hg,ha]
  have e2:(part e ys.toArray (i*c)).run P w=.ok v w:=by simp [part,hg,hb]
  simp only [Go.Op.eqItems,Sem.run_bind,e1,e2,Result.andThen_ok,h w]
  cases r
  · simp
  · simp [h2 w]
end
theorem NT:∃i,Tryz.prog.info? 3=some i:=Option.isSome_iff_exists.1 (by kernel_rfl)
theorem Kz:Tryz.prog.cellsOf 3=1:=by kernel_rfl
def Yn (c:P2×P2×P2) (k:Nat):P2:=if k=0 then c.1 else if k=1 then c.2.1 else c.2.2
def Yt (m:MQ) (t k:Nat):Nat:=(k+m.fst+t*(m.fst/3))%3
def Fk (m:MQ) (t k:Nat):P2:=Yn ((K_ m).getD t ((0,0),(0,0),(0,0))) (Yt m t k)
structure XS (m:MQ) (pl:List P2) (n:Nat×Nat×Nat) (t:Nat):Prop where
  a:n.1<pl.length/\pl.getD n.1 (0,0)=Fk m t 0
  b:n.2.1<pl.length/\pl.getD n.2.1 (0,0)=Fk m t 1
  c:n.2.2<pl.length/\pl.getD n.2.2 (0,0)=Fk m t 2
def Ld (pl:List P2) (p:P2):List P2×Nat:=if p∈pl then (pl,pl.idxOf p) else (pl++[p],pl.length)
def XG (m:MQ):Nat->List P2×List (Nat×Nat×Nat)
  | 0=>([],[])
  | i+1=>((Ld (Ld (Ld (XG m i).1 (Fk m i 0)).1 (Fk m i 1)).1 (Fk m i 2)).1,
      (XG m i).2++[((Ld (XG m i).1 (Fk m i 0)).2,(Ld (Ld (XG m i).1 (Fk m i 0)).1 (Fk m i 1)).2,(Ld (Ld (Ld (XG m i).1 (Fk m i 0)).1 (Fk m i 1)).1 (Fk m i 2)).2)])
structure WK (m:MQ) (i:Nat) (pl:List P2) (ts:List (Nat×Nat×Nat)):Prop where
  tl:ts.length=i
  pll:pl.length<=3*i
  at_:∀j,j<i->XS m pl (ts.getD j (0,0,0)) j
  J0:∀p∈pl,p.1<=6/\p.2<=6
  used:∀a,a<pl.length->∃j,j<i/\((ts.getD j (0,0,0)).1=a\/(ts.getD j (0,0,0)).2.1=a\/(ts.getD j (0,0,0)).2.2=a)
  fn:(pl,ts)=XG m i
def Yg (pl:List P2):Prop:=∀a b,a<pl.length->b<pl.length->pl.getD a (0,0)=pl.getD b (0,0)->a=b
def mapM (m:MQ):Ok:=Yu m.a m.b m.c m.d
def Mp (t:Nat×Nat×Nat) (x:Nat):Bool:=decide (t.1=x)||decide (t.2.1=x)||decide (t.2.2=x)
def Yw (m:MQ) (a b:Nat):Nat×Nat×Nat:=(a,b,(a+3*b+m.fst)%5)
def XY (ts:List (Nat×Nat×Nat)) (a b:Nat):Nat->Nat
  | 0=>0
  | i+1=>XY ts a b i+(if Mp (ts.getD i (0,0,0)) a=true/\Mp (ts.getD i (0,0,0)) b=true then 1 else 0)
def XT (m:MQ) (ts:List (Nat×Nat×Nat)) (a:Nat):Nat->List (Nat×Nat×Nat)
  | 0=>[]
  | j+1=>XT m ts a j++(if XY ts a (a+1+j) ts.length=1 then [Yw m a (a+1+j)] else [])
def N3 (m:MQ) (ts:List (Nat×Nat×Nat)) (N:Nat):Nat->List (Nat×Nat×Nat)
  | 0=>[]
  | a+1=>N3 m ts N a++XT m ts a (N-(a+1))
structure WM (m:MQ) where
  pl:List P2
  ts:List (Nat×Nat×Nat)
  ss:List (Nat×Nat×Nat)
  inv:WK m (K_ m).length pl ts
  dst:Yg pl
  sl:ss.length<=108*108
  sd:ss=N3 m ts pl.length pl.length
  a:RX (rowsL Yk (pl.map λp=>(mapM m).at_ p)) pl.length
  b:RX (rowsL Aq ts) ts.length
  c:RX (rowsL Aq ss) ss.length
def ZO {m:MQ} (x:WM m):List Value:=[x.a.val,x.b.val,x.c.val]
theorem Xj {m:MQ} {x:WM m} {y:As} (hy:y∈[x.a.row,x.b.row,x.c.row]):y.ro=true:=by
  simp only [List.mem_cons,List.not_mem_nil,or_false] at hy
  rcases hy with rfl|rfl|rfl<;>rfl
instance {m:MQ}:Ci (WM m):=⟨λx=>aG (ZO x),λx=>[x.a.row,x.b.row,x.c.row],λx y hy=>Xj hy⟩
theorem DC {S:Nat->Prop} {W w:World} {L:List As} (hw:BB ⟨W,none⟩ w L) (i:Nat) {p:Option Addr} {T:TypeId} {z n c:Nat} {cs:List Value} (hi:L[i]?=some (rowW p T z n c cs)) (ho:OwnOk p n c) (hl:cs.length=n*z):Holds w (AF p cs)/\∀b,(AF p cs).foot=some b->W.heap.size<=b\/S b:=by
  have hb:=hw.newRow hi
  refine ⟨λd e=>?_,λd e=>.inl (hb d e)⟩
  obtain ⟨_,o,ho2,hp⟩:=hw.2.1 _ (List.mem_of_getElem? hi) d e
  exact ⟨o,ho2,CD ho hl hp⟩
section
variable {P:Program} {ops:Array Oper} {rest:List Oper} {Q:Exit->Act->World->Prop} {n d:Nat} {F:List (Nat×Value)} {w0:A_} {S:Nat->Prop} {L:List As} {t:TypeId} {p:String} {af:Array Edge} {y:Operand} {f:FuncId} {xs:List Operand} {args:List Value} {ts:Array TypeId}
theorem cX {cs:List Value} {k:Nat} (hc:∀args w,(callFunc f args).run P w=.ok (.enter f args) w) (h:∀w,BB w0 w L->Calls P f args.toArray w (Ah (RX cs k) (SL w0 S L) w))
    (hf:evF F y=some (.func (.func f) #[] #[])) (hargs:xs.map (evF F)=args.map some) (hd:Nat.ble (d+1) n=true) (next:∀a:RX cs k,At w0 S a->OkL P ops rest Q n ((d,.slice a.p k a.c)::F) w0 (AF a.p cs::L)) :
    OkL P ops (⟨some d,.call { callee:=.value y,args:=xs.toArray,argTypes:=ts },t,p,af,none⟩::rest) Q n F w0 L:=OkL.callR hc h hf hargs hd next
end
def Xo (p:Option Addr) (T:TypeId) (z n c:Nat) (cs:List Value):As:=⟨p.map (·.block),(rowW p T z n c cs).P,true⟩
structure ZK (m:MQ) where
  x:WM m
  ob:OwnOk x.b.p x.ts.length x.b.c
def YZ {m:MQ} (y:ZK m):As:=Xo y.x.b.p 105 3 y.x.ts.length y.x.b.c (rowsL Aq y.x.ts)
instance {m:MQ}:Ci (ZK m):=⟨λy=>aG (ZO y.x),λy=>[y.x.a.row,y.x.b.row,y.x.c.row,YZ y],λx y hy=>by
  simp only [List.mem_cons,List.not_mem_nil,or_false] at hy
  rcases hy with rfl|rfl|rfl|rfl<;>rfl⟩
end
section
set_option maxRecDepth 100000
theorem N9:ElemT Tryz.prog 23 105 3 24:=⟨Tryz.underlying23,Da (by kernel_rfl)⟩
end
section
def Do (a b:Nat):Int:=if a<b then -1 else if b<a then 1 else 0
theorem Ph {a b:Nat} (h:a<b):Do a b = -1:=if_pos h
theorem PY {a b:Nat} (h:¬a<b) (h2:b<a):Do a b=1:=by rw [Do,if_neg h,if_pos h2]
theorem PH {a b:Nat} (h:¬a<b) (h2:¬b<a):Do a b=0:=by rw [Do,if_neg h,if_neg h2]
def SK (a b:Int):Int:=if a≠0 then a else if b≠0 then b else 0
section
variable {P:Program} {n:Nat} {F:List (Nat×Value)} {w0:A_} {L:List As} {d:Option Tmp} {x:Operand} {t:TypeId} {p:String} {af:Array Edge} {g:Option (Nat×Bool)}
theorem Dr {tx e:TypeId} {a:Option Addr} {len cap k:Nat} {hi mx:Operand} {ki kj:IntKind} {m:Nat} (hx:evF F x=some (.slice a len cap)) (hh:evF F hi=some (.int ki (m:Nat))) (hj:evF F mx=some (.int kj (m:Nat))) (hu:P.underlying tx=some (.slice e)) (hs:∀w,(sizeOf e).run P w=.ok k w) (hm:m<=cap) :
    Ex P n F w0 L ⟨d,.slice tx x none (some hi) (some mx),t,p,af,g⟩ (.slice a m m):=λA w ha _=>by
  simp only [execOp,ha.ev hx,Instr.sliceAt,run_underlying hu,Instr.slice,Option.map_some,Option.map_none,ha.ev hh,ha.ev hj,Instr.sliceBounds,Instr.sliceBound,asIntOf,Sem.run_bind,Result.andThen_ok,Sem.run_pure]
  have h1:(0:Int)<=(m:Int)/\(m:Int)<=(cap:Int):=⟨by omega,by omega⟩
  simp [h1.2,hs]
  cases a<;>simp [Addr.add]
end
section
variable {P:Program} {ops:Array Oper} {rest:List Oper} {Q:Exit->Act->World->Prop} {n:Nat} {F:List (Nat×Value)} {w0:A_} {L L':List As}
theorem OkL.subL (hs:L'.Sublist L) (h:OkL P ops rest Q n F w0 L'):OkL P ops rest Q n F w0 L:=λa w ha hw=>h a w ha (hw.weak hs)
end
end

theorem Ax {α:Type} {enc:α->List Value} {z:Nat} (h:∀x,(enc x).length=z) (d:α) (xs:List α) (j r:Nat) (hj:j<xs.length) (hr:r<z) {v:Value} (hv:(enc (xs.getD j d))[r]?=some v):(rowsL enc xs)[j*z+r]?=some v:=by
  have h1:=An h d xs j hj
  rw [<-h1,List.getElem?_take_of_lt hr,List.getElem?_drop] at hv
  exact hv
theorem Bk (p:Pt):(BC p).length=10:=rfl
structure Yf (ps:List Pt) (t:Nat×Nat×Nat):Prop where
  a:t.1<ps.length
  b:t.2.1<ps.length
  c:t.2.2<ps.length
  ab:t.1≠t.2.1
  bc:t.2.1≠t.2.2
  ca:t.2.2≠t.1
  pos:0<IF (ps.getD t.1 ⟨0,0⟩) (ps.getD t.2.1 ⟨0,0⟩) (ps.getD t.2.2 ⟨0,0⟩)
def ZA (ps:List Pt) (t:Nat×Nat×Nat) (q:Pt):Prop:=0<IF q (ps.getD t.2.1 ⟨0,0⟩) (ps.getD t.2.2 ⟨0,0⟩)/\0<IF (ps.getD t.1 ⟨0,0⟩) q (ps.getD t.2.2 ⟨0,0⟩)/\0<IF (ps.getD t.1 ⟨0,0⟩) (ps.getD t.2.1 ⟨0,0⟩) q
def Yi (ps:List Pt) (t:Nat×Nat×Nat) (q:Pt):Prop:=0<=IF q (ps.getD t.2.1 ⟨0,0⟩) (ps.getD t.2.2 ⟨0,0⟩)/\0<=IF (ps.getD t.1 ⟨0,0⟩) q (ps.getD t.2.2 ⟨0,0⟩)/\0<=IF (ps.getD t.1 ⟨0,0⟩) (ps.getD t.2.1 ⟨0,0⟩) q
def Xs (m:MQ):Nat:=1+m.den%6
def Zm (m:MQ) (z:Int×Int):PD:=⟨⟨z.1,Xs m⟩,⟨z.2,Xs m⟩⟩
def ZL (m:MQ) (zs:List (Int×Int)) (i:Nat):List Pt:=(zs.take i).map λz=>Fx (Zm m z)
def ZP (m:MQ) (pl:List P2):List (Int×Int):=pl.map λp=>(mapM m).at_ p
structure YB (ps:List Pt) (ts:List (Nat×Nat×Nat)):Prop where
  ne:ts≠[]
  tl:ts.length<=36
  pl:ps.length<=108
  sz:∀i,D9 (ps.getD i ⟨0,0⟩)<=4
  tri:∀j,j<ts.length->Yf ps (ts.getD j (0,0,0))
  apart:∀i j,i<ts.length->j<ts.length->i≠j->∀q,ZA ps (ts.getD i (0,0,0)) q->¬Yi ps (ts.getD j (0,0,0)) q
  lat:∃(m:MQ) (pl:List P2),WK m (K_ m).length pl ts/\Yg pl/\ps=ZL m (ZP m pl) pl.length
structure MG where
  ps:List Pt
  ts:List (Nat×Nat×Nat)
  ss:List (Nat×Nat×Nat)
  good:YB ps ts
  sl:ss.length<=108*108
  sd:∃m:MQ,ss=N3 m ts ps.length ps.length
  a:RX (rowsL BC ps) ps.length
  b:RX (rowsL Aq ts) ts.length
  c:RX (rowsL Aq ss) ss.length
def Yq (x:MG):List Value:=[x.a.val,x.b.val,x.c.val]
theorem V9 {x:MG} {y:As} (hy:y∈[x.a.row,x.b.row,x.c.row]):y.ro=true:=by
  simp only [List.mem_cons,List.not_mem_nil,or_false] at hy
  rcases hy with rfl|rfl|rfl<;>rfl
instance:Ci MG:=⟨λx=>aG (Yq x),λx=>[x.a.row,x.b.row,x.c.row],λx y hy=>V9 hy⟩
def Yl (m:MQ) (ps:List Pt) (ts:List (Nat×Nat×Nat)):Prop:=∃pl:List P2,WK m (K_ m).length pl ts/\Yg pl/\ps=ZL m (ZP m pl) pl.length
structure MF (m:MQ) where
  g:MG
  lat:Yl m g.ps g.ts
instance {m:MQ}:Ci (MF m):=⟨λx=>aG (Yq x.g),λx=>[x.g.a.row,x.g.b.row,x.g.c.row],λx y hy=>V9 hy⟩
structure ZE (m:MQ) where
  f:MF m
  ob:OwnOk f.g.b.p f.g.ts.length f.g.b.c
  da:∀x,f.g.b.p.map (·.block)=some x->f.g.a.p.map (·.block)≠some x
  dc:∀x,f.g.b.p.map (·.block)=some x->f.g.c.p.map (·.block)≠some x
def Yc {m:MQ} (y:ZE m):As:=Xo y.f.g.b.p 105 3 y.f.g.ts.length y.f.g.b.c (rowsL Aq y.f.g.ts)
instance {m:MQ}:Ci (ZE m):=⟨λy=>aG (Yq y.f.g),λy=>[y.f.g.a.row,y.f.g.b.row,y.f.g.c.row,Yc y],λx y hy=>by
  simp only [List.mem_cons,List.not_mem_nil,or_false] at hy
  rcases hy with rfl|rfl|rfl|rfl<;>rfl⟩
section
set_option maxRecDepth 100000
theorem Xa:ElemT Tryz.prog 24 110 3 24:=⟨Tryz.underlying24,Da (by kernel_rfl)⟩
theorem Vt:ElemT Tryz.prog 28 99 10 112:=⟨Tryz.underlying28,Da (by kernel_rfl)⟩
end
section
structure MX (ps:List Pt) (ts ss:List (Nat×Nat×Nat)) where
  a:RX (rowsL BC ps) ps.length
  b:RX (rowsL Aq ts) ts.length
  c:RX (rowsL Aq ss) ss.length
def E6 {ps:List Pt} {ts ss:List (Nat×Nat×Nat)} (x:MX ps ts ss):List Value:=[x.a.val,x.b.val,x.c.val]
theorem X_ {ps:List Pt} {ts ss:List (Nat×Nat×Nat)} {x:MX ps ts ss} {y:As} (hy:y∈[x.a.row,x.b.row,x.c.row]):y.ro=true:=by
  simp only [List.mem_cons,List.not_mem_nil,or_false] at hy
  rcases hy with rfl|rfl|rfl<;>rfl
instance {ps:List Pt} {ts ss:List (Nat×Nat×Nat)}:Ci (MX ps ts ss):=⟨λx=>aG (E6 x),λx=>[x.a.row,x.b.row,x.c.row],λx y hy=>X_ hy⟩
structure BX (cs:List Value) where
  b:Nat
instance {cs:List Value}:Ci (BX cs):=⟨λx=>pP x.b 0,λx=>[AF (some ⟨x.b,0,none⟩) cs],λx y hy=>by rcases List.mem_singleton.1 hy with rfl;rfl⟩
theorem GN {b:Nat} {T:TypeId} {cs:List Value} {o:Obj} (h:(AX b T cs).P o):(AF (some ⟨b,0,none⟩) cs).P o:=⟨cs.toArray,T,(0,0),h,by show (cs.toArray.toList.drop 0).take cs.length=cs;simp⟩
section
variable {S:Nat->Prop} {w W:World} {w0:A_} {L:List As} {ps:List Pt} {ts ss:List (Nat×Nat×Nat)} {cs:List Value}
theorem Yx {x:MX ps ts ss} (h:Ro S w x):Ro S w x.a:=λy hy=>by rcases List.mem_singleton.1 hy with rfl;exact h _ List.mem_cons_self
theorem ZM (hw:BB w0 w L) (i:Nat) {x:BX cs} (hi:L[i]?=some (AF (some ⟨x.b,0,none⟩) cs)) (hb:w0.w.heap.size<=x.b):Ro (SL w0 S L) w x:=λy hy=>by
  rcases List.mem_singleton.1 hy with rfl
  exact ⟨hw.holds hi,λc e=>⟨⟨_,List.mem_of_getElem? hi,rfl,e⟩,.inl (by injection e with e;rw [<-e];exact hb)⟩⟩
end
section
variable {P:Program} {ops:Array Oper} {rest:List Oper} {Q:Exit->Act->World->Prop} {n d:Nat} {F:List (Nat×Value)} {w0:A_} {S:Nat->Prop} {L:List As} {t:TypeId} {p:String} {af:Array Edge} {y:Operand} {f:FuncId} {xs:List Operand} {args:List Value} {ts:Array TypeId}
theorem OkL.frzX (i:Nat) {b:Nat} {T:TypeId} {cs:List Value} (hi:L[i]?=some (AX b T cs)) (hex:w0.ex=none) (next:w0.w.heap.size<=b->OkL P ops rest Q n F w0 (L.set i (AF (some ⟨b,0,none⟩) cs))):OkL P ops rest Q n F w0 L:=λa w ha hw=>by
  refine next ?_ a w ha (hw.freeze hi rfl (λo hp=>GN hp) (λe=>by cases e))
  rcases (hw.2.1 _ (List.mem_of_getElem? hi) b rfl).1 with h1|h1|h1
  · cases h1
  · exact h1
  · rw [hex] at h1;cases h1
end
def L3 (n:Nat) (t:Nat×Nat×Nat):Bool:=decide (t.1<n)&&decide (t.2.1<n)&&decide (t.2.2<n)&&!decide (t.1=t.2.1)&&!decide (t.2.1=t.2.2)&&!decide (t.2.2=t.1)
def B8 (n:Nat) (ts:List (Nat×Nat×Nat)):Bool:=ts.all (L3 n)
theorem ED {n:Nat} {ts:List (Nat×Nat×Nat)} (h:B8 n ts=true) {j:Nat} (hj:j<ts.length):L3 n (ts.getD j (0,0,0))=true:=by
  rw [List.getD,List.getElem?_eq_getElem hj]
  exact List.all_eq_true.1 h _ (List.getElem_mem hj)
theorem FB {n:Nat} {t:Nat×Nat×Nat} (h:L3 n t=true):t.1<n/\t.2.1<n/\t.2.2<n:=by
  simp [L3] at h;omega
def idxB (n:Nat):List (Nat×Nat×Nat)->Nat->Int
  | [],_ => -1
  | t::r,i=>if L3 n t=true then idxB n r (i+1) else (i:Int)
theorem Dq {α:Type} {ts:List α} {d:α} {j:Nat} (hj:j<ts.length):ts.drop j=ts.getD j d::ts.drop (j+1):=by
  rw [List.drop_eq_getElem_cons hj,List.getD,List.getElem?_eq_getElem hj];rfl
theorem Q0 {n:Nat} {ts:List (Nat×Nat×Nat)} {j:Nat} (hj:j<ts.length) (h:L3 n (ts.getD j (0,0,0))=true):idxB n (ts.drop j) j=idxB n (ts.drop (j+1)) (j+1):=by
  rw [Dq (d:=(0,0,0)) hj];exact if_pos h
theorem Sg {n:Nat} {ts:List (Nat×Nat×Nat)} {j:Nat} (hj:j<ts.length) (h:L3 n (ts.getD j (0,0,0))=false):idxB n (ts.drop j) j=(j:Int):=by
  rw [Dq (d:=(0,0,0)) hj];exact if_neg (by rw [h];exact Bool.false_ne_true)
theorem SC {n:Nat} {ts:List (Nat×Nat×Nat)} {j:Nat} (hj:¬j<ts.length):idxB n (ts.drop j) j = -1:=by
  rw [List.drop_of_length_le (by omega)];rfl
theorem Kq (n:Nat):∀(ts:List (Nat×Nat×Nat)) (i:Nat),decide (0<=idxB n ts i)=!B8 n ts
  | [],i=>rfl
  | t::r,i=>by
    unfold idxB B8
    rw [List.all_cons]
    cases h:L3 n t with
    | true=>rw [if_pos rfl,Bool.true_and];exact Kq n r (i+1)
    | false=>rw [if_neg Bool.false_ne_true,Bool.false_and];simp
def OP (ps:List Pt) (k:Nat):Pt:=ps.getD k ⟨0,0⟩
end
section
structure RM (N:Nat) (ts ss:List (Nat×Nat×Nat)) where
  cs:List Value
  ds:List Value
  a:RX cs N
  b:RX (rowsL Aq ts) ts.length
  c:RX ds ss.length
def Gc {N:Nat} {ts ss:List (Nat×Nat×Nat)} (x:RM N ts ss):List Value:=[x.a.val,x.b.val,x.c.val]
theorem YJ {N:Nat} {ts ss:List (Nat×Nat×Nat)} {x:RM N ts ss} {y:As} (hy:y∈[x.a.row,x.b.row,x.c.row]):y.ro=true:=by
  simp only [List.mem_cons,List.not_mem_nil,or_false] at hy
  rcases hy with rfl|rfl|rfl<;>rfl
instance {N:Nat} {ts ss:List (Nat×Nat×Nat)}:Ci (RM N ts ss):=⟨λx=>aG (Gc x),λx=>[x.a.row,x.b.row,x.c.row],λx y hy=>YJ hy⟩
section
variable {S:Nat->Prop} {w:World} {N:Nat} {ts ss:List (Nat×Nat×Nat)}
theorem Xc {x:RM N ts ss} (h:Ro S w x):Ro S w x.b:=λy hy=>by rcases List.mem_singleton.1 hy with rfl;exact h _ (List.mem_cons_of_mem _ List.mem_cons_self)
end
def MX.rm {ps:List Pt} {ts ss:List (Nat×Nat×Nat)} (x:MX ps ts ss):RM ps.length ts ss:=⟨rowsL BC ps,rowsL Aq ss,x.a,x.b,x.c⟩
theorem YI {S:Nat->Prop} {w:World} {ps:List Pt} {ts ss:List (Nat×Nat×Nat)} {x:MX ps ts ss} (h:Ro S w x):Ro S w x.rm:=λy hy=>h y hy
structure RU (N M K:Nat) where
  cs:List Value
  es:List Value
  ds:List Value
  a:RX cs N
  b:RX es M
  c:RX ds K
def U9 {N M K:Nat} (x:RU N M K):List Value:=[x.a.val,x.b.val,x.c.val]
theorem XW {N M K:Nat} {x:RU N M K} {y:As} (hy:y∈[x.a.row,x.b.row,x.c.row]):y.ro=true:=by
  simp only [List.mem_cons,List.not_mem_nil,or_false] at hy
  rcases hy with rfl|rfl|rfl<;>rfl
instance {N M K:Nat}:Ci (RU N M K):=⟨λx=>aG (U9 x),λx=>[x.a.row,x.b.row,x.c.row],λx y hy=>XW hy⟩
end
end Go.Proofs.YtpolhpjiahbidaaGreatDoor
